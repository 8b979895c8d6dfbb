/-
  Each operation of the abstract machine is what the program does: the first part.
-/
import Derived.Test.YtjjdebhkbfeniaaGreatDoorMa
set_option linter.unusedSimpArgs false
set_option linter.unusedVariables false
set_option linter.unusedSectionVars false
namespace Go.Abs
variable {P:Program} {w0:World}
def ERel(m:Mem)(env:Env)(tmps:Array Value):Prop:= ∀ t,VRel m (env t) (tmps.getD t undef)
theorem ERel.ev{m m':Mem}(h:Ev m m'){env:Env}{tmps:Array Value}(hr:ERel m env tmps):ERel m' env tmps:=fun t=>(hr t).ev h.zero
theorem VRel.one{m:Mem}{c:C}{v:Value}:VRel m (.one c) v↔CRel m c v:=Iff.rfl
theorem VRel.agg{m:Mem}{cs:List C}{v:Value}:VRel m (.agg cs) v↔ ∃ arr,v= .agg arr∧CsRel m cs arr.toList:=Iff.rfl
theorem VRel.of1{m:Mem}{x:V}{v:Value}(h:VRel1 m x v):VRel m x v:=by
 cases x with
 |tup vs=>exact h.elim
 |_=>exact h
theorem constP_rel{w:World}{own:Nat→Prop}{v:Value}{x:PV}(h:constP v=some x):PRel w own x v:=by
 unfold constP at h;split at h<;>first
  |(cases h;constructor;done)
  |cases h
theorem constsP_rel{w:World}{own:Nat→Prop}: ∀ {vs:List Value} {xs:List PV},constsP vs=some xs→PsRel w own xs vs:=by
 intro vs
 induction vs with
 |nil=>intro xs h;simp[constsP] at h;subst h;exact⟨rfl,fun j x u a _=>by simp at a⟩
 |cons v r ih=>
  intro xs h;simp only[constsP] at h;split at h
  ·rename_i x ys h1 h2;cases h
   obtain⟨hl,hr⟩:=ih h2;refine⟨by simp[hl],fun j z u a b=> ?_⟩;cases j with
   |zero=>simp at a b;subst a b;exact constP_rel h1
   |succ j=>simp at a b;exact hr j z u a b
  ·cases h
theorem PsRel.toC{m:Mem}{xs:List PV}{vs:List Value}(h:PsRel m.w m.own xs vs):CsRel m (xs.map .p) vs:=by
 refine⟨by simp[h.1],fun j x u a b=> ?_⟩;simp only[List.getElem?_map,Option.map_eq_some_iff] at a;obtain⟨y,hy,rfl⟩:=a;exact .p (h.2 j y u hy b)
theorem constV_rel{m:Mem}{v:Value}{x:V}(h:constV v=some x):VRel m x v:=by
 unfold constV at h;split at h
 ·simp only[Option.map_eq_some_iff] at h;obtain⟨xs,h1,rfl⟩:=h;exact VRel.agg.2 ⟨_,rfl,(constsP_rel h1).toC⟩
 ·simp only[Option.map_eq_some_iff] at h;obtain⟨y,h1,rfl⟩:=h;exact VRel.one.2 (.p (constP_rel h1))
theorem argC_rel{m:Mem}{env:Env}{a:Act}{x:Operand}{y:IArg}(h:argC x=some y)(hr:ERel m env a.tmps):VRel m (ev env y) (a.eval x):=by
 unfold argC at h;split at h
 ·cases h;exact hr _
 ·cases h;exact VRel.one.2 (.p (.int _ _))
 ·cases h;exact VRel.one.2 (.p (.bool _))
 ·simp only[Option.map_eq_some_iff] at h;obtain⟨v,h1,rfl⟩:=h;exact constV_rel h1
 ·cases h
  exact VRel.one.2 (.p (.fn #[] #[] rfl rfl (fun j x u a=>by simp at a) (fun j x u a=>by simp at a)))
 ·cases h
def Does(P:Program)(ρ:Operand→Value)(o:Oper)(w:World)(x:Value)(w':World):Prop:=
 (execOp ρ o).run P w= .ok (.value x) w'∨((execOp ρ o).run P w= .ok .skip w'∧x=undef)
def OpOk(P:Program)(w0:World)(ρ:Operand→Value)(o:Oper)(m:Mem)(v:V)(u:List Upd):Prop:=
 ∃ x m',Does P ρ o m.w x m'.w∧Ok w0 m'∧Ev m m'∧m'.fr=m.fr∧m'.blk=app u m.blk∧VRel m' v x
theorem OpOk.calm{ρ:Operand→Value}{o:Oper}{m:Mem}{v:V}{x:Value}(h:Ok w0 m)(hrun:(execOp ρ o).run P m.w= .ok (.value x) m.w)(hv:VRel m v x):OpOk P w0 ρ o m v []:=
 ⟨x,m, .inl hrun,h,Ev.refl m,rfl,rfl,hv⟩
section
variable {m:Mem} {env:Env} {a:Act} {o:Oper} (hok:Ok w0 m) (hr:ERel m env a.tmps)
include hok hr
theorem sim_move{x:Operand}{y:IArg}(ho:o.op= .move x∨o.op= .assign x)(hx:argC x=some y):OpOk P w0 a.eval o m (ev env y) []:=
 .calm hok (by rcases ho with ho|ho<;>simp[execOp,ho]) (argC_rel hx hr)
theorem sim_pick{c x y:Operand}{c' x' y':IArg}{t:Bool}(ho:o.op= .pick c x y)(hc:argC c=some c')(hx:argC x=some x')(hy:argC y=some y')
  (ht:ev env c'= .one (.p (.bool t))):OpOk P w0 a.eval o m (if t then ev env x' else ev env y') []:=by
 have h1:=argC_rel hc hr;rw[ht] at h1;obtain⟨⟩:CRel m (.p (.bool t)) _:=h1;rename_i hp;generalize hb:a.eval c=b at hp;cases hp
 refine .calm (x:=if t then a.eval x else a.eval y) hok ?_ ?_
 ·simp[execOp,ho,hb,asBool]
 ·cases t
  ·exact argC_rel hy hr
  ·exact argC_rel hx hr
end
theorem inv_bool{m:Mem}{b:Bool}{v:Value}(h:VRel m (.one (.p (.bool b))) v):v= .bool b:=by
 obtain⟨hp⟩:CRel m _ v:=h;cases hp;rfl
theorem inv_int{m:Mem}{k:IntKind}{n:Int}{v:Value}(h:VRel m (.one (.p (.int k n))) v):v= .int k n:=by
 obtain⟨hp⟩:CRel m _ v:=h;cases hp;rfl
theorem inv_str{m:Mem}{s:ByteArray}{v:Value}(h:VRel m (.one (.p (.str s))) v):v= .string s:=by
 obtain⟨hp⟩:CRel m _ v:=h;cases hp;rfl
theorem inv_nils{m:Mem}{v:Value}(h:VRel m (.one (.p .nils)) v):v= .slice none 0 0:=by
 obtain⟨hp⟩:CRel m _ v:=h;cases hp;rfl
theorem inv_nilm{m:Mem}{v:Value}(h:VRel m (.one (.p .nilm)) v):v= .map none:=by
 obtain⟨hp⟩:CRel m _ v:=h;cases hp;rfl
theorem mk_p{m:Mem}{x:PV}{v:Value}(h:PRel m.w m.own x v):VRel m (.one (.p x)) v:=VRel.one.2 (.p h)
def Mem.fresh(m:Mem)(ob:Obj)(s k:Nat)(o:Ob):Mem:=(m.later (m.w.alloc ob) (· =m.w.heap.size)).install s m.w.heap.size k o
theorem fresh_fr{m:Mem}(hok:Ok w0 m)(ob:Obj)(s k:Nat)(o:Ob):(m.fresh ob s k o).fr=m.fr:=by
 funext c;simp only[Mem.fresh,Mem.install,Mem.later];apply propext;constructor
 ·rintro ⟨h|h,h2⟩
  ·exact h
  ·exact(h2 h).elim
 ·intro h;exact⟨.inl h,fun e=>by have:=hok.frlt c h;omega⟩
theorem fresh_ev{m:Mem}(ob:Obj)(s k:Nat)(o:Ob):Ev m (m.fresh ob s k o):=
 install_ev (later_ev (Grew.alloc m.w ob) fun c hc=>Nat.le_of_eq hc.symm) (.inr rfl) (.inl (Nat.le_refl _))
theorem fresh_heap{m:Mem}(ob:Obj)(s k:Nat)(o:Ob):(m.fresh ob s k o).w.heap[(m.fresh ob s k o).σ s]? =some ob:=by
 have:(m.fresh ob s k o).σ s=m.w.heap.size:=by simp[Mem.fresh,Mem.install,upd_apply]
 rw[this];exact heap_alloc_new m.w ob
theorem fresh_ok{m:Mem}(hok:Ok w0 m)(ob:Obj)(s k:Nat)(o:Ob)(ho:ORel (m.fresh ob s k o) s o):Ok w0 (m.fresh ob s k o):=
 install_ok (later_ok hok (Grew.alloc m.w ob) fun c hc=>by subst hc;exact⟨Nat.le_refl _,by simp⟩) (.inr rfl) hok.size ho
theorem fresh_blk(m:Mem)(ob:Obj)(s k:Nat)(o:Ob):(m.fresh ob s k o).blk=app [(s,((m.blk s).1+1,some o))] m.blk:=rfl
theorem fresh_var{m:Mem}(hok:Ok w0 m)(s:Nat)(t:TypeId)(cs:List C)(arr:Array Value)(hc:CsRel m cs arr.toList):
  Ok w0 (m.fresh (.cells arr t) s 0 (.var cs))∧VRel (m.fresh (.cells arr t) s 0 (.var cs)) (.one (.href s ((m.blk s).1+1) 0)) (.pointer (some ⟨m.w.heap.size,0,none⟩)):=by
 refine⟨fresh_ok hok _ s 0 _ ⟨arr,t,fresh_heap _ s 0 _,hc.ev (fresh_ev _ s 0 _).zero⟩,VRel.one.2 (.href _ ?_ fun _ _=> ?_)⟩
 ·simp[Mem.fresh,Mem.install,Mem.later,upd_apply]
 ·simp[Mem.fresh,Mem.install,upd_apply]
theorem zeroC_run{t:TypeId}{z:List PV}(h:zeroC P t=some z): ∃ v i,P.info? t=some i∧i.zero=some v∧v.cells.size=i.size∧z.length=i.size∧ ∀ w own,PsRel w own z v.cells.toList:=by
 unfold zeroC at h;split at h
 ·rename_i i hi;split at h
  ·rename_i cs hz;split at h
   ·rename_i hs;have hr:=fun w own=>constsP_rel (w:=w) (own:=own) h
    refine⟨_,i,hi,hz,by simpa [Value.cells] using hs,?_,fun w own=>by simpa [Value.cells] using hr w own⟩;have:=(hr default (fun _=>False)).1;simp at this;omega
   ·cases h
  ·rename_i v hz hv;split at h
   ·rename_i hs;simp only[Option.map_eq_some_iff] at h;obtain⟨x,hx,rfl⟩:=h;have hr:=fun w own=>constP_rel (w:=w) (own:=own) hx
    have hc:=(hr default (fun _=>False)).cells;refine⟨v,i,hi,hv,by simp[hc,hs],by simp[hs],fun w own=> ?_⟩;rw[hc];refine⟨rfl,fun j y u a b=> ?_⟩;cases j with
    |zero=>simp at a b;subst a b;exact hr w own
    |succ j=>simp at a
   ·cases h
  ·cases h
 ·cases h
section
variable {m:Mem} {env:Env} {a:Act} {o:Oper} (hok:Ok w0 m) (hr:ERel m env a.tmps)
include hok
theorem sim_alloc{t:TypeId}{z:List PV}{s:Nat}(ho:o.op= .alloc t)(hz:zeroC P t=some z):
  OpOk P w0 a.eval o m (.one (.href s ((m.blk s).1+1) 0)) [(s,((m.blk s).1+1,some (.var (z.map .p))))]:=by
 obtain⟨v,i,hi,hv,hs,hl,hps⟩:=zeroC_run hz;obtain⟨h1,h2⟩:=fresh_var hok s t (z.map .p) v.cells (hps m.w m.own).toC;refine⟨_,_, .inl ?_,h1,fresh_ev _ s 0 _,fresh_fr hok _ s 0 _,fresh_blk _ _ s 0 _,h2⟩;simp[execOp,ho,Instr.alloc,zeroValue,typeInfo,hi,hv,newVar,newRow];rfl
include hr
theorem sim_box{t:TypeId}{x:Operand}{y:IArg}{cs:List C}{s:Nat}(ho:o.op= .box t x)(hx:argC x=some y)(hc:cellsV (ev env y)=some cs):
  OpOk P w0 a.eval o m (.one (.href s ((m.blk s).1+1) 0)) [(s,((m.blk s).1+1,some (.var cs)))]:=by
 have hv:=argC_rel hx hr;have hcs:CsRel m cs (a.eval x).cells.toList:=by
  generalize ev env y=w at hc hv;cases w with
  |undef=>simp[cellsV] at hc
  |tup vs=>simp[cellsV] at hc
  |one c=>
   simp[cellsV] at hc;subst hc;rw[(VRel.one.1 hv).cells];refine⟨rfl,fun j y u p q=> ?_⟩;cases j with
   |zero=>simp at p q;subst p q;exact hv
   |succ j=>simp at p
  |agg ds=>
   simp[cellsV] at hc;subst hc;obtain⟨arr,e,h⟩:=VRel.agg.1 hv;rw[e];exact h
 obtain⟨h1,h2⟩:=fresh_var hok s t cs _ hcs;refine⟨_,_, .inl ?_,h1,fresh_ev _ s 0 _,fresh_fr hok _ s 0 _,fresh_blk _ _ s 0 _,h2⟩;simp[execOp,ho,Instr.box,newVar,newRow];rfl
end
end Go.Abs
namespace Go.Abs
variable {P:Program} {w0:World}
theorem flat_len{α:Type}{sz:Nat}: ∀ {es:List (List α)},(∀ e∈es,e.length=sz)→es.flatten.length=es.length*sz:=by
 intro es
 induction es with
 |nil=>intro _;simp
 |cons e r ih=>
  intro h;have h1:=h e (by simp);have h2:=ih fun x hx=>h x (by simp[hx])
  simp only[List.flatten_cons,List.length_append,List.length_cons,h1,h2,Nat.add_mul,Nat.one_mul];omega
theorem flat_at{α:Type}{sz:Nat}: ∀ {es:List (List α)},(∀ e∈es,e.length=sz)→ ∀ {i:Nat} {e:List α},es[i]? =some e→ ∀ {j:Nat},j<sz→es.flatten[i*sz+j]? =e[j]? :=by
 intro es
 induction es with
 |nil=>intro _ i e h;simp at h
 |cons x r ih=>
  intro h i e he j hj;have h1:=h x (by simp);cases i with
  |zero=>
   simp at he;subst he;simp only[List.flatten_cons,Nat.zero_mul,Nat.zero_add];rw[List.getElem?_append_left (by omega)]
  |succ i=>
   simp at he;have h2:=ih (fun y hy=>h y (by simp[hy])) he hj;simp only[List.flatten_cons];rw[List.getElem?_append_right (by rw[h1,Nat.add_mul];omega),← h2];congr 1;rw[h1,Nat.add_mul];omega
theorem getElem?_mem_len{α:Type}{sz:Nat}{es:List (List α)}(h: ∀ e∈es,e.length=sz){i:Nat}{e:List α}(he:es[i]? =some e):e.length=sz:=h e (List.mem_of_getElem? he)
theorem cell_row{w:World}{b k:Nat}{cur:Array Value}{ty:TypeId}{fz:Nat × Nat}(h:w.heap[b]? =some (.cells cur ty fz)):w.cell? ⟨b,k,none⟩=cur[k]? :=cell_of_row w b k cur ty fz h
def At (m:Mem)(v:Value)(cs:List C):Prop:=
 ∃ b o vs,v= .pointer (some ⟨b,o,none⟩)∧CsRel m cs vs∧ ∀ (j:Nat) (u:Value),vs[j]? =some u→m.w.cell? ⟨b,o+j,none⟩=some u
theorem At.row{m:Mem}{b o:Nat}{cur:Array Value}{ty:TypeId}{fz:Nat × Nat}(h:m.w.heap[b]? =some (.cells cur ty fz)){cs:List C}(hl:o+cs.length≤cur.size)
  (hc: ∀ (j:Nat) (x:C) (u:Value),cs[j]? =some x→cur[o+j]? =some u→CRel m x u):At m (.pointer (some ⟨b,o,none⟩)) cs:=by
 refine⟨b,o,(cur.toList.drop o).take cs.length,rfl,⟨by simp;omega,fun j x u p q=> ?_⟩,fun j u q=> ?_⟩
 ·rw[List.getElem?_take] at q;split at q
  ·exact hc j x u p (by simpa using q)
  ·cases q
 ·rw[List.getElem?_take] at q;split at q
  ·rw[cell_row h];simpa using q
  ·cases q
theorem rdAt_rel{m:Mem}(hok:Ok w0 m){x:V}{v:Value}{cs:List C}{rd:List Nat}(h:rdAt m.blk x=some (cs,rd))(hv:VRel m x v):At m v cs:=by
 unfold rdAt at h;split at h
 ·rename_i ps;simp only[Option.some.injEq,Prod.mk.injEq] at h;obtain⟨rfl,rfl⟩:=h;obtain⟨hp⟩:CRel m _ v:=hv;cases hp with
  |box b o f ho hc hr=>
   refine⟨b,o,(List.range ps.length).map f,rfl,⟨by simp,fun j x u p q=> ?_⟩,fun j u q=> ?_⟩
   ·simp only[List.getElem?_map,Option.map_eq_some_iff] at p q;obtain⟨y,hy,rfl⟩:=p;obtain⟨k,hk,rfl⟩:=q;have hk':k=j:=by
     rw[List.getElem?_range (by have:=List.getElem?_eq_some_iff.1 hy;obtain⟨h,_⟩:=this;exact h)] at hk
     simpa using hk.symm
    subst hk';exact .p (hr k y hy)
   ·simp only[List.getElem?_map,Option.map_eq_some_iff] at q;obtain⟨k,hk,rfl⟩:=q;have hlt:j<ps.length:=by
     have:=List.getElem?_eq_some_iff.1 hk;obtain⟨h,_⟩:=this;simpa using h
    rw[List.getElem?_range hlt] at hk;simp at hk;subst hk;exact hc j _ (List.getElem?_eq_getElem hlt)
 ·rename_i id g off;have hv:CRel m _ v:=hv;cases hv with
  |href a hg ha=>
   split at h
   ·rename_i g' cs0 hb;split at h
    ·rename_i hgg;simp only[Option.some.injEq,Prod.mk.injEq] at h;obtain⟨rfl,rfl⟩:=h;have hb2:(m.blk id).2=some (.var cs0):=by rw[hb]
     have ha:=ha (by rw[hb];exact hgg) (by rw[hb2];rfl);subst ha;obtain⟨cur,ty,hh,hl,hc⟩:=hok.obj id _ hb2;simp at hl;by_cases ho:off≤cs0.length
     ·exact At.row hh (by simp;omega) fun j x u p q=>hc (off+j) x u (by simpa using p) (by simpa using q)
     ·exact⟨_,_,[],rfl,⟨by simp;omega,fun j x u p q=>by simp at q⟩,fun j u q=>by simp at q⟩
    ·cases h
   ·rename_i g' cs0 hb;split at h
    ·rename_i hgg;simp only[Option.some.injEq,Prod.mk.injEq] at h;obtain⟨rfl,rfl⟩:=h;have hb2:(m.blk id).2=some (.fvar cs0):=by rw[hb]
     have ha:=ha (by rw[hb];exact hgg) (by rw[hb2];rfl);subst ha;obtain⟨cur,ty,fz,hh,hp,_⟩:=hok.obj id _ hb2;have hl:=hp.1;simp at hl;by_cases ho:off≤cs0.length
     ·refine At.row hh (by simp;omega) fun j x u p q=> ?_
      simp only[List.getElem?_map,Option.map_eq_some_iff] at p;obtain⟨y,hy,rfl⟩:=p;exact .p (hp.2 (off+j) y u (by simpa using hy) (by simpa using q))
     ·exact⟨_,_,[],rfl,⟨by simp;omega,fun j x u p q=>by simp at q⟩,fun j u q=>by simp at q⟩
    ·cases h
   ·cases h
 ·rename_i id g i off;have hv:CRel m _ v:=hv;cases hv with
  |hel a hg ha=>
   have key: ∀ (sz:Nat) (e:List C) (cur:Array Value) (ty:TypeId) (fz:Nat × Nat),m.w.heap[m.σ id]? =some (.cells cur ty fz)→e.length=sz→(i+1)*sz≤cur.size→
     a=⟨m.σ id,i*sz+off,none⟩→(∀ (j:Nat) (x:C) (u:Value),e[j]? =some x→cur[i*sz+j]? =some u→CRel m x u)→At m (.pointer (some a)) (e.drop off):=by
    intro sz e cur ty fz hh he hlt haa hc;subst haa;rw[Nat.add_mul,Nat.one_mul] at hlt;by_cases ho:off≤e.length
    ·exact At.row hh (by simp;omega) fun j x u p q=>hc (off+j) x u (by simpa using p) (by rw[← Nat.add_assoc];exact q)
    ·exact⟨_,_,[],rfl,⟨by simp;omega,fun j x u p q=>by simp at q⟩,fun j u q=>by simp at q⟩
   have pure: ∀ (ty sz:Nat) (es:List (List PV)) (e:List PV) (cur:Array Value) (fz:Nat × Nat),m.w.heap[m.σ id]? =some (.cells cur ty fz)→(∀ e∈es,e.length=sz)→es.length*sz≤cur.size→
     PsRel m.w m.own es.flatten (cur.toList.take (es.length*sz))→es[i]? =some e→a=⟨m.σ id,i*sz+off,none⟩→At m (.pointer (some a)) ((e.drop off).map .p):=by
    intro ty sz es e cur fz hh hsz hlen hps he haa;have hel:=getElem?_mem_len hsz he;have hi:i<es.length:=(List.getElem?_eq_some_iff.1 he).1;have hil:(i+1)*sz≤es.length*sz:=Nat.mul_le_mul_right _ hi;rw[List.map_drop];refine key sz (e.map .p) cur ty fz hh (by simpa using hel) (by omega) haa fun j x u p q=> ?_
    simp only[List.getElem?_map,Option.map_eq_some_iff] at p;obtain⟨y,hy,rfl⟩:=p;have hj:j<sz:=by have:=(List.getElem?_eq_some_iff.1 hy).1;omega
    refine .p (hps.2 (i*sz+j) y u (by rw[flat_at hsz he hj];exact hy) ?_);rw[Nat.add_mul] at hil;rw[List.getElem?_take,if_pos (by omega)]
    simpa using q
   split at h
   ·rename_i g' ty sz es hb;split at h
    ·rename_i hgg;simp only[Option.map_eq_some_iff,Prod.mk.injEq] at h;obtain⟨e,he,rfl,rfl⟩:=h;have hb2:(m.blk id).2=some (.arr ty sz es):=by rw[hb]
     obtain⟨cur,hh,hs0,hsz,hl,hm,hcs,hps⟩:=hok.obj id _ hb2;exact pure ty sz es e cur _ hh hsz (by rw[hcs];exact Nat.mul_le_mul_right _ hl) hps he (ha sz (by rw[hb];exact hgg) (by rw[hb];rfl))
    ·cases h
   ·rename_i g' ty sz es hb;split at h
    ·rename_i hgg;simp only[Option.map_eq_some_iff,Prod.mk.injEq] at h;obtain⟨e,he,rfl,rfl⟩:=h;have hb2:(m.blk id).2=some (.farr ty sz es):=by rw[hb]
     obtain⟨cur,fz,hh,hs0,hsz,hl,hm,hcs,hps,_⟩:=hok.obj id _ hb2;exact pure ty sz es e cur _ hh hsz (by rw[hcs];exact Nat.mul_le_mul_right _ hl) hps he (ha sz (by rw[hb];exact hgg) (by rw[hb];rfl))
    ·cases h
   ·rename_i g' ty sz es hb;split at h
    ·rename_i hgg;simp only[Option.map_eq_some_iff,Prod.mk.injEq] at h;obtain⟨e,he,rfl,rfl⟩:=h;have hb2:(m.blk id).2=some (.carr ty sz es):=by rw[hb]
     obtain⟨cur,hh,hs0,hsz,hl,hm,hcs,hps⟩:=hok.obj id _ hb2;have hel:=getElem?_mem_len hsz he;have hi:i<es.length:=(List.getElem?_eq_some_iff.1 he).1;have hil:(i+1)*sz≤es.length*sz:=Nat.mul_le_mul_right _ hi;have hil2:es.length*sz≤m.κ id*sz:=Nat.mul_le_mul_right _ hl;refine key sz e cur ty _ hh hel (by omega) (ha sz (by rw[hb];exact hgg) (by rw[hb];rfl)) fun j x u p q=> ?_
     have hj:j<sz:=by have:=(List.getElem?_eq_some_iff.1 p).1;omega
     refine hps.2 (i*sz+j) x u (by rw[flat_at hsz he hj];exact p) ?_;rw[Nat.add_mul] at hil;rw[List.getElem?_take,if_pos (by omega)]
     simpa using q
    ·cases h
   ·cases h
 ·cases h
end Go.Abs
namespace Go.Abs
variable {P:Program} {w0:World}
theorem kOf_some{t:TypeId}{n:Nat}(h:kOf P t=some (some n)): ∃ d i,P.underlying t=some d∧P.info? t=some i∧i.size=n∧((∃ fs,d= .struct fs)∨ ∃ k e,d= .array k e):=by
 unfold kOf at h;split at h
 ·rename_i fs i h1 h2;simp at h;exact⟨_,i,h1,h2,h, .inl ⟨fs,rfl⟩⟩
 ·rename_i k e i h1 h2;simp at h;exact⟨_,i,h1,h2,h, .inr ⟨k,e,rfl⟩⟩
 ·split at h<;>simp at h
 ·cases h
theorem kOf_none{t:TypeId}(h:kOf P t=some none): ∃ d i,P.underlying t=some d∧P.info? t=some i∧i.size=1∧(∀ fs,d≠ .struct fs)∧ ∀ k e,d≠ .array k e:=by
 unfold kOf at h;split at h
 ·simp at h
 ·simp at h
 ·rename_i d i n1 n2 h1 h2;split at h
  ·rename_i hs;exact⟨_,_,h1,h2,hs,fun fs e=>n1 fs e,fun k e' e=>n2 k e' e⟩
  ·cases h
 ·cases h
theorem run_isAgg_some{t:TypeId}{n:Nat}(h:kOf P t=some (some n))(w:World):(isAgg t).run P w= .ok true w∧(sizeOf t).run P w= .ok n w:=by
 obtain⟨d,i,h1,h2,h3,h4⟩:=kOf_some h;constructor
 ·rcases h4 with ⟨fs,rfl⟩|⟨k,e,rfl⟩<;>simp[isAgg,run_underlying h1]
 ·simp[sizeOf,typeInfo,h2,h3]
theorem run_isAgg_none{t:TypeId}(h:kOf P t=some none)(w:World):(isAgg t).run P w= .ok false w∧(sizeOf t).run P w= .ok 1 w:=by
 obtain⟨d,i,h1,h2,h3,h4,h5⟩:=kOf_none h;constructor
 ·cases d<;>first
   |exact(h4 _ rfl).elim
   |exact(h5 _ _ rfl).elim
   |simp[isAgg,run_underlying h1]
 ·simp[sizeOf,typeInfo,h2,h3]
theorem loadVar_run{m:Mem}{t:TypeId}{k:Option Nat}(hk:kOf P t=some k){v:Value}{cs:List C}(h:At m v cs){x:V}(hx:takeV k cs=some x):
  ∃ a y,v= .pointer (some a)∧(loadVar t a).run P m.w= .ok y m.w∧VRel m x y:=by
 obtain⟨b,o,vs,rfl,hcs,hat⟩:=h;cases k with
 |none=>
  obtain⟨h1,h2⟩:=run_isAgg_none hk m.w;cases cs with
  |nil=>simp[takeV] at hx
  |cons c r=>
   simp[takeV] at hx;subst hx;obtain⟨hl,hr⟩:=hcs;cases vs with
   |nil=>simp at hl
   |cons u us=>
    have h0:=hat 0 u rfl;refine⟨_,u,rfl,?_,VRel.one.2 (hr 0 c u rfl rfl)⟩;rw[Nat.add_zero] at h0;simp[loadVar,h1,h0]
 |some n=>
  obtain⟨h1,h2⟩:=run_isAgg_some hk m.w;simp only[takeV] at hx;split at hx
  ·rename_i hn;cases hx
   obtain⟨hl,hr⟩:=hcs;refine⟨_, .agg (vs.take n).toArray,rfl,?_,VRel.agg.2 ⟨_,rfl,by simp;omega,fun j x u p q=> ?_⟩⟩
   ·have hlen:(vs.take n).length=n:=by simp;omega
    have:=run_loadCells_list (P:=P) m.w ⟨b,o,none⟩ (vs.take n) (fun j u q=>by
     rw[Addr.add_lit];rw[List.getElem?_take] at q;split at q
     ·exact hat j u q
     ·cases q)
    rw[hlen] at this;simp[loadVar,h1,h2,this]
   ·rw[List.getElem?_take] at p;simp only[List.getElem?_take] at q;split at p
    ·rename_i hj;simp only[hj,if_true] at q;exact hr j x u p q
    ·cases p
  ·cases hx
section
variable {m:Mem} {env:Env} {a:Act} {o:Oper} (hok:Ok w0 m) (hr:ERel m env a.tmps)
include hok hr
theorem sim_load{t:TypeId}{x:Operand}{y:IArg}{k:Option Nat}{cs:List C}{rd:List Nat}{v:V}(ho:o.op= .load t x)(hk:kOf P t=some k)(hx:argC x=some y)
  (hc:rdAt m.blk (ev env y)=some (cs,rd)) (hv:takeV k cs=some v):OpOk P w0 a.eval o m v []:=by
 obtain⟨ad,y',h1,h2,h3⟩:=loadVar_run hk (rdAt_rel hok hc (argC_rel hx hr)) hv;exact .calm hok (by simp[execOp,ho,h1,Instr.loadAt,Instr.sureAddr,h2]) h3
theorem sim_nilchk{x:Operand}{y:IArg}{v:V}(ho:o.op= .nilCheck x)(hx:argC x=some y)(hv:plan (fun _=>false) env m.blk (.nilchk y)= .done v [] []):OpOk P w0 a.eval o m v []:=by
 have hrel:=argC_rel hx hr;simp only[plan] at hv;split at hv
 ·rename_i he;rw[he] at hrel;cases hv;have hc:CRel m _ (a.eval x):=hrel;generalize hb:a.eval x=b at hc hrel;cases hc with
  |href ad hg h=>exact .calm hok (by simp[execOp,ho,hb]) hrel
 ·rename_i he;rw[he] at hrel;cases hv;have hc:CRel m _ (a.eval x):=hrel;generalize hb:a.eval x=b at hc hrel;cases hc with
  |hel ad hg h=>exact .calm hok (by simp[execOp,ho,hb]) hrel
 ·rename_i he;rw[he] at hrel;cases hv;have hc:CRel m _ (a.eval x):=hrel;generalize hb:a.eval x=b at hc hrel;cases hc with
  |p hp=>cases hp with
   |box b' o' f ho' hc' hr'=>exact .calm hok (by simp[execOp,ho,hb]) hrel
 ·rename_i he;rw[he] at hrel;cases hv;have hc:CRel m _ (a.eval x):=hrel;generalize hb:a.eval x=b at hc hrel;cases hc with
  |hfn A B ha hb' hra hrb=>exact .calm hok (by simp[execOp,ho,hb]) hrel
 ·rename_i he;rw[he] at hrel;cases hv;have hc:CRel m _ (a.eval x):=hrel;generalize hb:a.eval x=b at hc hrel;cases hc with
  |p hp=>cases hp with
   |fn A B ha hb' hra hrb=>exact .calm hok (by simp[execOp,ho,hb]) hrel
 ·cases hv
end
end Go.Abs
namespace Go.Abs
variable {P:Program} {w0:World}
theorem PRel.norm{w:World}{own:Nat→Prop}{x:PV}{v:Value}(h:PRel w own x v):PRel w own x.norm v:=by
 cases h<;>first
  |exact .sl0 none 0 (fun _=>rfl) (Nat.zero_le _)
  |(simp only[PV.norm];constructor<;>assumption)
theorem toP_rel{m:Mem}{c:C}{x:PV}{v:Value}(h:toP c=some x)(hr:CRel m c v):PRel m.w m.own x v:=by
 cases hr<;>simp[toP] at h
 rename_i hp;subst h;exact hp.norm
theorem toPs_rel{m:Mem}: ∀ {cs:List C} {xs:List PV} {vs:List Value},toPs cs=some xs→CsRel m cs vs→PsRel m.w m.own xs vs:=by
 intro cs
 induction cs with
 |nil=>
  intro xs vs h hr;simp[toPs] at h;subst h;exact⟨hr.1,fun j x u a=>by simp at a⟩
 |cons c r ih=>
  intro xs vs h hr;simp only[toPs] at h;split at h
  ·rename_i x ys h1 h2;cases h
   cases vs with
   |nil=>simp[CsRel] at hr
   |cons v us=>
    obtain⟨hl,hrr⟩:=ih (vs:=us) h2 ⟨by simpa using hr.1,fun j x u a b=>hr.2 (j+1) x u (by simpa using a) (by simpa using b)⟩;refine⟨by simp[hl],fun j z u a b=> ?_⟩;cases j with
    |zero=>simp at a b;subst a b;exact toP_rel h1 (hr.2 0 c v rfl rfl)
    |succ j=>simp at a b;exact hrr j z u a b
  ·cases h
def Pw {α:Type}(R:α→Value→Prop)(xs:List α)(vs:List Value):Prop:=vs.length=xs.length∧ ∀ (j:Nat) (x:α) (u:Value),xs[j]? =some x→vs[j]? =some u→R x u
theorem Pw.take{α:Type}{R:α→Value→Prop}{xs:List α}{vs:List Value}(h:Pw R xs vs)(n:Nat):Pw R (xs.take n) (vs.take n):=by
 refine⟨by simp[h.1],fun j x u a b=> ?_⟩;rw[List.getElem?_take] at a b;split at a
 ·rename_i hj;rw[if_pos hj] at b;exact h.2 j x u a b
 ·cases a
theorem Pw.drop{α:Type}{R:α→Value→Prop}{xs:List α}{vs:List Value}(h:Pw R xs vs)(n:Nat):Pw R (xs.drop n) (vs.drop n):=
 ⟨by simp[h.1],fun j x u a b=>h.2 (n+j) x u (by simpa using a) (by simpa using b)⟩
theorem Pw.append{α:Type}{R:α→Value→Prop}{xs ys:List α}{vs us:List Value}(h:Pw R xs vs)(k:Pw R ys us):Pw R (xs++ys) (vs++us):=by
 refine⟨by simp[h.1,k.1],fun j x u a b=> ?_⟩;by_cases hj:j<xs.length
 ·rw[List.getElem?_append_left hj] at a;rw[List.getElem?_append_left (by rw[h.1];exact hj)] at b;exact h.2 j x u a b
 ·rw[List.getElem?_append_right (by omega)] at a;rw[List.getElem?_append_right (by rw[h.1];omega),h.1] at b;exact k.2 _ x u a b
theorem Pw.splice{α:Type}{R:α→Value→Prop}{xs ys:List α}{vs us:List Value}(h:Pw R xs vs)(k:Pw R ys us)(off:Nat):Pw R (splice xs off ys) (splice vs off us):=by
 unfold Abs.splice;rw[k.1];exact((h.take off).append k).append (h.drop _)
theorem splice_len{α:Type}{cs xs:List α}{off:Nat}(h:off+xs.length≤cs.length):(splice cs off xs).length=cs.length:=by
 simp[splice];omega
theorem splice_take{α:Type}{cs xs:List α}{off n:Nat}(h:off+xs.length≤n)(hn:n≤cs.length):(splice cs off xs).take n=splice (cs.take n) off xs:=by
 unfold splice;rw[List.take_append,List.take_append,List.take_take,List.drop_take];simp only[List.length_append,List.length_take];rw[Nat.min_eq_left (by omega:off≤cs.length),List.take_take,Nat.min_eq_left (by omega:off≤n),Nat.min_eq_right (by omega:off≤n)];have e:n - (off+xs.length)=n - (off+xs.length):=rfl;rw[List.take_of_length_le (by omega:xs.length≤n - off)]
theorem splice_right{α:Type}{a cs xs:List α}{off:Nat}:splice (a++cs) (a.length+off) xs=a++splice cs off xs:=by
 unfold splice;rw[List.take_append,List.drop_append];simp only[List.append_assoc];rw[List.take_of_length_le (by omega:a.length≤a.length+off),List.drop_of_length_le (by omega:a.length≤a.length+off+xs.length)];simp only[List.nil_append];have e1:a.length+off - a.length=off:=by omega
 have e2:a.length+off+xs.length - a.length=off+xs.length:=by omega
 rw[e1,e2]
theorem splice_left{α:Type}{a cs xs:List α}{off:Nat}(h:off+xs.length≤a.length):splice (a++cs) off xs=splice a off xs++cs:=by
 unfold splice;rw[List.take_append_of_le_length (by omega),List.drop_append_of_le_length (by omega)];simp
theorem flat_set{α:Type}{sz:Nat}{ps:List α}{off:Nat}: ∀ {es:List (List α)},(∀ e∈es,e.length=sz)→ ∀ {i:Nat} {e:List α},es[i]? =some e→off+ps.length≤sz→
  (es.set i (splice e off ps)).flatten=splice es.flatten (i*sz+off) ps:=by
 intro es
 induction es with
 |nil=>intro _ i e h;simp at h
 |cons x r ih=>
  intro h i e he hl;have h1:=h x (by simp);cases i with
  |zero=>
   simp at he;subst he;simp only[List.set_cons_zero,List.flatten_cons,Nat.zero_mul,Nat.zero_add];rw[splice_left (by omega)]
  |succ i=>
   simp at he;simp only[List.set_cons_succ,List.flatten_cons];rw[ih (fun y hy=>h y (by simp[hy])) he hl];have hh:(i+1)*sz+off=x.length+(i*sz+off):=by rw[h1,Nat.add_mul];omega
   rw[hh,splice_right]
theorem setRow_at{w:World}{g:Nat}{cur new:Array Value}{ty:TypeId}{fz:Nat × Nat}(h:w.heap[g]? =some (.cells cur ty fz)):(w.setRow g new).heap[g]? =some (.cells new ty fz):=setRow_heap w g cur new ty fz h
theorem CsRel.pw{m:Mem}{cs:List C}{vs:List Value}:CsRel m cs vs↔Pw (CRel m) cs vs:=Iff.rfl
theorem PsRel.pw{w:World}{own:Nat→Prop}{cs:List PV}{vs:List Value}:PsRel w own cs vs↔Pw (PRel w own) cs vs:=Iff.rfl
theorem CsRel.one{m:Mem}{cs:List C}{vs:List Value}(h:CsRel m cs vs): ∀ v∈vs,v.oneCell'=true:=by
 intro v hv;obtain⟨j,hj⟩:=List.getElem?_of_mem hv;have hlt:j<cs.length:=by rw[← h.1];exact(List.getElem?_eq_some_iff.1 hj).1
 exact(h.2 j _ v (List.getElem?_eq_getElem hlt) hj).oneCell
theorem cellsV_rel{m:Mem}{x:V}{v:Value}{cs:List C}(h:cellsV x=some cs)(hr:VRel m x v):CsRel m cs v.cells.toList:=by
 cases x with
 |undef=>simp[cellsV] at h
 |tup vs=>simp[cellsV] at h
 |one c=>
  simp[cellsV] at h;subst h;rw[(VRel.one.1 hr).cells];refine⟨rfl,fun j y u p q=> ?_⟩;cases j with
  |zero=>simp at p q;subst p q;exact hr
  |succ j=>simp at p
 |agg ds=>
  simp[cellsV] at h;subst h;obtain⟨arr,e,h⟩:=VRel.agg.1 hr;rw[e];exact h
section
variable {m:Mem} {env:Env} {a:Act} {o:Oper} (hok:Ok w0 m) (hr:ERel m env a.tmps)
include hok hr
theorem sim_store{t:TypeId}{x v:Operand}{x' v':IArg}{n:Nat}{cs:List C}{r:V}{u:List Upd}{rd:List Nat}(ho:o.op= .store t x v)(hn:sizeC P t=some n)(hx:argC x=some x')(hv:argC v=some v')
  (hc:cellsV (ev env v')=some cs) (hw:wrAt m.blk (ev env x') n cs= .done r u rd):OpOk P w0 a.eval o m r u:=by
 have hcs:=cellsV_rel hc (argC_rel hv hr);have hrx:=argC_rel hx hr;unfold sizeC at hn;simp only[Option.map_eq_some_iff] at hn;obtain⟨i,hi,hin⟩:=hn;have hsz:(a.eval v).cells.toList.length=cs.length:=hcs.1;simp only[Array.length_toList] at hsz;unfold wrAt at hw;split at hw
 ·cases hw
 ·rename_i hlen;have hlen:cs.length=n:=by simpa using hlen
  have hone:=hcs.one;split at hw
  ·rename_i id g off he;rw[he] at hrx;have hrx:CRel m _ (a.eval x):=hrx;generalize hb:a.eval x=b at hrx;cases hrx with
   |href ad hg had=>
    split at hw
    ·rename_i g' cs0 hbk;split at hw
     ·rename_i hcond;obtain⟨hgg,hfit⟩:=hcond;cases hw
      have hb2:(m.blk id).2=some (.var cs0):=by rw[hbk]
      have had:=had (by rw[hbk];exact hgg) (by rw[hb2];rfl);subst had;obtain⟨cur,ty,hh,hps⟩:=hok.obj id _ hb2;have hcl:=hps.1;simp at hcl;have hfit2:off+0+(a.eval v).cells.toList.length≤cur.size:=by simp;omega
      have hst:=run_storeCells_at P (m.σ id) off ty (a.eval v).cells.toList 0 cur m.w hh hfit2 hone;simp only[Nat.add_zero] at hst;generalize hW:m.w.setRow (m.σ id) (cur.toList.take off++(a.eval v).cells.toList++cur.toList.drop (off+(a.eval v).cells.toList.length)).toArray=W at hst;have hWs:W.heap.size=m.w.heap.size:=by rw[← hW];simp
      have hWo: ∀ c,c≠m.σ id→W.heap[c]? =m.w.heap[c]? :=fun c hc=>by rw[← hW];exact setRow_other m.w (m.σ id) c _ hc
      have hev:=setB_ev (w':=W) (o:= .var (splice cs0 off cs)) hb2 rfl (by simp[szAt]) (by rw[← hW];rfl) (by rw[← hW];rfl) (by rw[← hW];rfl) hWs hWo;have hobj:ORel (m.setB W id (.var (splice cs0 off cs))) id (.var (splice cs0 off cs)):=by
       refine⟨_,ty,by rw[← hW];exact setRow_at hh,?_⟩;have:=CsRel.pw.2 ((CsRel.pw.1 (hps.ev hev.zero)).splice (CsRel.pw.1 (hcs.ev hev.zero)) off)
       simpa [splice] using this
      refine⟨undef,m.setB W id (.var (splice cs0 off cs)), .inr ⟨?_,rfl⟩,setB_ok hb2 rfl hok (by simp[szAt]) (by rw[← hW];rfl) (by rw[← hW];rfl) (by rw[← hW];rfl) hWs hWo hobj,hev,rfl,?_,rfl⟩
      ·simp only[execOp,ho,hb,Instr.storeAt,Instr.sureAddr,storeVar,sizeOf,typeInfo];simp[hi,hsz,hlen,hin,hst,Mem.setB]
      ·simp[Mem.setB,app,hbk,hgg]
     ·cases hw
    ·cases hw
  ·rename_i id g i' off he;rw[he] at hrx;have hrx:CRel m _ (a.eval x):=hrx;generalize hb:a.eval x=b at hrx;cases hrx with
   |hel ad hg had=>
    split at hw
    ·rename_i g' ty sz es hbk;split at hw
     ·rename_i e ps he2 hps2;split at hw
      ·rename_i hcond;obtain⟨hgg,hfit⟩:=hcond;cases hw
       have hb2:(m.blk id).2=some (.arr ty sz es):=by rw[hbk]
       have had:=had sz (by rw[hbk];exact hgg) (by rw[hbk];rfl);subst had;obtain⟨cur,hh,hs0,hszz,hl,hm,hcurs,hps⟩:=hok.obj id _ hb2;have hel:=getElem?_mem_len hszz he2;have hilt:i'<es.length:=(List.getElem?_eq_some_iff.1 he2).1;have hil:(i'+1)*sz≤es.length*sz:=Nat.mul_le_mul_right _ hilt;have hil2:es.length*sz≤m.κ id*sz:=Nat.mul_le_mul_right _ hl;rw[Nat.add_mul,Nat.one_mul] at hil;have hpsl:ps.length=cs.length:=by rw[← hcs.1];exact(toPs_rel hps2 hcs).1.symm
       have hfit2:i'*sz+off+0+(a.eval v).cells.toList.length≤cur.size:=by simp;omega
       have hst:=run_storeCells_at P (m.σ id) (i'*sz+off) ty (a.eval v).cells.toList 0 cur m.w hh hfit2 hone;simp only[Nat.add_zero] at hst;generalize hW:m.w.setRow (m.σ id) (cur.toList.take (i'*sz+off)++(a.eval v).cells.toList++cur.toList.drop (i'*sz+off+(a.eval v).cells.toList.length)).toArray=W at hst;have hWs:W.heap.size=m.w.heap.size:=by rw[← hW];simp
       have hWo: ∀ c,c≠m.σ id→W.heap[c]? =m.w.heap[c]? :=fun c hc=>by rw[← hW];exact setRow_other m.w (m.σ id) c _ hc
       have hev:=setB_ev (w':=W) (o:= .arr ty sz (es.set i' (splice e off ps))) hb2 rfl (by simp[szAt]) (by rw[← hW];rfl) (by rw[← hW];rfl) (by rw[← hW];rfl) hWs hWo;have hobj:ORel (m.setB W id (.arr ty sz (es.set i' (splice e off ps)))) id (.arr ty sz (es.set i' (splice e off ps))):=by
        refine⟨_,by rw[← hW];exact setRow_at hh,hs0,?_,by rw[List.length_set];exact hl,hm,?_,?_⟩
        ·intro e' he';rcases List.mem_or_eq_of_mem_set he' with h|h
         ·exact hszz e' h
         ·rw[h,splice_len (by omega)];exact hel
        ·simp[Mem.setB];omega
        ·rw[List.length_set,flat_set hszz he2 (by omega)];have h1:=(PsRel.pw.1 (hps.ev hev.zero)).splice (PsRel.pw.1 ((toPs_rel hps2 hcs).ev hev.zero)) (i'*sz+off);rw[← splice_take (by simp;omega) (by simp;omega)] at h1;have h1:=PsRel.pw.2 h1
         simpa [splice] using h1
       refine⟨undef,m.setB W id (.arr ty sz (es.set i' (splice e off ps))), .inr ⟨?_,rfl⟩,setB_ok hb2 rfl hok (by simp[szAt]) (by rw[← hW];rfl) (by rw[← hW];rfl) (by rw[← hW];rfl) hWs hWo hobj,hev,rfl,?_,rfl⟩
       ·simp only[execOp,ho,hb,Instr.storeAt,Instr.sureAddr,storeVar,sizeOf,typeInfo];simp[hi,hsz,hlen,hin,hst,Mem.setB]
       ·simp[Mem.setB,app,hbk,hgg]
      ·cases hw
     ·cases hw
    ·cases hw
  ·cases hw
end
end Go.Abs
namespace Go.Abs
variable {P:Program} {w0:World}
theorem asN_inv{m:Mem}{x:V}{v:Value}{n:Nat}(h:asN x=some n)(hr:VRel m x v): ∃ k,v= .int k (n:Int):=by
 unfold asN at h;split at h
 ·rename_i k z;split at h
  ·rename_i hz;cases h
   exact⟨k,by rw[inv_int hr,Int.toNat_of_nonneg hz]⟩
  ·cases h
 ·cases h
theorem sizeC_run{t:TypeId}{n:Nat}(h:sizeC P t=some n)(w:World):(sizeOf t).run P w= .ok n w:=by
 unfold sizeC at h;simp only[Option.map_eq_some_iff] at h;obtain⟨i,hi,rfl⟩:=h;simp[sizeOf,typeInfo,hi]
section
variable {m:Mem} {env:Env} {a:Act} {o:Oper} (hok:Ok w0 m) (hr:ERel m env a.tmps)
include hok hr
theorem sim_faddr{s:TypeId}{x:Operand}{f:Nat}{fs:Array Field}{d:Field}{y:IArg}{v:V}(ho:o.op= .fieldAddr s x f)(hs:P.underlying s=some (.struct fs))(hf:fs[f]? =some d)
  (hz:P.cellsOf d.type≠0) (hx:argC x=some y) (hv:plan (fun _=>false) env m.blk (.faddr d.offset y)= .done v [] []):OpOk P w0 a.eval o m v []:=by
 have hrel:=argC_rel hx hr;have hsz: ∃ n,(sizeOf d.type).run P m.w= .ok n m.w∧n≠0:=by
  unfold Program.cellsOf at hz;cases hi:P.info? d.type with
  |none=>simp[hi] at hz
  |some i=>exact⟨i.size,by simp[sizeOf,typeInfo,hi],by simpa [hi] using hz⟩
 obtain⟨n,hn,hn0⟩:=hsz;have run: ∀ ad,a.eval x= .pointer (some ad)→(execOp a.eval o).run P m.w= .ok (.value (.pointer (some (ad.add d.offset)))) m.w:=by
  intro ad had;simp[execOp,ho,had,Instr.fieldAt,run_underlying hs,hf,Instr.sureAddr,fieldPlace,hn,hn0]
 simp only[plan] at hv;split at hv
 ·rename_i id g off he;rw[he] at hrel;cases hv;have hc:CRel m _ (a.eval x):=hrel;generalize hb:a.eval x=b at hc;cases hc with
  |href ad hg h=>exact .calm hok (run _ hb) (VRel.one.2 (.href _ hg fun h1 h2=>by rw[h h1 h2,Addr.add_lit]))
 ·rename_i id g i off he;rw[he] at hrel;cases hv;have hc:CRel m _ (a.eval x):=hrel;generalize hb:a.eval x=b at hc;cases hc with
  |hel ad hg h=>exact .calm hok (run _ hb) (VRel.one.2 (.hel _ hg fun sz h1 h2=>by rw[h sz h1 h2,Addr.add_lit,Nat.add_assoc]))
 ·rename_i cs he;rw[he] at hrel;cases hv;have hc:CRel m _ (a.eval x):=hrel;generalize hb:a.eval x=b at hc;cases hc with
  |p hp=>cases hp with
   |box b' o' f' ho' hc' hr'=>
    refine .calm hok (run _ hb) (mk_p ?_);rw[Addr.add_lit];refine .box b' (o'+d.offset) (fun j=>f' (d.offset+j)) (fun h=>ho' fun e=>h (by simp[e])) (fun j z h=> ?_) fun j z h=>hr' _ z (by simpa using h)
    rw[Nat.add_assoc];exact hc' _ z (by simpa using h)
 ·cases hv
theorem sim_iaddr{t e:TypeId}{x i:Operand}{sz:Nat}{x' i':IArg}{v:V}(ho:o.op= .indexAddr t x i)(ht:P.underlying t=some (.slice e))(hs:sizeC P e=some sz)
  (hx:argC x=some x') (hi:argC i=some i') (hv:plan (fun _=>false) env m.blk (.iaddr sz x' i')= .done v [] []):OpOk P w0 a.eval o m v []:=by
 have hrel:=argC_rel hx hr;have hri:=argC_rel hi hr;have run: ∀ ad len cap k (n:Nat),a.eval x= .slice (some ad) len cap→a.eval i= .int k (n:Int)→n<len→(execOp a.eval o).run P m.w= .ok (.value (.pointer (some (ad.add (n*sz))))) m.w:=by
  intro ad len cap k n h1 h2 h3;simp[execOp,ho,h1,h2,Instr.indexAt,asIntOf,run_underlying ht,sizeC_run hs,h3]
 simp only[plan] at hv;split at hv
 ·rename_i n es hn he;obtain⟨k,hk⟩:=asN_inv hn hri;rw[he] at hrel;split at hv
  ·rename_i el hel;split at hv
   ·rename_i hlen;cases hv
    have hc:CRel m _ (a.eval x):=hrel;generalize hb:a.eval x=b at hc;cases hc with
    |p hp=>
     generalize hpv:(PV.sl es)=pv at hp;cases hp<;>first
      |cases hpv
      |skip
     ·simp at hel
     ·rename_i b' o' cap sz' f hm' ho' hl' hsz hcc hrr;have hlt:n<es.length:=(List.getElem?_eq_some_iff.1 hel).1;have hsz':sz'=sz:=by rw[← getElem?_mem_len hsz hel];exact hlen
      subst hsz';refine .calm hok (run _ _ _ k n hb hk hlt) (mk_p ?_);rw[Addr.add_lit];refine .box b' (o'+n*sz') (fun j=>f (n*sz'+j)) (fun h=>ho' ?_) (fun j z h=> ?_) fun j z h=> ?_
      ·intro e0;cases el with
       |nil=>exact h rfl
       |cons c r=>
        have:=flat_at hsz hel (j:=0) (by rw[← hlen];simp);rw[e0] at this;simp at this
      ·have hj:j<sz':=by rw[← hlen];exact(List.getElem?_eq_some_iff.1 h).1
       rw[Nat.add_assoc];exact hcc _ z (by rw[flat_at hsz hel hj];exact h)
      ·have hj:j<sz':=by rw[← hlen];exact(List.getElem?_eq_some_iff.1 h).1
       exact hrr _ z (by rw[flat_at hsz hel hj];exact h)
   ·cases hv
  ·cases hv
 ·rename_i n id g z off len hn he;obtain⟨k,hk⟩:=asN_inv hn hri;rw[he] at hrel;split at hv
  ·rename_i hlt;cases hv
   have hc:CRel m _ (a.eval x):=hrel;generalize hb:a.eval x=b at hc;cases hc with
   |hsl ad cap hg hl hm h=>
    refine .calm hok (run _ _ _ k n hb hk hlt.1) (VRel.one.2 (.hel _ hg fun s h1 h2=> ?_));obtain⟨e1,e2,_⟩:=h s h1 h2;rw[e2 (.inr (by omega)),Addr.add_lit,e1,hlt.2];simp[Nat.add_mul]
  ·cases hv
 ·cases hv
theorem sim_aaddr{t e:TypeId}{x i:Operand}{sz ln:Nat}{x' i':IArg}{v:V}(ho:o.op= .indexAddr t x i)(ht:P.underlying t=some (.array ln e))(hs:sizeC P e=some sz)
  (hx:argC x=some x') (hi:argC i=some i') (hv:plan (fun _=>false) env m.blk (.aaddr ln sz x' i')= .done v [] []):OpOk P w0 a.eval o m v []:=by
 have hrel:=argC_rel hx hr;have hri:=argC_rel hi hr;have run: ∀ ad k (n:Nat),a.eval x= .pointer (some ad)→a.eval i= .int k (n:Int)→n<ln→(execOp a.eval o).run P m.w= .ok (.value (.pointer (some (ad.add (n*sz))))) m.w:=by
  intro ad k n h1 h2 h3;simp[execOp,ho,h1,h2,Instr.indexAt,asIntOf,run_underlying ht,sizeC_run hs,h3,Instr.sureAddr]
 simp only[plan] at hv;split at hv
 ·rename_i n id g off hn he;obtain⟨k,hk⟩:=asN_inv hn hri;rw[he] at hrel;split at hv
  ·rename_i hlt;cases hv;have hc:CRel m _ (a.eval x):=hrel;generalize hb:a.eval x=b at hc;cases hc with
   |href ad hg h=>exact .calm hok (run _ k n hb hk hlt) (VRel.one.2 (.href _ hg fun h1 h2=>by rw[h h1 h2,Addr.add_lit]))
  ·cases hv
 ·rename_i n id g j off hn he;obtain⟨k,hk⟩:=asN_inv hn hri;rw[he] at hrel;split at hv
  ·rename_i hlt;cases hv;have hc:CRel m _ (a.eval x):=hrel;generalize hb:a.eval x=b at hc;cases hc with
   |hel ad hg h=>exact .calm hok (run _ k n hb hk hlt) (VRel.one.2 (.hel _ hg fun s h1 h2=>by rw[h s h1 h2,Addr.add_lit,Nat.add_assoc]))
  ·cases hv
 ·rename_i n cs hn he;obtain⟨k,hk⟩:=asN_inv hn hri;rw[he] at hrel;split at hv
  ·rename_i hlt;cases hv;have hc:CRel m _ (a.eval x):=hrel;generalize hb:a.eval x=b at hc;cases hc with
   |p hp=>cases hp with
    |box b' o' f' ho' hc' hr'=>
     refine .calm hok (run _ k n hb hk hlt) (mk_p ?_);rw[Addr.add_lit];refine .box b' (o'+n*sz) (fun j=>f' (n*sz+j)) (fun h=>ho' fun e=>h (by simp[e])) (fun j z h=> ?_) fun j z h=>hr' _ z (by simpa using h)
     rw[Nat.add_assoc];exact hc' _ z (by simpa using h)
  ·cases hv
 ·cases hv
theorem part_run{t:TypeId}{k:Option Nat}(hk:kOf P t=some k){cs:List C}{arr:Array Value}(hc:CsRel m cs arr.toList){off:Nat}{x:V}(hx:takeV k (cs.drop off)=some x):
  ∃ y,(part t arr off).run P m.w= .ok y m.w∧VRel m x y:=by
 have _u0:=hok;have _u1:=hr;have hl:=hc.1;simp at hl;cases k with
 |none=>
  obtain⟨h1,h2⟩:=run_isAgg_none hk m.w;cases hd:cs.drop off with
  |nil=>simp[hd,takeV] at hx
  |cons c r=>
   simp[hd,takeV] at hx;subst hx;have hcs:cs[off]? =some c:=by
    have:=congrArg (·[0]?) hd
    simpa using this
   have hlt:off<arr.size:=by rw[hl];exact(List.getElem?_eq_some_iff.1 hcs).1
   refine⟨arr[off],by simp[part,h1,hlt],VRel.one.2 (hc.2 off c _ hcs (by simp[hlt]))⟩
 |some n=>
  obtain⟨h1,h2⟩:=run_isAgg_some hk m.w;simp only[takeV] at hx;split at hx
  ·rename_i hn;cases hx
   simp at hn;refine⟨.agg (arr.extract off (off+n)),by simp[part,h1,h2],VRel.agg.2 ⟨_,rfl,by simp;omega,fun j x u p q=> ?_⟩⟩;rw[List.getElem?_take] at p;split at p
   ·rename_i hj;simp at p;refine hc.2 (off+j) x u p ?_;have hlt:off+j<cs.length:=(List.getElem?_eq_some_iff.1 p).1;have he:(arr.extract off (off+n)).toList=(arr.toList.drop off).take n:=by simp
    rw[he,List.getElem?_take,if_pos hj,List.getElem?_drop] at q;exact q
   ·cases p
  ·cases hx
theorem sim_fld{t:TypeId}{x:Operand}{f:Nat}{fs:Array Field}{d:Field}{y:IArg}{k:Option Nat}{cs:List C}{v:V}(ho:o.op= .field t x f)(hs:P.underlying t=some (.struct fs))(hf:fs[f]? =some d)
  (hk:kOf P d.type=some k) (hx:argC x=some y) (hy:ev env y= .agg cs) (hv:takeV k (cs.drop d.offset)=some v):OpOk P w0 a.eval o m v []:=by
 have hrel:=argC_rel hx hr;rw[hy] at hrel;obtain⟨arr,e,hc⟩:=VRel.agg.1 hrel;obtain⟨z,h1,h2⟩:=part_run (hok:=hok) (hr:=hr) hk hc hv;exact .calm hok (by simp[execOp,ho,e,Instr.field,run_underlying hs,hf,asAgg,h1]) h2
theorem sim_aidx{t e:TypeId}{x i:Operand}{ln sz:Nat}{x' i':IArg}{k:Option Nat}{n:Nat}{cs:List C}{v:V}(ho:o.op= .index t x i)(ht:P.underlying t=some (.array ln e))(hs:sizeC P e=some sz)
  (hk:kOf P e=some k) (hx:argC x=some x') (hi:argC i=some i') (hn:asN (ev env i')=some n) (hlt:n<ln) (hy:ev env x'= .agg cs) (hv:takeV k (cs.drop (n*sz))=some v):OpOk P w0 a.eval o m v []:=by
 have hrel:=argC_rel hx hr;obtain⟨kk,hkk⟩:=asN_inv hn (argC_rel hi hr);rw[hy] at hrel;obtain⟨arr,e',hc⟩:=VRel.agg.1 hrel;obtain⟨z,h1,h2⟩:=part_run (hok:=hok) (hr:=hr) hk hc hv;exact .calm hok (by simp[execOp,ho,e',hkk,Instr.index,asIntOf,run_underlying ht,sizeC_run hs,hlt,h1]) h2
theorem sim_sidx{t:TypeId}{x i:Operand}{x' i':IArg}{n:Nat}{s:ByteArray}{b:UInt8}(ho:o.op= .index t x i)(ht:P.underlying t=some .string)
  (hx:argC x=some x') (hi:argC i=some i') (hn:asN (ev env i')=some n) (hy:ev env x'= .one (.p (.str s))) (hb:s[n]? =some b):OpOk P w0 a.eval o m (.one (.p (.int .u8 b.toNat))) []:=by
 have hrel:=argC_rel hx hr;obtain⟨kk,hkk⟩:=asN_inv hn (argC_rel hi hr);rw[hy] at hrel;exact .calm hok (by simp[execOp,ho,inv_str hrel,hkk,Instr.index,asIntOf,run_underlying ht,hb]) (mk_p (.int _ _))
end
end Go.Abs
namespace Go.Abs
variable {P:Program} {w0:World}
theorem binInt_run{op:BinOp}{t:TypeId}{k k':IntKind}{x y:Int}{v:PV}(w:World)(hk:k=k'∨op= .shl∨op= .shr)(h:binInt op k x y=some v):
  ∃ u,(binOp op t (.int k x) (.int k' y)).run P w= .ok u w∧ ∀ own,PRel w own v u:=by
 by_cases hs:op= .shl∨op= .shr
 ·rcases hs with rfl|rfl
  ·simp only[binInt] at h;split at h
   ·cases h
   ·rename_i hy;cases h;exact⟨_,by simp[binOp,Op.shift,hy],fun own=> .int _ _⟩
  ·simp only[binInt] at h;split at h
   ·cases h
   ·rename_i hy;cases h;exact⟨_,by simp[binOp,Op.shift,hy],fun own=> .int _ _⟩
 ·have hkk:k=k':=by
   rcases hk with h|h
   ·exact h
   ·exact(hs h).elim
  subst hkk;cases op<;>simp only[binInt] at h<;>first
   |cases h
   |skip
  all_goals first
   |exact(hs (.inl rfl)).elim
   |exact(hs (.inr rfl)).elim
   |(exact⟨_,by simp[binOp,Op.intArith,Op.intCmp,Op.intBits],fun own=> .int _ _⟩)
   |(exact⟨_,by simp[binOp,Op.intArith,Op.intCmp],fun own=> .bool _⟩)
   |(split at h
     ·cases h
     ·rename_i hy;cases h;exact⟨_,by simp[binOp,Op.intDiv,hy],fun own=> .int _ _⟩)
theorem binStr_run{op:BinOp}{t:TypeId}{x y:ByteArray}{v:PV}(w:World)(h:binStr op x y=some v):
  ∃ u,(binOp op t (.string x) (.string y)).run P w= .ok u w∧ ∀ own,PRel w own v u:=by
 cases op<;>simp only[binStr] at h<;>first
  |cases h
  |skip
 all_goals first
  |exact⟨_,by simp[binOp,Op.stringOp],fun own=> .bool _⟩
  |(split at h
    ·rename_i hl;cases h
     refine⟨.string (x++y),?_,fun own=> .str _⟩;have: ¬ ((x.size:Int)+(y.size:Int)>9223372036854775807):=by omega
     simp[binOp,Op.stringOp,this]
    ·cases h)
section
variable {m:Mem} {env:Env} {a:Act} {o:Oper} (hok:Ok w0 m) (hr:ERel m env a.tmps)
include hok hr
theorem sim_bin{op:BinOp}{t ty:TypeId}{x y:Operand}{x' y':IArg}{v:V}(ho:o.op= .binOp op t x y ty)(hx:argC x=some x')(hy:argC y=some y')
  (hv:binV op (ev env x') (ev env y')=some v):OpOk P w0 a.eval o m v []:=by
 have h1:=argC_rel hx hr;have h2:=argC_rel hy hr;unfold binV at hv;split at hv
 ·rename_i k p k' q e1 e2;rw[e1] at h1;rw[e2] at h2;split at hv
  ·rename_i hk;simp only[Option.map_eq_some_iff] at hv;obtain⟨u,hu,rfl⟩:=hv;obtain⟨z,hz,hzr⟩:=binInt_run (P:=P) (t:=t) m.w hk hu;refine .calm hok ?_ (mk_p (hzr _));have hg:(eqGuard op t x y (.int k p) (.int k' q)).run P m.w= .ok () m.w:=by cases op<;>simp[eqGuard]
   simp[execOp,ho,inv_int h1,inv_int h2,hg,hz]
  ·cases hv
 ·rename_i p q e1 e2;rw[e1] at h1;rw[e2] at h2;simp only[Option.map_eq_some_iff] at hv;obtain⟨u,hu,rfl⟩:=hv;obtain⟨z,hz,hzr⟩:=binStr_run (P:=P) (t:=t) m.w hu;refine .calm hok ?_ (mk_p (hzr _));have hg:(eqGuard op t x y (.string p) (.string q)).run P m.w= .ok () m.w:=by cases op<;>simp[eqGuard]
  simp[execOp,ho,inv_str h1,inv_str h2,hg,hz]
 ·cases hv
theorem sim_not{t:TypeId}{x:Operand}{x':IArg}{b:Bool}(ho:o.op= .unOp .not t x)(hx:argC x=some x')(hb:ev env x'= .one (.p (.bool b))):OpOk P w0 a.eval o m (.one (.p (.bool (!b)))) []:=by
 have h1:=argC_rel hx hr;rw[hb] at h1;exact .calm hok (by simp[execOp,ho,inv_bool h1,Op.unary]) (mk_p (.bool _))
theorem sim_neg{t:TypeId}{x:Operand}{x':IArg}{k:IntKind}{n:Int}(ho:o.op= .unOp .neg t x)(hx:argC x=some x')(hb:ev env x'= .one (.p (.int k n))):OpOk P w0 a.eval o m (.one (.p (.int k (k.wrap (0 - n))))) []:=by
 have h1:=argC_rel hx hr;rw[hb] at h1;exact .calm hok (by simp[execOp,ho,inv_int h1,Op.unary,Op.intArith]) (mk_p (.int _ _))
theorem sim_conv{s d:TypeId}{x:Operand}{x':IArg}{ks k k0:IntKind}{n:Int}(ho:o.op= .convert s d x)(hs:P.underlying s=some (.int ks))(hd:P.underlying d=some (.int k))(hx:argC x=some x')
  (hb:ev env x'= .one (.p (.int k0 n))):OpOk P w0 a.eval o m (.one (.p (.int k (k.wrap n)))) []:=by
 have h1:=argC_rel hx hr;rw[hb] at h1;exact .calm hok (by simp[execOp,ho,inv_int h1,convert,run_underlying hs,run_underlying hd,Conv.intToInt]) (mk_p (.int _ _))
theorem onesC_rel: ∀ {xs:List Operand} {ys:List IArg} {cs:List C},argsC xs=some ys→onesC env ys=some cs→CsRel m cs (xs.map a.eval):=by
 have _u0:=hok;intro xs
 induction xs with
 |nil=>
  intro ys cs h1 h2;simp[argsC] at h1;subst h1;simp[onesC] at h2;subst h2;exact⟨rfl,fun j x u p=>by simp at p⟩
 |cons x r ih=>
  intro ys cs h1 h2;simp only[argsC] at h1;split at h1
  ·rename_i y ys' e1 e2;cases h1
   simp only[onesC] at h2;split at h2
   ·rename_i c q e3 e4;cases h2
    obtain⟨hl,hrr⟩:=ih e2 e4;refine⟨by simpa using hl,fun j z u p q=> ?_⟩;cases j with
    |zero=>
     simp at p q;subst p q;have:=argC_rel e1 hr;rw[e3] at this;exact this
    |succ j=>simp at p q;exact hrr j z u p (by simpa using q)
   ·cases h2
  ·cases h1
theorem sim_mkfn{f:FuncId}{x y:Array Operand}{x' y':List IArg}{cs ds:List C}(ho:o.op= .makeFunc (.func f) x y)(hx:argsC x.toList=some x')(hy:argsC y.toList=some y')
  (hc:onesC env x'=some cs) (hd:onesC env y'=some ds):OpOk P w0 a.eval o m (.one (.hfn f cs ds)) []:=by
 have h1:=onesC_rel (hok:=hok) (hr:=hr) hx hc;have h2:=onesC_rel (hok:=hok) (hr:=hr) hy hd;refine .calm (x:= .func (.func f) (x.map a.eval) (y.map a.eval)) hok (by simp[execOp,ho,Instr.makeFunc]) (VRel.one.2 (.hfn _ _ ?_ ?_ ?_ ?_))
 ·have:=h1.1;simpa using this
 ·have:=h2.1;simpa using this
 ·intro j z u p q;exact h1.2 j z u p (by rw[← Array.toList_map,Array.getElem?_toList];exact q)
 ·intro j z u p q;exact h2.2 j z u p (by rw[← Array.toList_map,Array.getElem?_toList];exact q)
theorem sim_extract{x:Operand}{i:Nat}{x':IArg}{vs:List V}{v:V}(ho:o.op= .extract x i)(hx:argC x=some x')(he:ev env x'= .tup vs)(hv:vs[i]? =some v):OpOk P w0 a.eval o m v []:=by
 have h1:=argC_rel hx hr;rw[he] at h1;obtain⟨arr,e,hl,hc⟩:=h1;have hlt:i<arr.size:=by rw[hl];exact(List.getElem?_eq_some_iff.1 hv).1
 exact .calm (x:=arr[i]) hok (by simp[execOp,ho,e,Instr.extract,hlt]) (.of1 (hc i v _ hv (by simp[hlt])))
theorem lenL_rel{x:V}{v:Value}{n:Nat}(h:lenL x=some n)(hv:VRel m x v): ∃ ad cap,v= .slice ad n cap∧n≤cap∧cap≤maxLen:=by
 have _u0:=hok;have _u1:=hr;unfold lenL at h;split at h
 ·cases h;exact⟨none,0,inv_nils hv,Nat.le_refl _,Nat.zero_le _⟩
 ·cases h
  obtain⟨hp⟩:CRel m _ v:=hv;rename_i es;generalize hpv:(PV.sl es)=pv at hp;cases hp<;>cases hpv
  ·exact⟨_,_,rfl,Nat.zero_le _,by assumption⟩
  ·exact⟨_,_,rfl,by assumption,by assumption⟩
 ·cases h
  have hc:CRel m _ v:=hv;cases hc with
  |hsl ad cap hg hl hm h=>exact⟨_,_,rfl,hl,hm⟩
 ·cases h
theorem sim_llen{c:Call}{x:Operand}{x':IArg}{t e:TypeId}{n:Nat}(ho:o.op= .call c)(hc:c.callee= .builtin .len)(has:c.args= #[x])(hat:c.argTypes[0]? =some t)(ht:P.underlying t=some (.slice e))
  (hx:argC x=some x') (hn:lenL (ev env x')=some n):OpOk P w0 a.eval o m (.one (.p (.int .i64 n))) []:=by
 obtain⟨ad,cap,h1,_,_⟩:=lenL_rel (hok:=hok) (hr:=hr) hn (argC_rel hx hr);refine .calm hok ?_ (mk_p (.int _ _));simp[execOp,ho,resolve,hc,has,invoke,builtin,Builtin.len_,hat,h1,run_underlying ht,goInt]
theorem sim_slen{c:Call}{x:Operand}{x':IArg}{t:TypeId}{s:ByteArray}(ho:o.op= .call c)(hc:c.callee= .builtin .len)(has:c.args= #[x])(hat:c.argTypes[0]? =some t)(ht:P.underlying t=some .string)
  (hx:argC x=some x') (hn:ev env x'= .one (.p (.str s))):OpOk P w0 a.eval o m (.one (.p (.int .i64 s.size))) []:=by
 have h1:=argC_rel hx hr;rw[hn] at h1;refine .calm hok ?_ (mk_p (.int _ _));simp[execOp,ho,resolve,hc,has,invoke,builtin,Builtin.len_,hat,inv_str h1,run_underlying ht,goInt]
theorem sim_max{c:Call}{x y:Operand}{x' y':IArg}{k k':IntKind}{p q:Int}(ho:o.op= .call c)(hc:c.callee= .builtin .max)(has:c.args= #[x,y])
  (hx:argC x=some x') (hy:argC y=some y') (h1:ev env x'= .one (.p (.int k p))) (h2:ev env y'= .one (.p (.int k' q))):OpOk P w0 a.eval o m (.one (.p (.int k (if q>p then q else p)))) []:=by
 have g1:=argC_rel hx hr;have g2:=argC_rel hy hr;rw[h1] at g1;rw[h2] at g2;refine .calm hok ?_ (mk_p (.int _ _));simp[execOp,ho,resolve,hc,has,invoke,builtin,Builtin.max_,Builtin.max2,inv_int g1,inv_int g2]
theorem sim_min{c:Call}{x y:Operand}{x' y':IArg}{k k':IntKind}{p q:Int}(ho:o.op= .call c)(hc:c.callee= .builtin .min)(has:c.args= #[x,y])
  (hx:argC x=some x') (hy:argC y=some y') (h1:ev env x'= .one (.p (.int k p))) (h2:ev env y'= .one (.p (.int k' q))):OpOk P w0 a.eval o m (.one (.p (.int k (if q<p then q else p)))) []:=by
 have g1:=argC_rel hx hr;have g2:=argC_rel hy hr;rw[h1] at g1;rw[h2] at g2;refine .calm hok ?_ (mk_p (.int _ _));simp[execOp,ho,resolve,hc,has,invoke,builtin,Builtin.min_,Builtin.min2,inv_int g1,inv_int g2]
end
end Go.Abs
namespace Go.Abs
variable {P:Program} {w0:World}
theorem app_spec: ∀ (u:List Upd) (blk:Blk) (id:Nat),(app u blk id=blk id∧ ∀ e∈u,e.1≠id)∨ ∃ e∈u,e.1=id∧app u blk id=e.2:=by
 intro u
 induction u with
 |nil=>intro blk id;exact .inl ⟨rfl,fun e h=>by simp at h⟩
 |cons x r ih=>
  intro blk id;obtain⟨i,o⟩:=x;simp only[app];rcases ih (upd blk i o) id with ⟨h1,h2⟩|⟨e,he,h1,h2⟩
  ·by_cases hi:id=i
   ·exact .inr ⟨(i,o),by simp,hi.symm,by rw[h1];simp[upd_apply,hi]⟩
   ·refine .inl ⟨by rw[h1];simp[upd_apply,hi],fun e he=> ?_⟩;rcases List.mem_cons.1 he with rfl|he
    ·exact fun h=>hi h.symm
    ·exact h2 e he
  ·exact .inr ⟨e,by simp[he],h1,h2⟩
theorem collect_rel{α β γ:Type}{f:α→Option (β × List Nat)}{R:α→γ→Prop}{T:β→γ→Prop}{good:List Nat→Prop}(hgood: ∀ a b,good (a++b)→good a∧good b)
  (hf: ∀ a b r v,f a=some (b,r)→R a v→good r→T b v): ∀ {xs:List α} {ys:List β} {r:List Nat} {vs:List γ},collect f xs=some (ys,r)→good r→
  (vs.length=xs.length∧ ∀ (j:Nat) (x:α) (u:γ),xs[j]? =some x→vs[j]? =some u→R x u)→(vs.length=ys.length∧ ∀ (j:Nat) (x:β) (u:γ),ys[j]? =some x→vs[j]? =some u→T x u):=by
 intro xs
 induction xs with
 |nil=>
  intro ys r vs h _ hr;simp[collect] at h;obtain⟨rfl,rfl⟩:=h;exact⟨hr.1,fun j x u a=>by simp at a⟩
 |cons x t ih=>
  intro ys r vs h hg hr;simp only[collect] at h;split at h
  ·rename_i b p bs q e1 e2;cases h
   obtain⟨g1,g2⟩:=hgood _ _ hg;cases vs with
   |nil=>simp at hr
   |cons v us=>
    obtain⟨hl,hh⟩:=ih (vs:=us) e2 g2 ⟨by simpa using hr.1,fun j x u a b=>hr.2 (j+1) x u (by simpa using a) (by simpa using b)⟩;refine⟨by simp[hl],fun j z u a b=> ?_⟩;cases j with
    |zero=>simp at a b;subst a b;exact hf _ _ _ _ e1 (hr.2 0 x v rfl rfl) g1
    |succ j=>simp at a b;exact hh j z u a b
  ·cases h
def Spares(m:Mem)(own:Nat→Prop)(r:List Nat):Prop:=(∀ b,own b→m.own b)∧ ∀ id∈r,¬ own (m.σ id)
theorem Spares.app{m:Mem}{own:Nat→Prop}{a b:List Nat}(h:Spares m own (a++b)):Spares m own a∧Spares m own b:=
 ⟨⟨h.1,fun id hi=>h.2 id (by simp[hi])⟩,⟨h.1,fun id hi=>h.2 id (by simp[hi])⟩⟩
theorem PRel.less{w:World}{own own':Nat→Prop}(h: ∀ b,own' b→own b){x:PV}{v:Value}(hr:PRel w own x v):PRel w own' x v:=
 hr.mono fun c _ hn=>⟨rfl,fun ho=>hn (h c ho)⟩
theorem PsRel.less{w:World}{own own':Nat→Prop}(h: ∀ b,own' b→own b){x:List PV}{v:List Value}(hr:PsRel w own x v):PsRel w own' x v:=⟨hr.1,fun j x u a b=>(hr.2 j x u a b).less h⟩
theorem mk_list{α:Type}{xs:List α}{R:α→Value→Prop}{vs:List Value}(h:Pw R xs vs): ∃ f:Nat→Value,∀ (j:Nat) (x:α),xs[j]? =some x→vs[j]? =some (f j)∧R x (f j):=by
 refine⟨fun j=>vs.getD j undef,fun j x hx=> ?_⟩;have hlt:j<vs.length:=by rw[h.1];exact(List.getElem?_eq_some_iff.1 hx).1
 have:vs[j]? =some (vs.getD j undef):=by simp[List.getD,List.getElem?_eq_getElem hlt]
 exact⟨this,h.2 j x _ hx this⟩
theorem mk_box{w:World}{own:Nat→Prop}{b o:Nat}{cur:Array Value}{ty:TypeId}{fz:Nat × Nat}{ps:List PV}(hh:w.heap[b]? =some (.cells cur ty fz))(hp:Pw (PRel w own) ps (cur.toList.drop o |>.take ps.length))
  (ho:ps≠[]→ ¬ own b):PRel w own (.box ps) (.pointer (some ⟨b,o,none⟩)):=by
 obtain⟨f,hf⟩:=mk_list hp;refine .box b o f ho (fun j x hx=> ?_) fun j x hx=>(hf j x hx).2
 have h1:=(hf j x hx).1;rw[List.getElem?_take] at h1;split at h1
 ·rw[cell_row hh];simpa using h1
 ·cases h1
theorem mk_sl{w:World}{own:Nat→Prop}{b o cap sz:Nat}{cur:Array Value}{ty:TypeId}{fz:Nat × Nat}{es:List (List PV)}(hh:w.heap[b]? =some (.cells cur ty fz))(hsz: ∀ e∈es,e.length=sz)
  (hl:es.length≤cap) (hm:cap≤maxLen) (hp:Pw (PRel w own) es.flatten ((cur.toList.drop o).take (es.length*sz))) (ho: ¬ own b):PRel w own (.sl es) (.slice (some ⟨b,o,none⟩) es.length cap):=by
 obtain⟨f,hf⟩:=mk_list hp;refine .sl b o cap sz f (fun _=>ho) hl hm hsz (fun j x hx=> ?_) fun j x hx=>(hf j x hx).2
 have h1:=(hf j x hx).1;rw[List.getElem?_take] at h1;split at h1
 ·rw[cell_row hh];simpa using h1
 ·cases h1
theorem flat_drop{α:Type}{sz:Nat}: ∀ {es:List (List α)},(∀ e∈es,e.length=sz)→ ∀ (n:Nat),(es.drop n).flatten=es.flatten.drop (n*sz):=by
 intro es
 induction es with
 |nil=>intro _ n;simp
 |cons e r ih=>
  intro h n;cases n with
  |zero=>simp
  |succ n=>
   simp only[List.drop_succ_cons,List.flatten_cons];have h1:=h e (by simp);rw[ih (fun x hx=>h x (by simp[hx])),List.drop_append,List.drop_of_length_le (by rw[h1,Nat.add_mul];omega:e.length≤(n+1)*sz),List.nil_append];congr 1;rw[h1,Nat.add_mul];omega
theorem flat_take{α:Type}{sz:Nat}: ∀ {es:List (List α)},(∀ e∈es,e.length=sz)→ ∀ (n:Nat),(es.take n).flatten=es.flatten.take (n*sz):=by
 intro es
 induction es with
 |nil=>intro _ n;simp
 |cons e r ih=>
  intro h n;cases n with
  |zero=>simp
  |succ n=>
   simp only[List.take_succ_cons,List.flatten_cons];have h1:=h e (by simp);rw[ih (fun x hx=>h x (by simp[hx])),List.take_append,List.take_of_length_le (by rw[h1,Nat.add_mul];omega:e.length≤(n+1)*sz)];congr 1;congr 1;rw[h1,Nat.add_mul];omega
theorem seg_pw{α:Type}{R:α→Value→Prop}{sz off len:Nat}{es:List (List α)}{cur:List Value}(hsz: ∀ e∈es,e.length=sz)(h:Pw R es.flatten (cur.take (es.length*sz)))(hfit:off+len≤es.length):
  Pw R ((es.drop off).take len).flatten ((cur.drop (off*sz)).take (((es.drop off).take len).length*sz)):=by
 have hsz2: ∀ e∈es.drop off,e.length=sz:=fun e he=>hsz e (List.mem_of_mem_drop he)
 have hlen:((es.drop off).take len).length=len:=by simp;omega
 rw[hlen,flat_take hsz2,flat_drop hsz];have h1:=(h.drop (off*sz)).take (len*sz);have h2:((cur.take (es.length*sz)).drop (off*sz)).take (len*sz)=(cur.drop (off*sz)).take (len*sz):=by
  rw[List.drop_take,List.take_take];congr 1;have:off*sz+len*sz≤es.length*sz:=by rw[← Nat.add_mul];exact Nat.mul_le_mul_right _ hfit
  omega
 rw[h2] at h1;exact h1
theorem pw_flat{α:Type}{R:α→Value→Prop}{sz:Nat}: ∀ {ps:List (List α)} {cur:List Value},(∀ e∈ps,e.length=sz)→ps.length*sz≤cur.length→
  (∀ (j:Nat) (e:List α),ps[j]? =some e→Pw R e ((cur.drop (j*sz)).take sz))→Pw R ps.flatten (cur.take (ps.length*sz)):=by
 intro ps
 induction ps with
 |nil=>intro cur _ _ _;exact⟨by simp,fun j x u a=>by simp at a⟩
 |cons e r ih=>
  intro cur h hl hp;simp only[List.length_cons,Nat.add_mul,Nat.one_mul] at hl;have h0:=hp 0 e rfl;rw[Nat.zero_mul,List.drop_zero] at h0;have h1:=ih (cur:=cur.drop sz) (fun x hx=>h x (by simp[hx])) (by simp;omega) fun j x hx=>by
   have:=hp (j+1) x (by simpa using hx);rw[Nat.add_mul,Nat.one_mul] at this;rw[List.drop_drop,Nat.add_comm sz];exact this
  have h2:=h0.append h1;have h3:cur.take sz++(cur.drop sz).take (r.length*sz)=cur.take ((e::r).length*sz):=by
   rw[List.length_cons,Nat.add_mul,Nat.one_mul,Nat.add_comm,List.take_add]
  rw[h3] at h2;exact h2
theorem flat_seg{α:Type}{R:α→Value→Prop}{sz i:Nat}{es:List (List α)}{e:List α}{cur:List Value}(hsz: ∀ e∈es,e.length=sz)(h:Pw R es.flatten (cur.take (es.length*sz)))(he:es[i]? =some e):
  Pw R e ((cur.drop (i*sz)).take sz):=by
 have hi:i<es.length:=(List.getElem?_eq_some_iff.1 he).1;have h1:=seg_pw (off:=i) (len:=1) hsz h (by omega);have h0:((es.drop i).take 1)=[e]:=by
  rw[List.drop_eq_getElem_cons hi];have:=(List.getElem?_eq_some_iff.1 he).2;simp[this]
 rw[h0] at h1
 simpa using h1
theorem collect_len{α β:Type}{f:α→Option (β × List Nat)}: ∀ {xs:List α} {ys:List β} {r:List Nat},collect f xs=some (ys,r)→ys.length=xs.length:=by
 intro xs
 induction xs with
 |nil=>intro ys r h;simp[collect] at h;rw[h.1];rfl
 |cons x t ih=>
  intro ys r h;simp only[collect] at h;split at h
  ·rename_i b p bs q e1 e2;cases h;simp[ih e2]
  ·cases h
theorem collect_at{α β:Type}{f:α→Option (β × List Nat)}: ∀ {xs:List α} {ys:List β} {r:List Nat},collect f xs=some (ys,r)→ ∀ {j:Nat} {y:β},ys[j]? =some y→ ∃ x q,xs[j]? =some x∧f x=some (y,q)∧ ∀ i∈q,i∈r:=by
 intro xs
 induction xs with
 |nil=>intro ys r h j y hy;simp[collect] at h;rw[h.1] at hy;simp at hy
 |cons x t ih=>
  intro ys r h j y hy;simp only[collect] at h;split at h
  ·rename_i b p bs q e1 e2;cases h
   cases j with
   |zero=>simp at hy;subst hy;exact⟨x,p,rfl,e1,fun i hi=>by simp[hi]⟩
   |succ j=>
    simp at hy;obtain⟨x',q',h1,h2,h3⟩:=ih e2 hy;exact⟨x',q',by simpa using h1,h2,fun i hi=>by simp[h3 i hi]⟩
  ·cases h
theorem snap_rel{m:Mem}(hok:Ok w0 m){own:Nat→Prop}: ∀ (n:Nat) {c:C} {x:PV} {r:List Nat} {v:Value},snap m.blk n c=some (x,r)→CRel m c v→Spares m own r→PRel m.w own x v:=by
 intro n
 induction n with
 |zero=>intro c x r v h;simp[snap] at h
 |succ n ih=>
  intro c x r v h hr hs;have hcoll: ∀ {cs:List C} {ps:List PV} {q:List Nat} {vs:List Value},collect (snap m.blk n) cs=some (ps,q)→Spares m own q→Pw (CRel m) cs vs→Pw (PRel m.w own) ps vs:=
   fun h1 h2 h3=>collect_rel (R:=CRel m) (T:=PRel m.w own) (good:=Spares m own) (fun a b h=>h.app) (fun a b r v e1 e2 e3=>ih e1 e2 e3) h1 h2 h3
  have hless: ∀ {ps:List PV} {vs:List Value},PsRel m.w m.own ps vs→Pw (PRel m.w own) ps vs:=fun h=>PsRel.pw.1 (h.less hs.1)
  unfold snap at h;cases c with
  |p y=>
   simp at h;obtain⟨rfl,rfl⟩:=h;obtain⟨hp⟩:=hr;exact hp.norm.less hs.1
  |href id g off=>
   cases hr with
   |href a hg ha=>
    simp only at h;split at h
    ·rename_i g' cs hb;split at h
     ·rename_i hgg;split at h
      ·rename_i ps q hq;cases h
       have hb2:(m.blk id).2=some (.var cs):=by rw[hb]
       have ha:=ha (by rw[hb];exact hgg) (by rw[hb2];rfl);subst ha;obtain⟨cur,ty,hh,hc⟩:=hok.obj id _ hb2;have hp:=hcoll hq ⟨hs.1,fun i hi=>hs.2 i (by simp[hi])⟩ (CsRel.pw.1 hc);refine mk_box hh ?_ fun _=>hs.2 id (by simp)
       have h1:=hp.drop off;have h2:(cur.toList.drop off).take (ps.drop off).length=cur.toList.drop off:=List.take_of_length_le (by have:=h1.1;omega);rw[h2];exact h1
      ·cases h
     ·cases h
    ·rename_i g' ps hb;split at h
     ·rename_i hgg;cases h
      have hb2:(m.blk id).2=some (.fvar ps):=by rw[hb]
      have ha:=ha (by rw[hb];exact hgg) (by rw[hb2];rfl);subst ha;obtain⟨cur,ty,fz,hh,hc,_⟩:=hok.obj id _ hb2;refine mk_box hh ?_ fun _=>hs.2 id (by simp)
      have h1:=(hless hc).drop off;have h2:(cur.toList.drop off).take (ps.drop off).length=cur.toList.drop off:=List.take_of_length_le (by have:=h1.1;omega);rw[h2];exact h1
     ·cases h
    ·cases h
  |hel id g i off=>
   cases hr with
   |hel a hg ha=>
    have key: ∀ (ty sz:Nat) (es:List (List PV)) (e:List PV) (cur:Array Value) (fz:Nat × Nat),m.w.heap[m.σ id]? =some (.cells cur ty fz)→(∀ e∈es,e.length=sz)→es.length*sz≤cur.size→
      PsRel m.w m.own es.flatten (cur.toList.take (es.length*sz))→es[i]? =some e→a=⟨m.σ id,i*sz+off,none⟩→ ¬ own (m.σ id)→PRel m.w own (.box (e.drop off)) (.pointer (some a)):=by
     intro ty sz es e cur fz hh hsz hlen hps he haa hno;subst haa;have hel:=getElem?_mem_len hsz he;have hi:i<es.length:=(List.getElem?_eq_some_iff.1 he).1;have hil:(i+1)*sz≤es.length*sz:=Nat.mul_le_mul_right _ hi;have h1:=(seg_pw (off:=i) (len:=1) hsz (hless hps) (by omega)).drop off;have h0:((es.drop i).take 1)=[e]:=by
      rw[List.drop_eq_getElem_cons hi];have:=(List.getElem?_eq_some_iff.1 he).2;simp[this]
     rw[h0] at h1;simp only[List.flatten_cons,List.flatten_nil,List.append_nil,List.length_cons,List.length_nil,Nat.zero_add,Nat.one_mul] at h1;refine mk_box hh ?_ fun _=>hno
     have h2:(cur.toList.drop (i*sz+off)).take (e.drop off).length=(((cur.toList.drop (i*sz)).take sz).drop off):=by
      rw[List.drop_take,List.drop_drop,List.length_drop,hel]
     rw[h2];exact h1
    simp only at h;split at h
    ·rename_i g' ty sz es hb;split at h
     ·rename_i hgg;simp only[Option.map_eq_some_iff,Prod.mk.injEq] at h;obtain⟨e,he,rfl,rfl⟩:=h;have hb2:(m.blk id).2=some (.arr ty sz es):=by rw[hb]
      obtain⟨cur,hh,hs0,hsz,hl,hm,hcs,hps⟩:=hok.obj id _ hb2;exact key ty sz es e cur _ hh hsz (by rw[hcs];exact Nat.mul_le_mul_right _ hl) hps he (ha sz (by rw[hb];exact hgg) (by rw[hb];rfl)) (hs.2 id (by simp))
     ·cases h
    ·rename_i g' ty sz es hb;split at h
     ·rename_i hgg;simp only[Option.map_eq_some_iff,Prod.mk.injEq] at h;obtain⟨e,he,rfl,rfl⟩:=h;have hb2:(m.blk id).2=some (.farr ty sz es):=by rw[hb]
      obtain⟨cur,fz,hh,hs0,hsz,hl,hm,hcs,hps,_⟩:=hok.obj id _ hb2;exact key ty sz es e cur _ hh hsz (by rw[hcs];exact Nat.mul_le_mul_right _ hl) hps he (ha sz (by rw[hb];exact hgg) (by rw[hb];rfl)) (hs.2 id (by simp))
     ·cases h
    ·cases h
  |hsl id g z off len=>
   cases hr with
   |hsl a cap hg hl hm ha=>
    have key: ∀ (ty sz:Nat) (es:List (List PV)) (cur:Array Value) (fz:Nat × Nat),m.w.heap[m.σ id]? =some (.cells cur ty fz)→(∀ e∈es,e.length=sz)→Pw (PRel m.w own) es.flatten (cur.toList.take (es.length*sz))→
      off+len≤es.length→(off=0∨0<len→a=⟨m.σ id,off*sz,none⟩)→ ¬ own (m.σ id)→PRel m.w own (.sl ((es.drop off).take len)) (.slice (some a) len cap):=by
     intro ty sz es cur fz hh hsz hps hfit haa hno;by_cases hlen:len=0
     ·subst hlen;simp only[List.take_zero];exact .sl0 _ _ (fun h=>by cases h) hm
     ·have:=haa (.inr (by omega));subst this;have hle:((es.drop off).take len).length=len:=by simp;omega
      have h1:=mk_sl (cap:=cap) (own:=own) (o:=off*sz) (es:=(es.drop off).take len) hh (sz:=sz) (fun e he=>hsz e (List.mem_of_mem_drop (List.mem_of_mem_take he))) (by omega) hm (seg_pw hsz hps hfit) hno;rw[hle] at h1;exact h1
    simp only at h;split at h
    ·rename_i g' ty sz es hb;split at h
     ·rename_i hc;cases h
      have hb2:(m.blk id).2=some (.arr ty sz es):=by rw[hb]
      obtain⟨cur,hh,hs0,hsz,hl',hm',hcs,hps⟩:=hok.obj id _ hb2;exact key ty sz es cur _ hh hsz (hless hps) hc.2 (by obtain⟨_,h2,_⟩:=ha sz (by rw[hb];exact hc.1) (by rw[hb];rfl);rename_i e1 _;exact e1▸h2) (hs.2 id (by simp))
     ·cases h
    ·rename_i g' ty sz es hb;split at h
     ·rename_i hc;cases h
      have hb2:(m.blk id).2=some (.farr ty sz es):=by rw[hb]
      obtain⟨cur,fz,hh,hs0,hsz,hl',hm',hcs,hps,_⟩:=hok.obj id _ hb2;exact key ty sz es cur _ hh hsz (hless hps) hc.2 (by obtain⟨_,h2,_⟩:=ha sz (by rw[hb];exact hc.1) (by rw[hb];rfl);exact h2) (hs.2 id (by simp))
     ·cases h
    ·rename_i g' ty sz es hb;split at h
     ·rename_i hc;split at h
      ·rename_i ps q hq;cases h
       have hb2:(m.blk id).2=some (.carr ty sz es):=by rw[hb]
       obtain⟨cur,hh,hs0,hsz,hl',hm',hcs,hps⟩:=hok.obj id _ hb2;have hseg:=seg_pw hsz (CsRel.pw.1 hps) hc.2;have hsz2: ∀ e∈(es.drop off).take len,e.length=sz:=fun e he=>hsz e (List.mem_of_mem_drop (List.mem_of_mem_take he))
       have hle:((es.drop off).take len).length=len:=by simp;omega
       have hpl:ps.length=len:=by rw[collect_len hq,hle]
       have hcap:len*sz≤(cur.toList.drop (off*sz)).length:=by
        simp;have h1:off*sz+len*sz≤es.length*sz:=by rw[← Nat.add_mul];exact Nat.mul_le_mul_right _ hc.2
        have h2:es.length*sz≤m.κ id*sz:=Nat.mul_le_mul_right _ hl';omega
       have hpe: ∀ (j:Nat) (e:List PV),ps[j]? =some e→Pw (PRel m.w own) e (((cur.toList.drop (off*sz)).drop (j*sz)).take sz):=by
        intro j e he;obtain⟨x,q',h1,h2,h3⟩:=collect_at hq he;exact hcoll h2 ⟨hs.1,fun i hi=>hs.2 i (by simp[h3 i hi])⟩ (flat_seg hsz2 hseg h1)
       have hpsz: ∀ e∈ps,e.length=sz:=by
        intro e he;obtain⟨j,hj⟩:=List.getElem?_of_mem he;have:=(hpe j e hj).1;have hjl:j<len:=by rw[← hpl];exact(List.getElem?_eq_some_iff.1 hj).1
        have h1:(j+1)*sz≤len*sz:=Nat.mul_le_mul_right _ hjl;rw[Nat.add_mul] at h1;simp at this hcap;omega
       by_cases hlen:len=0
       ·have:ps=[]:=List.eq_nil_of_length_eq_zero (by omega);subst this;subst hlen;exact .sl0 _ _ (fun h=>by cases h) hm
       ·obtain⟨_,h2,_⟩:=ha sz (by rw[hb];exact hc.1) (by rw[hb];rfl);rename_i e1 _;have haa:=h2 (.inr (by omega));subst haa;have hfin:=mk_sl (cap:=cap) (own:=own) (o:=off*sz) hh hpsz (by omega) hm (pw_flat hpsz (by rw[hpl];exact hcap) hpe) (hs.2 id (by simp));rw[hpl] at hfin;exact hfin
      ·cases h
     ·cases h
    ·cases h
  |hmap id g=>
   cases hr with
   |hmap r' hg ha=>
    have key: ∀ (ag:Bool) (es:List (PV × List PV)) (ents:Array MapEntry) (clock:Nat),m.w.heap[m.σ id]? =some (.map ents clock)→ents.size=es.length→
      (∀ (i:Nat) (q:PV) (v:List PV) (e:MapEntry),es[i]? =some (q,v)→ents[i]? =some e→PRel m.w m.own q e.key∧ ∃ g:Array Value,(ag=true→e.val= .agg g)∧(ag=false→ #[e.val]=g)∧PsRel m.w m.own v g.toList)→
      ¬ own (m.σ id)→PRel m.w own (.mp ag es) (.map (some (m.σ id))):=by
     intro ag es ents clock hh hl hc hno;have hch: ∃ G:Nat→Array Value,∀ (i:Nat) (q:PV) (v:List PV) (e:MapEntry),es[i]? =some (q,v)→ents[i]? =some e→(ag=true→e.val= .agg (G i))∧(ag=false→ #[e.val]=G i)∧PsRel m.w m.own v (G i).toList:=by
      refine⟨fun i=>match ents[i]? with|some e=>(match e.val with| .agg g=>if ag then g else #[e.val]|v=> #[v])|none=> #[],fun i q v e h1 h2=> ?_⟩;obtain⟨_,g,g1,g2,g3⟩:=hc i q v e h1 h2;simp only[h2];cases ag with
      |true=>have:=g1 rfl;simp[this];exact g3
      |false=>
       have:=g2 rfl;subst this;refine⟨(fun h=>by cases h),(fun _=> ?_),?_⟩
       ·cases e.val<;>rfl
       ·cases hv:e.val<;>simp only[hv] at g3<;>exact g3
     obtain⟨G,hG⟩:=hch;refine .mp (m.σ id) ents clock G hno hh hl (fun i q v e h1 h2=>((hc i q v e h1 h2).1).less hs.1) (fun i q v e h1 h2=> ?_) fun i q v j x u h1 h2 h3=> ?_
     ·obtain⟨a1,a2,a3⟩:=hG i q v e h1 h2;exact⟨by have:=a3.1;simpa using this,a1,a2⟩
     ·have hlt:i<ents.size:=by rw[hl];exact(List.getElem?_eq_some_iff.1 h1).1
      obtain⟨a1,a2,a3⟩:=hG i q v _ h1 (Array.getElem?_eq_getElem hlt);exact(a3.2 j x u h2 (by rw[Array.getElem?_toList];exact h3)).less hs.1
    simp only at h;split at h
    ·rename_i g' ag es hb;split at h
     ·rename_i hgg;cases h
      have hb2:(m.blk id).2=some (.map ag es):=by rw[hb]
      have ha:=ha (by rw[hb];exact hgg) (by rw[hb2];rfl);subst ha;obtain⟨ents,clock,hh,hl,hc⟩:=hok.obj id _ hb2;exact key ag es ents clock hh hl hc (hs.2 id (by simp))
     ·cases h
    ·rename_i g' ag es hb;split at h
     ·rename_i hgg;cases h
      have hb2:(m.blk id).2=some (.fmap ag es):=by rw[hb]
      have ha:=ha (by rw[hb];exact hgg) (by rw[hb2];rfl);subst ha;obtain⟨ents,clock,hh,hl,hc,_⟩:=hok.obj id _ hb2;exact key ag es ents clock hh hl hc (hs.2 id (by simp))
     ·cases h
    ·cases h
  |hfn f a b=>
   cases hr with
   |hfn A B hA hB hra hrb=>
    simp only at h;split at h
    ·rename_i xa ra xb rb h1 h2;cases h
     obtain⟨s1,s2⟩:=hs.app;have p1:=hcoll (vs:=A.toList) h1 s1 ⟨by simpa using hA,fun j x u p q=>hra j x u p (by rw[← Array.getElem?_toList];exact q)⟩;have p2:=hcoll (vs:=B.toList) h2 s2 ⟨by simpa using hB,fun j x u p q=>hrb j x u p (by rw[← Array.getElem?_toList];exact q)⟩;exact .fn A B (by have:=p1.1;simpa using this) (by have:=p2.1;simpa using this) (fun j x u p q=>p1.2 j x u p (by rw[Array.getElem?_toList];exact q)) fun j x u p q=>p2.2 j x u p (by rw[Array.getElem?_toList];exact q)
    ·cases h
end Go.Abs
namespace Go.Abs
variable {P:Program} {w0:World}
theorem frzL_spec{blk:Blk}{all:List Nat}: ∀ {l:List Nat} {u:List Upd},frzL blk all l=some u→
  (∀ e∈u,e.1∈l∧ ∃ x,frz1 blk all e.1=some x∧e∈x)∧ ∀ id∈l,∃ x,frz1 blk all id=some x∧ ∀ e∈x,e∈u:=by
 intro l
 induction l with
 |nil=>intro u h;simp[frzL] at h;subst h;exact⟨fun e h=>by simp at h,fun id h=>by simp at h⟩
 |cons i r ih=>
  intro u h;simp only[frzL] at h;split at h
  ·rename_i a b h1 h2;cases h
   obtain⟨g1,g2⟩:=ih h2;have hfst: ∀ e∈a,e.1=i:=by
    intro e he;unfold frz1 at h1;split at h1<;>first
     |(cases h1;simp at he;subst he;rfl)
     |(split at h1
       ·split at h1
        ·cases h1;simp at he;subst he;rfl
        ·cases h1
       ·cases h1)
     |(cases h1;simp at he)
     |cases h1
   refine⟨fun e he=> ?_,fun id hid=> ?_⟩
   ·rcases List.mem_append.1 he with he|he
    ·exact⟨by simp[hfst e he],a,by rw[hfst e he];exact h1,he⟩
    ·obtain⟨k1,k2⟩:=g1 e he;exact⟨by simp[k1],k2⟩
   ·rcases List.mem_cons.1 hid with rfl|hid
    ·exact⟨a,h1,fun e he=>by simp[he]⟩
    ·obtain⟨x,k1,k2⟩:=g2 id hid;exact⟨x,k1,fun e he=>by simp[k2 e he]⟩
  ·cases h
def Fixes(blk:Blk)(all:List Nat):Ob→Ob→Prop
 | .var cs, .fvar ps=> ∃ r,collect (snap blk snapN) cs=some (ps,r)∧ ∀ i∈r,i∈all
 | .arr ty sz es, .farr ty' sz' es'=>ty'=ty∧sz'=sz∧es'=es
 | .carr ty sz es, .farr ty' sz' ps=>ty'=ty∧sz'=sz∧ ∃ r,collect (collect (snap blk snapN)) es=some (ps,r)∧ ∀ i∈r,i∈all
 | .map ag es, .fmap ag' es'=>ag'=ag∧es'=es
 |_,_=>False
theorem Fixes.facts{blk:Blk}{all:List Nat}{o o':Ob}(h:Fixes blk all o o')(g:Nat):o.mine=true∧o'.mine=false∧szAt (g,some o')=szAt (g,some o):=by
 cases o<;>cases o'<;>simp only[Fixes] at h<;>first
  |exact h.elim
  |exact⟨rfl,rfl,rfl⟩
  |exact⟨rfl,rfl,by simp[szAt,h.2.1]⟩
theorem frz1_spec{blk:Blk}{all:List Nat}{id:Nat}{x:List Upd}(h:frz1 blk all id=some x):
  (∃ o,(blk id).2=some o∧o.mine=false∧x=[])∨ ∃ o o',(blk id).2=some o∧Fixes blk all o o'∧x=[(id,((blk id).1,some o'))]:=by
 unfold frz1 at h;split at h
 ·rename_i g cs hb;split at h
  ·rename_i ps r hc;split at h
   ·rename_i hall;cases h
    refine .inr ⟨.var cs, .fvar ps,by rw[hb],⟨r,hc,fun i hi=> ?_⟩,by rw[hb]⟩;have:=List.all_eq_true.1 hall i hi
    simpa using this
   ·cases h
  ·cases h
 ·rename_i g ty sz es hb;cases h;exact .inr ⟨.arr ty sz es, .farr ty sz es,by rw[hb],⟨rfl,rfl,rfl⟩,by rw[hb]⟩
 ·rename_i g ty sz es hb;split at h
  ·rename_i ps r hc;split at h
   ·rename_i hall;cases h
    refine .inr ⟨.carr ty sz es, .farr ty sz ps,by rw[hb],⟨rfl,rfl,r,hc,fun i hi=> ?_⟩,by rw[hb]⟩;have:=List.all_eq_true.1 hall i hi
    simpa using this
   ·cases h
  ·cases h
 ·rename_i g ag es hb;cases h;exact .inr ⟨.map ag es, .fmap ag es,by rw[hb],⟨rfl,rfl⟩,by rw[hb]⟩
 ·cases h
 ·rename_i y n1 n2 n3 n4 n5;cases h
  cases hb:blk id with
  |mk g o=>
   cases o with
   |none=>exact(n5 g hb).elim
   |some o=>
    refine .inl ⟨o,rfl,?_,rfl⟩;cases o with
    |var cs=>exact(n1 g cs hb).elim
    |arr ty sz es=>exact(n2 g ty sz es hb).elim
    |carr ty sz es=>exact(n3 g ty sz es hb).elim
    |map ag es=>exact(n4 g ag es hb).elim
    |_=>rfl
def Mem.with(m:Mem)(u:List Upd):Mem:={m with blk:=app u m.blk}
theorem frz_at{m:Mem}{ids:List Nat}{u:List Upd}(h:frz m.blk ids=some u)(id:Nat):
  ((m.with u).blk id=m.blk id∧(id∈ids→ ∃ o,(m.blk id).2=some o∧o.mine=false))∨
  (id∈ids∧ ∃ o o',(m.blk id).2=some o∧Fixes m.blk ids o o'∧(m.with u).blk id=((m.blk id).1,some o')):=by
 obtain⟨h1,h2⟩:=frzL_spec h;rcases app_spec u m.blk id with ⟨e1,e2⟩|⟨e,he,e1,e2⟩
 ·refine .inl ⟨e1,fun hid=> ?_⟩;obtain⟨x,hx,hxu⟩:=h2 id hid;rcases frz1_spec hx with ⟨o,a,b,_⟩|⟨o,o',a,b,c⟩
  ·exact⟨o,a,b⟩
  ·exact(e2 (id,(m.blk id).fst,some o') (hxu _ (by rw[c];simp)) rfl).elim
 ·obtain⟨k1,x,k2,k3⟩:=h1 e he;rw[e1] at k1 k2;rcases frz1_spec k2 with ⟨o,a,b,c⟩|⟨o,o',a,b,c⟩
  ·rw[c] at k3;simp at k3
  ·rw[c] at k3;simp at k3;refine .inr ⟨k1,o,o',a,b,?_⟩;simp only[Mem.with];rw[e2,k3]
theorem frz_own{m:Mem}{ids:List Nat}{u:List Upd}(h:frz m.blk ids=some u){c:Nat}(hc:(m.with u).own c):m.own c:=by
 rcases hc with hc|⟨id,o,h1,h2,h3⟩
 ·exact .inl hc
 ·rcases frz_at h id with ⟨e,_⟩|⟨_,p,q,a,b,e⟩
  ·rw[e] at h1;exact .inr ⟨id,o,h1,h2,h3⟩
  ·rw[e] at h1;cases h1
   rw[(b.facts 0).2.1] at h2;cases h2
theorem frz_spares{m:Mem}(hok:Ok w0 m){ids:List Nat}{u:List Upd}(h:frz m.blk ids=some u):Spares m (m.with u).own ids:=by
 refine⟨fun b hb=>frz_own h hb,fun id hid hc=> ?_⟩;rcases frz_at h id with ⟨e,hn⟩|⟨_,o,o',a,b,e⟩
 ·obtain⟨o,ho,hm⟩:=hn hid;exact(hok.obj id o ho).calm hm (frz_own h hc)
 ·rcases hc with hc|⟨id',q,h1,h2,h3⟩
  ·exact(hok.above id o a (b.facts 0).1).2 hc
  ·by_cases hi:id'=id
   ·subst hi;rw[e] at h1;cases h1
    rw[(b.facts 0).2.1] at h2;cases h2
   ·rcases frz_at h id' with ⟨e',_⟩|⟨_,p',q',a',b',e'⟩
    ·rw[e'] at h1;exact hi (hok.inj id' id q o h1 h2 a (b.facts 0).1 h3)
    ·rw[e'] at h1;cases h1
     rw[(b'.facts 0).2.1] at h2;cases h2
theorem frz_ev{m:Mem}{ids:List Nat}{u:List Upd}(h:frz m.blk ids=some u):Ev m (m.with u) where
 os:=rfl
 tape:=rfl
 output:=rfl
 size:=Nat.le_refl _
 keep _ _ _:=rfl
 mine c _ hc:=by
  obtain⟨id,o,h1,h2,h3⟩:=hc;rcases frz_at h id with ⟨e,_⟩|⟨_,p,q,a,b,e⟩
  ·rw[e] at h1;exact⟨id,o,h1,h2,h3⟩
  ·rw[e] at h1;cases h1
   rw[(b.facts 0).2.1] at h2;cases h2
 less c _ hn hc:=hn (frz_own h hc)
 gen id:=by
  rcases frz_at h id with ⟨e,_⟩|⟨_,p,q,a,b,e⟩<;>rw[e]<;>exact Nat.le_refl _
 ref id he hs:=by
  rcases frz_at h id with ⟨e,_⟩|⟨_,p,q,a,b,e⟩
  ·rw[e] at hs ⊢;exact⟨hs,rfl,rfl,rfl⟩
  ·rw[e] at hs ⊢;refine⟨by rw[a];rfl,rfl,rfl,?_⟩;have h1:m.blk id=((m.blk id).1,some p):=by rw[← a]
   rw[(b.facts (m.blk id).1).2.2,← h1]
theorem frz_ok{m:Mem}(hok:Ok w0 m){ids:List Nat}{u:List Upd}(h:frz m.blk ids=some u):Ok w0 (m.with u) where
 os:=hok.os
 tape:=hok.tape
 output:=hok.output
 size:=hok.size
 base:=hok.base
 obj id o ho:=by
  have hev:=frz_ev h;have hsp:=frz_spares hok h;rcases frz_at h id with ⟨e,_⟩|⟨hid,p,q,a,b,e⟩
  ·rw[e] at ho;exact(hok.obj id o ho).ev hev.zero rfl rfl rfl
  ·rw[e] at ho;cases ho
   have hno:=hsp.2 id hid;have hsub: ∀ r:List Nat,(∀ i∈r,i∈ids)→Spares m (m.with u).own r:=fun r hr=>⟨hsp.1,fun i hi=>hsp.2 i (hr i hi)⟩
   have horig:=hok.obj id p a;cases p<;>cases o<;>simp only[Fixes] at b<;>first
    |exact b.elim
    |skip
   ·obtain⟨r,hc,hr⟩:=b;obtain⟨cur,ty,hh,hcs⟩:=horig;exact⟨cur,ty,(0,0),hh,PsRel.pw.2 (collect_rel (R:=CRel m) (T:=PRel m.w (m.with u).own) (good:=Spares m (m.with u).own) (fun a b h=>h.app) (fun a b r v e1 e2 e3=>snap_rel hok _ e1 e2 e3) hc (hsub r hr) (CsRel.pw.1 hcs)),hno⟩
   ·obtain⟨rfl,rfl,rfl⟩:=b;obtain⟨cur,hh,hs0,hsz,hl,hm,hcs,hps⟩:=horig;exact⟨cur,(0,0),hh,hs0,hsz,hl,hm,hcs,hps.less hsp.1,hno⟩
   ·obtain⟨rfl,rfl,r,hc,hr⟩:=b;obtain⟨cur,hh,hs0,hsz,hl,hm,hcs,hps⟩:=horig;rename_i es _ sz ps;have hpl:ps.length=es.length:=collect_len hc;have hcap:ps.length*sz≤cur.toList.length:=by
     have h2:es.length*sz≤m.κ id*sz:=Nat.mul_le_mul_right _ hl;simp;rw[hpl];omega
    have hpe: ∀ (j:Nat) (e:List PV),ps[j]? =some e→Pw (PRel m.w (m.with u).own) e ((cur.toList.drop (j*sz)).take sz):=by
     intro j e he;obtain⟨x,q',h1,h2,h3⟩:=collect_at hc he;exact collect_rel (R:=CRel m) (T:=PRel m.w (m.with u).own) (good:=Spares m (m.with u).own) (fun a b h=>h.app) (fun a b r v e1 e2 e3=>snap_rel hok _ e1 e2 e3) h2 (hsub q' fun i hi=>hr i (h3 i hi)) (flat_seg hsz (CsRel.pw.1 hps) h1)
    have hpsz: ∀ e∈ps,e.length=sz:=by
     intro e he;obtain⟨j,hj⟩:=List.getElem?_of_mem he;have:=(hpe j e hj).1;have hjl:j<ps.length:=(List.getElem?_eq_some_iff.1 hj).1;have h1:(j+1)*sz≤ps.length*sz:=Nat.mul_le_mul_right _ hjl;rw[Nat.add_mul] at h1;simp at this hcap;omega
    exact⟨cur,(0,0),hh,hs0,hpsz,by rw[hpl];exact hl,hm,hcs,PsRel.pw.2 (pw_flat hpsz hcap hpe),hno⟩
   ·obtain⟨rfl,rfl⟩:=b;obtain⟨ents,clock,hh,hl,hc⟩:=horig;exact⟨ents,clock,hh,hl,fun i q v e h1 h2=>let ⟨p,g,g1,g2,g3⟩:=hc i q v e h1 h2;⟨p.less hsp.1,g,g1,g2,g3.less hsp.1⟩,hno⟩
 above id o ho hm:=by
  rcases frz_at h id with ⟨e,_⟩|⟨_,p,q,a,b,e⟩
  ·rw[e] at ho;exact hok.above id o ho hm
  ·rw[e] at ho;cases ho
   rw[(b.facts 0).2.1] at hm;cases hm
 frlt:=hok.frlt
 inj id id' o o' h1 m1 h2 m2 he:=by
  rcases frz_at h id with ⟨e,_⟩|⟨_,p,q,a,b,e⟩
  ·rcases frz_at h id' with ⟨e',_⟩|⟨_,p',q',a',b',e'⟩
   ·rw[e] at h1;rw[e'] at h2;exact hok.inj id id' o o' h1 m1 h2 m2 he
   ·rw[e'] at h2;cases h2;rw[(b'.facts 0).2.1] at m2;cases m2
  ·rw[e] at h1;cases h1;rw[(b.facts 0).2.1] at m1;cases m1
end Go.Abs
namespace Go.Abs
variable {P:Program} {w0:World}
def Mem.freshW(m:Mem)(w':World)(s c k:Nat)(o:Ob):Mem:=(m.later w' (· =c)).install s c k o
section
variable {m:Mem} {w':World} {s c k:Nat} {o:Ob} (hg:Grew m.w w') (hc1:m.w.heap.size≤c) (hc2:c<w'.heap.size)
theorem freshW_fr(hok:Ok w0 m)(hc1:m.w.heap.size≤c):(m.freshW w' s c k o).fr=m.fr:=by
 funext x;simp only[Mem.freshW,Mem.install,Mem.later];apply propext;constructor
 ·rintro ⟨h|h,h2⟩
  ·exact h
  ·exact(h2 h).elim
 ·intro h;exact⟨.inl h,fun e=>by have:=hok.frlt x h;omega⟩
include hg hc1
theorem freshW_ev:Ev m (m.freshW w' s c k o):=
 install_ev (later_ev hg fun x hx=>by subst hx;exact hc1) (.inr rfl) (.inl hc1)
include hc2
theorem freshW_ok(hok:Ok w0 m)(ho:ORel (m.freshW w' s c k o) s o):Ok w0 (m.freshW w' s c k o):=
 install_ok (later_ok hok hg fun x hx=>by subst hx;exact⟨hc1,hc2⟩) (.inr rfl) (Nat.le_trans hok.size hc1) ho
end
theorem freshW_σ{m:Mem}{w':World}{s c k:Nat}{o:Ob}:(m.freshW w' s c k o).σ s=c:=by simp[Mem.freshW,Mem.install,upd_apply]
theorem freshW_κ{m:Mem}{w':World}{s c k:Nat}{o:Ob}:(m.freshW w' s c k o).κ s=k:=by simp[Mem.freshW,Mem.install,upd_apply]
theorem freshW_blk{m:Mem}{w':World}{s c k:Nat}{o:Ob}:(m.freshW w' s c k o).blk=app [(s,((m.blk s).1+1,some o))] m.blk:=rfl
theorem freshW_w{m:Mem}{w':World}{s c k:Nat}{o:Ob}:(m.freshW w' s c k o).w=w':=rfl
theorem freshW_hsl{m:Mem}{w':World}{s c cap ty sz:Nat}{es:List (List PV)}{n:Nat}(hn:n≤cap)(hm:cap≤maxLen):
  VRel (m.freshW w' s c cap (.arr ty sz es)) (.one (.hsl s ((m.blk s).1+1) sz 0 n)) (.slice (some ⟨c,0,none⟩) n cap):=by
 refine VRel.one.2 (.hsl _ _ ?_ hn hm fun z h1 h2=> ?_)
 ·simp[Mem.freshW,Mem.install,Mem.later,upd_apply]
 ·have:szAt ((m.freshW w' s c cap (.arr ty sz es)).blk s)=some sz:=by simp[Mem.freshW,Mem.install,upd_apply,szAt]
  rw[this] at h2;cases h2
  refine⟨rfl,fun _=> ?_,fun _=>freshW_κ.symm⟩;rw[freshW_σ,Nat.zero_mul]
theorem freshW_hslc{m:Mem}{w':World}{s c cap ty sz:Nat}{es:List (List C)}{n:Nat}(hn:n≤cap)(hm:cap≤maxLen):
  VRel (m.freshW w' s c cap (.carr ty sz es)) (.one (.hsl s ((m.blk s).1+1) sz 0 n)) (.slice (some ⟨c,0,none⟩) n cap):=by
 refine VRel.one.2 (.hsl _ _ ?_ hn hm fun z h1 h2=> ?_)
 ·simp[Mem.freshW,Mem.install,Mem.later,upd_apply]
 ·have:szAt ((m.freshW w' s c cap (.carr ty sz es)).blk s)=some sz:=by simp[Mem.freshW,Mem.install,upd_apply,szAt]
  rw[this] at h2;cases h2
  refine⟨rfl,fun _=> ?_,fun _=>freshW_κ.symm⟩;rw[freshW_σ,Nat.zero_mul]
theorem elemC_run{t e:TypeId}{sz bytes:Nat}{z:List PV}(h:elemC P t=some (e,sz,bytes,z)):
  ∃ i v,P.underlying t=some (.slice e)∧P.info? e=some i∧i.size=sz∧i.bytes=bytes∧(0<sz∧0<bytes)∧i.zero=some v∧v.cells.size=sz∧z.length=sz∧ ∀ w own,PsRel w own z v.cells.toList:=by
 unfold elemC at h;split at h
 ·rename_i e' ht;split at h
  ·rename_i i z' hi hz;split at h
   ·rename_i hpos;cases h
    obtain⟨v,i',h1,h2,h3,h4,h5⟩:=zeroC_run hz;rw[hi] at h1;cases h1
    exact⟨i,v,ht,hi,rfl,rfl,hpos,h2,h3,h4,h5⟩
   ·cases h
  ·cases h
 ·cases h
theorem madeCells_pw{R:PV→Value→Prop}{z:List PV}{v:Array Value}{sz n:Nat}(hz:Pw R z v.toList)(hsz:v.size=sz)(hpos:0<sz):
  Pw R (List.replicate n z).flatten ((madeCells v (n*sz)).toList.take (n*sz)):=by
 have hzl:z.length=sz:=by have:=hz.1;simp at this;omega
 have hall: ∀ e∈List.replicate n z,e.length=sz:=fun e he=>by rw[List.eq_of_mem_replicate he];exact hzl
 have hlen:(madeCells v (n*sz)).toList.length=n*sz:=by simp[size_madeCells]
 rw[List.take_of_length_le (by omega)];refine⟨by rw[hlen,flat_len hall];simp,fun j x u p q=> ?_⟩;have hj:j<n*sz:=by have:=(List.getElem?_eq_some_iff.1 q).1;omega
 have hdiv:j/sz<n:=by rw[Nat.div_lt_iff_lt_mul hpos];exact hj
 have hmod:j%sz<sz:=Nat.mod_lt _ hpos;have he:(List.replicate n z)[j/sz]? =some z:=by simp[hdiv]
 have h1:=flat_at hall he hmod;rw[show j/sz*sz+j%sz=j by rw[Nat.mul_comm];exact Nat.div_add_mod j sz] at h1;rw[h1] at p;have h2:(madeCells v (n*sz)).toList[j]? =some v[j%sz]! :=by
  unfold madeCells;simp[hj,hsz]
 rw[h2] at q;cases q
 refine hz.2 (j%sz) x _ p ?_;have:j%sz<v.size:=by omega
 simp[this]
section
variable {m:Mem} {env:Env} {a:Act} {o:Oper} (hok:Ok w0 m) (hr:ERel m env a.tmps)
include hok hr
theorem sim_mkslice{t e:TypeId}{l c:Operand}{l' c':IArg}{s sz bytes n:Nat}{z:List PV}(ho:o.op= .makeSlice t l c)(he:elemC P t=some (e,sz,bytes,z))(hl:argC l=some l')(hc:argC c=some c')
  (hn:asN (ev env l')=some n) (hm:asN (ev env c')=some n) (hroom:n*bytes≤room):
  OpOk P w0 a.eval o m (.one (.hsl s ((m.blk s).1+1) sz 0 n)) [(s,((m.blk s).1+1,some (.arr e sz (List.replicate n z))))]:=by
 obtain⟨i,v,ht,hi,hs,hb,⟨hpos,hbpos⟩,hz,hvs,hzl,hps⟩:=elemC_run he;obtain⟨k1,h1⟩:=asN_inv hn (argC_rel hl hr);obtain⟨k2,h2⟩:=asN_inv hm (argC_rel hc hr);unfold room at hroom;have hn63:n≤maxLen:=by
  have:n≤n*bytes:=Nat.le_mul_of_pos_right _ hbpos;simp only[maxLen];omega
 have hn63':(n:Int)≤9223372036854775807:=by simp[maxLen] at hn63;omega
 have hbb:(i.bytes:Int)*(n:Int)≤281474976710656:=by
  have:((i.bytes*n:Nat):Int)≤281474976710656:=by rw[hb,Nat.mul_comm];omega
  rwa[Int.natCast_mul] at this
 have hrun:=run_make (P:=P) m.w t e i v ht hi hz k1 k2 n n (by omega) (Int.le_refl _) hbb hn63';simp only[Int.toNat_natCast,hs] at hrun
 let m':=m.freshW (m.w.alloc (.cells (madeCells v.cells (n*sz)) e)) s m.w.heap.size n (.arr e sz (List.replicate n z))
 have hev:Ev m m':=freshW_ev (Grew.alloc _ _) (Nat.le_refl _);have hobj:ORel m' s (.arr e sz (List.replicate n z)):=by
  refine⟨_,by rw[freshW_σ];exact heap_alloc_new m.w _,hpos,fun x hx=> ?_,?_,?_,?_,?_⟩
  ·rw[List.eq_of_mem_replicate hx];exact hzl
  ·rw[freshW_κ];simp
  ·rw[freshW_κ];exact hn63
  ·rw[freshW_κ,size_madeCells]
  ·rw[List.length_replicate];exact PsRel.pw.2 (madeCells_pw (PsRel.pw.1 (hps _ _)) hvs hpos)
 refine⟨_,m', .inl ?_,freshW_ok (Grew.alloc _ _) (Nat.le_refl _) (by simp) hok hobj,hev,freshW_fr hok (Nat.le_refl _),rfl,freshW_hsl (Nat.le_refl _) hn63⟩;simp[execOp,ho,h1,h2,hrun];rfl
theorem bounds_run{lo hi:Option Operand}{lo' hi':Option IArg}{n cap l h:Nat}{b:Bool}(hlo:argO lo=some lo')(hhi:argO hi=some hi')(hl:boundOf env 0 lo'=some l)(hh:boundOf env n hi'=some h)
  (hlh:l≤h) (hcap:h≤cap):(Instr.sliceBounds b n cap (lo.map a.eval) (hi.map a.eval) none).run P m.w= .ok (l,h,cap) m.w:=by
 have _u0:=hok;have hhv:(match hi.map a.eval with|some v=> ∃ k,v=Value.int k (h:Int)|none=>h=n):=by
  cases hi with
  |none=>simp[argO] at hhi;subst hhi;simp[boundOf] at hh;simpa using hh.symm
  |some x=>
   simp only[argO,Option.map_eq_some_iff] at hhi;obtain⟨y,hy,rfl⟩:=hhi;exact asN_inv hh (argC_rel hy hr)
 have hlv:(match lo.map a.eval with|some v=> ∃ k,v=Value.int k (l:Int)|none=>l=0):=by
  cases lo with
  |none=>simp[argO] at hlo;subst hlo;simp[boundOf] at hl;simpa using hl.symm
  |some x=>
   simp only[argO,Option.map_eq_some_iff] at hlo;obtain⟨y,hy,rfl⟩:=hlo;exact asN_inv hl (argC_rel hy hr)
 generalize lo.map a.eval=LO at hlv;generalize hi.map a.eval=HI at hhv;have hc1:(h:Int)≤(cap:Int):=by omega
 have hc2:(l:Int)≤(h:Int):=by omega
 cases LO with
 |none=>
  simp only at hlv;subst hlv;cases HI with
  |none=>simp only at hhv;subst hhv;simp[Instr.sliceBounds]
  |some v=>obtain⟨k,rfl⟩:=hhv;simp[Instr.sliceBounds,Instr.sliceBound,asIntOf,hcap]
 |some u=>
  obtain⟨k,rfl⟩:=hlv;cases HI with
  |none=>simp only at hhv;subst hhv;simp[Instr.sliceBounds,Instr.sliceBound,asIntOf,hlh]
  |some v=>obtain⟨k',rfl⟩:=hhv;simp[Instr.sliceBounds,Instr.sliceBound,asIntOf,hcap,hlh]
theorem sim_sslice{t:TypeId}{x:Operand}{lo hi:Option Operand}{x':IArg}{lo' hi':Option IArg}{s:ByteArray}{l h:Nat}(ho:o.op= .slice t x lo hi none)(ht:P.underlying t=some .string)
  (hx:argC x=some x') (hlo:argO lo=some lo') (hhi:argO hi=some hi') (hs:ev env x'= .one (.p (.str s))) (hl:boundOf env 0 lo'=some l) (hh:boundOf env s.size hi'=some h) (hlh:l≤h) (hcap:h≤s.size):
  OpOk P w0 a.eval o m (.one (.p (.str (s.extract l h)))) []:=by
 have h1:=argC_rel hx hr;rw[hs] at h1;have hb:=bounds_run (P:=P) (w0:=w0) (hok:=hok) (hr:=hr) (b:=false) hlo hhi hl hh hlh hcap;refine .calm hok ?_ (mk_p (.str _));simp[execOp,ho,inv_str h1,Instr.sliceAt,Instr.slice,run_underlying ht,hb]
theorem sim_slice{t e:TypeId}{x:Operand}{lo hi:Option Operand}{x':IArg}{lo' hi':Option IArg}{sz n l h:Nat}{v:V}(ho:o.op= .slice t x lo hi none)(ht:P.underlying t=some (.slice e))(hsz:sizeC P e=some sz)
  (hx:argC x=some x') (hlo:argO lo=some lo') (hhi:argO hi=some hi') (hn:lenL (ev env x')=some n) (hl:boundOf env 0 lo'=some l) (hh:boundOf env n hi'=some h)
  (hv:planSlice (ev env x') sz l h= .done v [] []):OpOk P w0 a.eval o m v []:=by
 have h1:=argC_rel hx hr;unfold planSlice at hv;split at hv
 ·cases hv
 ·rename_i hlh;have hlh:l≤h:=by simpa using hlh
  have run: ∀ (ad:Option Addr) (cap:Nat),a.eval x= .slice ad n cap→h≤cap→(execOp a.eval o).run P m.w= .ok (.value (.slice (if cap=l then ad else ad.map (·.add (l*sz))) (h - l) (cap - l))) m.w:=by
   intro ad cap hax hcap;have hb:=bounds_run (P:=P) (w0:=w0) (hok:=hok) (hr:=hr) (b:=true) hlo hhi hl hh hlh hcap;simp[execOp,ho,hax,Instr.sliceAt,Instr.slice,run_underlying ht,hb,sizeC_run hsz]
  obtain⟨ad0,cap0,hsl,hncap,hm0⟩:=lenL_rel (hok:=hok) (hr:=hr) hn h1;split at hv
  ·rename_i he;split at hv
   ·rename_i h0;cases hv
    rw[he] at h1;have:=inv_nils h1;subst h0;have hl0:l=0:=by omega
    subst hl0;rw[this] at hsl;cases hsl
    refine .calm hok (run none 0 this (Nat.le_refl _)) ?_;simp;exact mk_p .nils
   ·cases hv
  ·rename_i es he;split at hv
   ·rename_i hc;cases hv
    rw[he] at h1 hn;simp[lenL] at hn;subst hn;obtain⟨hp⟩:CRel m _ (a.eval x):=h1;generalize hb:a.eval x=b at hp;generalize hpv:(PV.sl es)=pv at hp;cases hp<;>cases hpv
    ·rename_i ad cap hnn hm;simp at hc;have hh0:h=0:=by omega
     subst hh0;have hl0:l=0:=by omega
     subst hl0;refine .calm hok (run ad cap hb (Nat.zero_le _)) (mk_p ?_);simp only[List.drop_nil,List.take_nil,Nat.sub_zero];refine .sl0 _ _ (fun h=> ?_) hm;split at h
     ·exact hnn h
     ·cases ad with
      |none=>exact hnn rfl
      |some ad=>simp at h
    ·rename_i b' o' cap sz' f hm ho' hl' hszz hcc hrr;refine .calm hok (run _ cap hb (by omega)) (mk_p ?_);by_cases hlt:l=h
     ·subst hlt;simp only[Nat.sub_self,List.take_zero];refine .sl0 _ _ (fun h=> ?_) (by omega);split at h<;>simp at h
     ·have hlen:((es.drop l).take (h - l)).length=h - l:=by simp;omega
      have hes:es≠[]:=fun e=>by subst e;simp at hc;omega
      have hsz':sz'=sz:=by
       obtain⟨e0,r0,rfl⟩:=List.exists_cons_of_ne_nil hes;have g1:=hszz e0 (by simp);have g2:=hc.2;simp[szOK] at g2;omega
      subst hsz';rw[if_neg (by omega)];simp only[Option.map_some,Addr.add_lit];have hres:=PRel.sl (w:=m.w) (own:=m.own) (es:=(es.drop l).take (h - l)) b' (o'+l*sz') (cap - l) sz' (fun j=>f (l*sz'+j)) (fun hne=>ho' fun e0=>hne ?_) (by omega) (by omega) (fun e he=>hszz e (List.mem_of_mem_drop (List.mem_of_mem_take he))) ?_ ?_
      ·rw[hlen] at hres;exact hres
      ·apply List.eq_nil_of_length_eq_zero;rw[flat_take (fun e he=>hszz e (List.mem_of_mem_drop he)),flat_drop hszz,e0];simp
      ·intro j z hz;rw[flat_take (fun e he=>hszz e (List.mem_of_mem_drop he)),flat_drop hszz,List.getElem?_take] at hz;split at hz
       ·rw[List.getElem?_drop] at hz;rw[Nat.add_assoc];exact hcc _ z hz
       ·cases hz
      ·intro j z hz;rw[flat_take (fun e he=>hszz e (List.mem_of_mem_drop he)),flat_drop hszz,List.getElem?_take] at hz;split at hz
       ·rw[List.getElem?_drop] at hz;exact hrr _ z hz
       ·cases hz
   ·cases hv
  ·rename_i id g z off len he;split at hv
   ·rename_i hc;cases hv
    rw[he] at h1 hn;simp[lenL] at hn;subst hn;have hcr:CRel m _ (a.eval x):=h1;generalize hb:a.eval x=b at hcr;cases hcr with
    |hsl ad cap hg hll hm hh'=>
     refine .calm hok (run _ cap hb (by omega)) ?_;have hsome: ∃ ad',(if cap=l then some ad else (some ad).map (·.add (l*sz)))=some ad'∧(cap≠l→ad'=ad.add (l*sz))∧(l=0→ad'=ad):=by
      by_cases hcl:cap=l
      ·exact⟨ad,by simp[hcl],fun h=>(h hcl).elim,fun _=>rfl⟩
      ·exact⟨ad.add (l*sz),by simp[hcl],fun _=>rfl,fun h=>by subst h;simp[Addr.add]⟩
     obtain⟨ad',e1,e2,e3⟩:=hsome;rw[e1];refine VRel.one.2 (.hsl _ _ hg (by omega) (by omega) fun s g1 g2=> ?_);obtain⟨f1,f2,f3⟩:=hh' s g1 g2;refine⟨f1,fun hor=> ?_,fun h0=> ?_⟩
     ·by_cases hl0:l=0
      ·subst hl0;rw[e3 rfl,Nat.add_zero];refine f2 ?_;rcases hor with h|h
       ·exact .inl (by omega)
       ·exact .inr (by omega)
      ·have:0<h - l:=by rcases hor with h|h<;>omega
       rw[e2 (by omega),f2 (.inr (by omega)),Addr.add_lit,f1,hc.2,Nat.add_mul]
     ·have:off=0∧l=0:=by omega
      rw[this.2,Nat.sub_zero];exact f3 this.1
   ·cases hv
  ·cases hv
end
end Go.Abs
namespace Go.Abs
variable {P:Program} {w0:World}
theorem fold_set(off:Nat): ∀ (vs:List Value) (i:Nat) (cells:Array Value),off+i+vs.length≤cells.size→
  ((vs.zipIdx i).foldl (fun cs (x:Value × Nat)=>cs.setIfInBounds (off+x.2) x.1) cells).toList=splice cells.toList (off+i) vs:=by
 intro vs
 induction vs with
 |nil=>intro i cells _;simp[splice]
 |cons v r ih=>
  intro i cells h;simp only[List.length_cons] at h;simp only[List.zipIdx_cons,List.foldl_cons];rw[ih (i+1) _ (by simp;omega)];unfold splice;rw[Array.toList_setIfInBounds];have hlt:off+i<cells.toList.length:=by simp;omega
  have e1:(cells.toList.set (off+i) v).take (off+(i+1))=cells.toList.take (off+i)++[v]:=by
   rw[show off+(i+1)=(off+i)+1 by omega,List.take_succ_eq_append_getElem (by simpa using hlt),List.take_set,List.set_eq_of_length_le (by simp;omega)];simp
  have e2:(cells.toList.set (off+i) v).drop (off+(i+1)+r.length)=cells.toList.drop (off+(i+1)+r.length):=by
   rw[List.drop_set_of_lt (by omega)]
  rw[e1,e2];simp only[List.length_cons,List.append_assoc,List.singleton_append];congr 3;omega
theorem fill_step{place:Nat→Option (Nat × Nat)}{i off n:Nat}{v:Value}{rest:List (Nat × Value)}{cells:Array Value}(hp:place i=some (off,n))(hv:v.cells.size=n)(hfit:off+n≤cells.size):
  ∃ cells',Instr.fill place cells ((i,v)::rest)=Instr.fill place cells' rest∧cells'.toList=splice cells.toList off v.cells.toList:=by
 refine⟨v.cells.zipIdx.foldl (fun cs (x:Value × Nat)=>cs.setIfInBounds (off+x.2) x.1) cells,?_,?_⟩
 ·simp only[Instr.fill,hp];rw[if_neg (by simp[hv];omega)]
 ·rw[← Array.foldl_toList,Array.toList_zipIdx,fold_set off v.cells.toList 0 cells (by simp;omega)];simp
theorem fill_rel{m:Mem}{env:Env}{a:Act}(hr:ERel m env a.tmps){place:Nat→Option (Nat × Nat)}{zl:Nat}: ∀ {ps:List (Nat × Operand)} {qs:List (Nat × Nat × IArg)} {rs:List (Nat × List C)} {cs:List C} {cells:Array Value},
  partsC place zl ps=some qs→partsV env qs=some rs→CsRel m cs cells.toList→cs.length=zl→
  ∃ cells',Instr.fill place cells (ps.map fun x=>(x.1,a.eval x.2))=some cells'∧CsRel m (fill cs rs) cells'.toList:=by
 intro ps
 induction ps with
 |nil=>
  intro qs rs cs cells h1 h2 hc hl;simp[partsC] at h1;subst h1;simp[partsV] at h2;subst h2;exact⟨cells,by simp[Instr.fill],by simpa [fill] using hc⟩
 |cons p t ih=>
  intro qs rs cs cells h1 h2 hc hl;obtain⟨i,x⟩:=p;simp only[partsC] at h1;split at h1
  ·rename_i off n a' q hpl hx hq;split at h1
   ·rename_i hfit;cases h1
    simp only[partsV] at h2;split at h2
    ·rename_i cs' q' hcv hq';split at h2
     ·rename_i hlen;cases h2
      have hv:=cellsV_rel hcv (argC_rel hx hr);have hsz:(a.eval x).cells.size=n:=by have:=hv.1;simp at this;omega
      have hcl:=hc.1;simp at hcl;obtain⟨cells',e1,e2⟩:=fill_step (rest:=t.map fun x=>(x.1,a.eval x.2)) hpl hsz (by omega:off+n≤cells.size);simp only[List.map_cons,fill];rw[e1];refine ih hq hq' ?_ (by rw[splice_len (by omega)];exact hl);rw[e2];exact CsRel.pw.2 ((CsRel.pw.1 hc).splice (CsRel.pw.1 hv) off)
     ·cases h2
    ·cases h2
   ·cases h1
  ·cases h1
theorem mapM_ok{α β:Type}{f:α→Sem β}{g:α→β}{w:World}: ∀ {l:List α},(∀ x∈l,(f x).run P w= .ok (g x) w)→(l.mapM f).run P w= .ok (l.map g) w:=by
 intro l
 induction l with
 |nil=>intro _;simp
 |cons x r ih=>
  intro h;simp[List.mapM_cons,h x (by simp),ih fun y hy=>h y (by simp[hy])]
theorem elems_rel{m:Mem}{env:Env}{a:Act}(hr:ERel m env a.tmps){place:Nat→Option (Nat × Nat)}{sz:Nat}(hplace: ∀ k,place k=some (k*sz,sz)): ∀ {ps:List (Nat × Operand)} {as:List IArg} {es:List (List C)} {k:Nat} {done:List Value} {cells:Array Value},
  elemsC k ps=some as→elemsV env sz as=some es→done.length=k*sz→cells.toList.take (k*sz)=done→cells.size=(k+as.length)*sz→
  ∃ cells',Instr.fill place cells (ps.map fun x=>(x.1,a.eval x.2))=some cells'∧ ∃ vs,cells'.toList=done++vs∧CsRel m es.flatten vs∧(∀ e∈es,e.length=sz)∧es.length=as.length:=by
 intro ps
 induction ps with
 |nil=>
  intro as es k done cells h1 h2 hd ht hs;simp[elemsC] at h1;subst h1;simp[elemsV] at h2;subst h2;refine⟨cells,by simp[Instr.fill],[],?_,⟨by simp,fun j x u p=>by simp at p⟩,fun e he=>by simp at he,rfl⟩;rw[← ht,List.append_nil,List.take_of_length_le (by simp at hs ⊢;omega)]
 |cons p t ih=>
  intro as es k done cells h1 h2 hd ht hs;obtain⟨i,x⟩:=p;simp only[elemsC] at h1;split at h1
  ·rename_i a' q hx hq;split at h1
   ·rename_i hik;cases h1
    subst hik;simp only[elemsV] at h2;split at h2
    ·rename_i cs' q' hcv hq';split at h2
     ·rename_i hlen;cases h2
      have hv:=cellsV_rel hcv (argC_rel hx hr);have hsz:(a.eval x).cells.size=sz:=by have:=hv.1;simp at this;omega
      simp only[List.length_cons] at hs;have hs2:cells.size=i*sz+sz+q.length*sz:=by rw[hs,Nat.add_mul,Nat.add_mul];omega
      obtain⟨cells',e1,e2⟩:=fill_step (rest:=t.map fun x=>(x.1,a.eval x.2)) (hplace i) hsz (by omega:i*sz+sz≤cells.size);have hc':cells'.toList.length=cells.size:=by rw[e2,splice_len (by simp;omega)];simp
      obtain⟨cells2,f1,vs,f2,f3,f4,f5⟩:=ih (k:=i+1) (done:=done++(a.eval x).cells.toList) (cells:=cells') hq hq' (by simp[hd,hsz,Nat.add_mul]) (by
       rw[e2];unfold splice;rw[ht,List.take_append_of_le_length (by simp[hd,hsz,Nat.add_mul])];rw[List.take_of_length_le (by simp[hd,hsz,Nat.add_mul])]) (by simp at hc';rw[hc',hs2,Nat.add_mul,Nat.add_mul];omega)
      simp only[List.map_cons];rw[e1];refine⟨cells2,f1,(a.eval x).cells.toList++vs,by rw[f2,List.append_assoc],?_,?_,by simp[f5]⟩
      ·simp only[List.flatten_cons];exact CsRel.pw.2 ((CsRel.pw.1 hv).append (CsRel.pw.1 f3))
      ·intro e he;rcases List.mem_cons.1 he with rfl|he
       ·exact hlen
       ·exact f4 e he
     ·cases h2
    ·cases h2
   ·cases h1
  ·cases h1
theorem toPss_rel{m:Mem}: ∀ {es:List (List C)} {qs:List (List PV)} {vs:List Value} {sz:Nat},toPss es=some qs→(∀ e∈es,e.length=sz)→CsRel m es.flatten vs→PsRel m.w m.own qs.flatten vs∧(∀ e∈qs,e.length=sz)∧qs.length=es.length:=by
 intro es
 induction es with
 |nil=>
  intro qs vs sz h _ hc;simp[toPss] at h;subst h;exact⟨⟨hc.1,fun j x u p=>by simp at p⟩,fun e he=>by simp at he,rfl⟩
 |cons e r ih=>
  intro qs vs sz h hsz hc;simp only[toPss] at h;split at h
  ·rename_i v vs' h1 h2;cases h
   simp only[List.flatten_cons] at hc;have hel:=hsz e (by simp);have hc1:=(CsRel.pw.1 hc).take e.length;have hc2:=(CsRel.pw.1 hc).drop e.length;simp only[List.take_left,List.drop_left] at hc1 hc2;have g1:=toPs_rel h1 (CsRel.pw.2 hc1);obtain⟨g2,g3,g4⟩:=ih h2 (fun x hx=>hsz x (by simp[hx])) (CsRel.pw.2 hc2);have hvl:v.length=sz:=by
    have a1:=g1.1;have a2:=hc1.1;omega
   refine⟨?_,?_,by simp[g4]⟩
   ·have:=(PsRel.pw.1 g1).append (PsRel.pw.1 g2);rw[List.take_append_drop] at this;exact PsRel.pw.2 this
   ·intro y hy;rcases List.mem_cons.1 hy with rfl|hy
    ·exact hvl
    ·exact g3 y hy
  ·cases h
section
variable {m:Mem} {env:Env} {a:Act} {o:Oper} (hok:Ok w0 m) (hr:ERel m env a.tmps)
include hok hr
theorem sim_build_struct{t:TypeId}{ps:Array (Nat × Operand)}{fs:Array Field}{z:List PV}{qs:List (Nat × Nat × IArg)}{rs:List (Nat × List C)}(ho:o.op= .build t ps)(ht:P.underlying t=some (.struct fs))(hz:zeroC P t=some z)
  (hall:fs.all (fun f=>(P.info? f.type).isSome)=true) (hp:partsC (fun i=>(fs[i]?).map fun f=>(f.offset,P.cellsOf f.type)) z.length ps.toList=some qs) (hv:partsV env qs=some rs):
  OpOk P w0 a.eval o m (.agg (fill (z.map .p) rs)) []:=by
 obtain⟨v,i,hi,hiv,hs,hl,hps⟩:=zeroC_run hz;obtain⟨cells',h1,h2⟩:=fill_rel hr hp hv (hps m.w m.own).toC (by simp);refine .calm (x:= .agg cells') hok ?_ (VRel.agg.2 ⟨_,rfl,h2⟩);have hplaces:(fs.mapM (fun f=>do pure (f.offset,← sizeOf f.type):Field→Sem (Nat × Nat))).run P m.w= .ok (fs.map fun f=>(f.offset,P.cellsOf f.type)) m.w:=by
  rw[Array.mapM_eq_mapM_toList];have:=mapM_ok (P:=P) (f:=(fun f=>do pure (f.offset,← sizeOf f.type):Field→Sem (Nat × Nat))) (g:=fun f=>(f.offset,P.cellsOf f.type)) (w:=m.w) (l:=fs.toList) (fun f hf=>by
   have:=Array.all_eq_true_iff_forall_mem.1 hall f (by simpa using hf);cases hfi:P.info? f.type with
   |none=>rw[hfi] at this;cases this
   |some i=>simp[sizeOf,typeInfo,hfi,Program.cellsOf])
  rw[Sem.run_map,this];simp only[Result.andThen_ok];congr 1;apply Array.ext';simp
 have hfill:Instr.fill (fun x=>(fs.map fun f=>(f.offset,P.cellsOf f.type))[x]?) v.cells (ps.map fun x=>(x.1,a.eval x.2)).toList=some cells':=by
  simpa using h1
 simp only[execOp,ho,Instr.build,zeroValue,typeInfo,Sem.run_bind,run_program,Result.andThen_ok,hi,hiv,Sem.run_pure,run_underlying ht,hplaces,hfill]
theorem sim_build_array{t e:TypeId}{n:Nat}{ps:Array (Nat × Operand)}{i:TypeInfo}{z:List PV}{qs:List (Nat × Nat × IArg)}{rs:List (Nat × List C)}(ho:o.op= .build t ps)(ht:P.underlying t=some (.array n e))(hz:zeroC P t=some z)
  (hie:P.info? e=some i) (hp:partsC (fun k=>some (k*i.size,i.size)) z.length ps.toList=some qs) (hv:partsV env qs=some rs):
  OpOk P w0 a.eval o m (.agg (fill (z.map .p) rs)) []:=by
 obtain⟨v,i',hi,hiv,hs,hl,hps⟩:=zeroC_run hz;obtain⟨cells',h1,h2⟩:=fill_rel hr hp hv (hps m.w m.own).toC (by simp);refine .calm (x:= .agg cells') hok ?_ (VRel.agg.2 ⟨_,rfl,h2⟩);have hfill:Instr.fill (fun k=>some (k*i.size,i.size)) v.cells (ps.map fun x=>(x.1,a.eval x.2)).toList=some cells':=by simpa using h1
 simp only[execOp,ho,Instr.build,zeroValue,sizeOf,typeInfo,Sem.run_bind,run_program,Result.andThen_ok,hi,hie,hiv,Sem.run_pure,run_underlying ht,hfill]
theorem sim_bslice{t e:TypeId}{n sz bytes s:Nat}{z:List PV}{ps:Array (Nat × Operand)}{as:List IArg}{es:List (List C)}(ho:o.op= .buildSlice t n ps)(he:elemC P t=some (e,sz,bytes,z))(hp:elemsC 0 ps.toList=some as)
  (hn:as.length=n) (hbig:n*sz≤16777216) (hv:elemsV env sz as=some es):
  (∀ qs,toPss es=some qs→OpOk P w0 a.eval o m (.one (.hsl s ((m.blk s).1+1) sz 0 es.length)) [(s,((m.blk s).1+1,some (.arr e sz qs)))])∧
  OpOk P w0 a.eval o m (.one (.hsl s ((m.blk s).1+1) sz 0 es.length)) [(s,((m.blk s).1+1,some (.carr e sz es)))]:=by
 obtain⟨i,v,ht,hi,hs,hb,⟨hpos,_⟩,hiz,hvs,hzl,hps⟩:=elemC_run he;subst hn;obtain⟨cells',f1,vs,f2,f3,f4,f5⟩:=elems_rel (place:=fun k=>some (k*sz,sz)) (done:=[]) (cells:=(Array.range (as.length*sz)).map ((if as.length*sz=0 then #[] else v.cells)[· %(if as.length*sz=0 then #[] else v.cells).size]!)) hr (fun _=>rfl) hp hv (by simp) (by simp) (by simp);have hrun:(execOp a.eval o).run P m.w= .ok (.value (.slice (some ⟨m.w.heap.size,0,none⟩) es.length es.length)) (m.w.alloc (.cells cells' e)):=by
  have hfill:Instr.fill (fun k=>some (k*sz,sz)) ((Array.range (as.length*sz)).map ((if as.length*sz=0 then #[] else v.cells)[· %(if as.length*sz=0 then #[] else v.cells).size]!)) (ps.map fun x=>(x.1,a.eval x.2)).toList=some cells':=by simpa using f1
  have hnb: ¬ (16777216<as.length*sz):=by omega
  have hnb2: ¬ (as.length*sz>2 ^ 24):=by omega
  by_cases h0:as.length*sz=0
  ·simp only[if_pos h0] at hfill;simp only[execOp,ho,Instr.buildSlice,Sem.run_bind,run_underlying ht,Result.andThen_ok,sizeOf,typeInfo,run_program,hi,Sem.run_pure,hs,if_neg hnb2,if_pos h0,hfill,newRow,run_newObj,f5];rfl
  ·simp only[if_neg h0] at hfill;simp only[execOp,ho,Instr.buildSlice,Sem.run_bind,run_underlying ht,Result.andThen_ok,sizeOf,typeInfo,run_program,hi,Sem.run_pure,hs,if_neg hnb2,if_neg h0,zeroValue,hiz,hfill,newRow,run_newObj,f5];rfl
 simp at f2;have hcl:cells'.size=es.length*sz:=by
  have h1:=f3.1;rw[flat_len f4] at h1;have:cells'.toList.length=vs.length:=by rw[f2]
  simp at this;omega
 have hmax:es.length≤maxLen:=by
  have:es.length≤es.length*sz:=Nat.le_mul_of_pos_right _ hpos;simp only[maxLen];rw[f5] at this ⊢;omega
 have htake:cells'.toList.take (es.length*sz)=vs:=by rw[List.take_of_length_le (by simp;omega),f2]
 constructor
 ·intro qs hq;have hev:Ev m (m.freshW (m.w.alloc (.cells cells' e)) s m.w.heap.size es.length (.arr e sz qs)):=freshW_ev (Grew.alloc _ _) (Nat.le_refl _);obtain⟨g1,g2,g3⟩:=toPss_rel hq f4 (f3.ev hev.zero);refine⟨_,m.freshW (m.w.alloc (.cells cells' e)) s m.w.heap.size es.length (.arr e sz qs), .inl hrun,freshW_ok (Grew.alloc _ _) (Nat.le_refl _) (by simp) hok ?_,hev,freshW_fr hok (Nat.le_refl _),rfl,freshW_hsl (Nat.le_refl _) hmax⟩
  exact⟨cells',by rw[freshW_σ];exact heap_alloc_new m.w _,hpos,g2,by rw[freshW_κ,g3];exact Nat.le_refl _,by rw[freshW_κ];exact hmax,by rw[freshW_κ,hcl],by rw[g3,htake];exact g1⟩
 ·have hev:Ev m (m.freshW (m.w.alloc (.cells cells' e)) s m.w.heap.size es.length (.carr e sz es)):=freshW_ev (Grew.alloc _ _) (Nat.le_refl _);refine⟨_,m.freshW (m.w.alloc (.cells cells' e)) s m.w.heap.size es.length (.carr e sz es), .inl hrun,freshW_ok (Grew.alloc _ _) (Nat.le_refl _) (by simp) hok ?_,hev,freshW_fr hok (Nat.le_refl _),rfl,freshW_hslc (Nat.le_refl _) hmax⟩;exact⟨cells',by rw[freshW_σ];exact heap_alloc_new m.w _,hpos,f4,by rw[freshW_κ];exact Nat.le_refl _,by rw[freshW_κ];exact hmax,by rw[freshW_κ,hcl],by rw[htake];exact f3.ev hev.zero⟩
end
end Go.Abs
namespace Go.Abs
variable {P:Program} {w0:World}
theorem app_append(a b:List Upd)(blk:Blk):app (a++b) blk=app b (app a blk):=by
 induction a generalizing blk with
 |nil=>rfl
 |cons x r ih=>obtain⟨i,o⟩:=x;simp only[List.cons_append,app];exact ih _
theorem lessfr_own{m:Mem}{fr':Nat→Prop}(hf: ∀ c,fr' c→m.fr c){c:Nat}(h:({m with fr:=fr'}:Mem).own c):m.own c:=by
 rcases h with h|h
 ·exact .inl (hf c h)
 ·exact .inr h
theorem lessfr_ev{m:Mem}{fr':Nat→Prop}(hf: ∀ c,fr' c→m.fr c):Ev m {m with fr:=fr'}:=
 ⟨rfl,rfl,rfl,Nat.le_refl _,fun _ _ _=>rfl,fun _ _ h=>h,fun _ _ hn h=>hn (lessfr_own hf h),fun _=>Nat.le_refl _,fun _ _ h=>⟨h,rfl,rfl,rfl⟩⟩
theorem lessfr_ok{m:Mem}{fr':Nat→Prop}(h:Ok w0 m)(hf: ∀ c,fr' c→m.fr c):Ok w0 {m with fr:=fr'} where
 os:=h.os
 tape:=h.tape
 output:=h.output
 size:=h.size
 base:=h.base
 obj id o ho:=(h.obj id o ho).ev (lessfr_ev hf).zero rfl rfl rfl
 above id o ho hm:=⟨(h.above id o ho hm).1,fun hc=>(h.above id o ho hm).2 (hf _ hc)⟩
 frlt c hc:=h.frlt c (hf c hc)
 inj:=h.inj
theorem scribble_ok{m:Mem}{w':World}{c:Nat}(h:Ok w0 m)(hc:m.fr c)(hlo:w0.heap.size≤c)(hos:w'.os=m.w.os)(ht:w'.tape=m.w.tape)(hout:w'.output=m.w.output)(hs:w'.heap.size=m.w.heap.size)
  (hk: ∀ x,x≠c→w'.heap[x]? =m.w.heap[x]?):Ok w0 {m with w:=w'} where
 os:=hos.trans h.os
 tape:=ht.trans h.tape
 output:=hout.trans h.output
 size:=Nat.le_trans h.size (Nat.le_of_eq hs.symm)
 base x hx:=(hk x (by omega)).trans (h.base x hx)
 obj id o ho:=by
  have hne:m.σ id≠c:=by
   intro e;cases hm:o.mine with
   |true=>exact(h.above id o ho hm).2 (e▸hc)
   |false=>exact(h.obj id o ho).calm hm (.inl (e▸hc))
  exact(h.obj id o ho).ev (m':={m with w:=w'}) ⟨fun x _ hn=>⟨hk x fun e=>hn (.inl (e▸hc)),hn⟩,fun _=>Nat.le_refl _,fun _ _ h=>⟨h,rfl,rfl,rfl⟩⟩ rfl rfl (hk _ hne)
 above:=h.above
 frlt x hx:=by rw[show({m with w:=w'}:Mem).w.heap.size=m.w.heap.size from hs];exact h.frlt x hx
 inj:=h.inj
theorem elemsOf_rel{m:Mem}(hok:Ok w0 m){own:Nat→Prop}{x:V}{v:Value}{new:List (List PV)}{rd fr:List Nat}(h:elemsOf m.blk x=some (new,rd,fr))(hv:VRel m x v)(hs:Spares m own fr):
  ∃ ax cx,v= .slice ax new.length cx∧(∀ z,szOf x=some z→ ∀ e∈new,e.length=z)∧
   (new≠[]→ ∃ b o news,ax=some ⟨b,o,none⟩∧Pw (PRel m.w own) new.flatten news∧ ∀ (j:Nat) (u:Value),news[j]? =some u→m.w.cell? ⟨b,o+j,none⟩=some u):=by
 have row: ∀ (c off sz len:Nat) (cur:Array Value) (ty:TypeId) (fz:Nat × Nat) (ps:List (List PV)),m.w.heap[c]? =some (.cells cur ty fz)→Pw (PRel m.w own) ps.flatten ((cur.toList.drop (off*sz)).take (ps.length*sz))→
   ∃ b o news,some (⟨c,off*sz,none⟩:Addr)=some ⟨b,o,none⟩∧Pw (PRel m.w own) ps.flatten news∧ ∀ (j:Nat) (u:Value),news[j]? =some u→m.w.cell? ⟨b,o+j,none⟩=some u:=by
  intro c off sz len cur ty fz ps hh hp;refine⟨c,off*sz,_,rfl,hp,fun j u hj=> ?_⟩;rw[List.getElem?_take] at hj;split at hj
  ·rw[cell_row hh];simpa using hj
  ·cases hj
 unfold elemsOf at h;split at h
 ·cases h
  exact⟨none,0,inv_nils hv,fun z hz=>by simp[szOf] at hz,fun h=>(h rfl).elim⟩
 ·rename_i es;cases h
  obtain⟨hp⟩:CRel m _ v:=hv;generalize hpv:(PV.sl new)=pv at hp;cases hp<;>cases hpv
  ·exact⟨_,_,rfl,fun z hz=>by simp[szOf] at hz,fun h=>(h rfl).elim⟩
  ·rename_i b o cap sz f hm ho hl hsz hcc hrr;refine⟨_,_,rfl,fun z hz=>by simp[szOf] at hz,fun _=>⟨b,o,(List.range new.flatten.length).map f,rfl,⟨by simp,fun j y u p q=> ?_⟩,fun j u q=> ?_⟩⟩
   ·have hj:j<new.flatten.length:=(List.getElem?_eq_some_iff.1 p).1;rw[List.getElem?_map,List.getElem?_range hj] at q;simp at q;subst q;exact(hrr j y p).less hs.1
   ·have hj:j<new.flatten.length:=by have:=(List.getElem?_eq_some_iff.1 q).1;simpa using this
    rw[List.getElem?_map,List.getElem?_range hj] at q;simp at q;subst q;exact hcc j _ (List.getElem?_eq_getElem hj)
 ·rename_i id g z off len;have hcr:CRel m _ v:=hv;cases hcr with
  |hsl ad cap hg hl hm hh'=>
   split at h
   ·rename_i g' ty sz es hb;split at h
    ·rename_i hc;cases h
     have hb2:(m.blk id).2=some (.arr ty sz es):=by rw[hb]
     obtain⟨cur,hh,hs0,hsz,hl2,hm2,hcs,hps⟩:=hok.obj id _ hb2;obtain⟨e1,e2,e3⟩:=hh' sz (by rw[hb];exact hc.1) (by rw[hb];rfl);have hlen:((es.drop off).take len).length=len:=by simp;omega
     refine⟨some ad,cap,by rw[hlen],fun z' hz' e he=> ?_,fun hne=> ?_⟩
     ·simp[szOf] at hz';subst hz';rw[← e1];exact hsz e (List.mem_of_mem_drop (List.mem_of_mem_take he))
     ·have:0<len:=by
       cases len with
       |zero=>simp at hne
       |succ n=>omega
      rw[e2 (.inr this)];exact row (m.σ id) off sz len cur ty _ _ hh (seg_pw hsz (PsRel.pw.1 (hps.less hs.1)) hc.2)
    ·cases h
   ·rename_i g' ty sz es hb;split at h
    ·rename_i hc;cases h
     have hb2:(m.blk id).2=some (.farr ty sz es):=by rw[hb]
     obtain⟨cur,fz,hh,hs0,hsz,hl2,hm2,hcs,hps,_⟩:=hok.obj id _ hb2;obtain⟨e1,e2,e3⟩:=hh' sz (by rw[hb];exact hc.1) (by rw[hb];rfl);have hlen:((es.drop off).take len).length=len:=by simp;omega
     refine⟨some ad,cap,by rw[hlen],fun z' hz' e he=> ?_,fun hne=> ?_⟩
     ·simp[szOf] at hz';subst hz';rw[← e1];exact hsz e (List.mem_of_mem_drop (List.mem_of_mem_take he))
     ·have:0<len:=by
       cases len with
       |zero=>simp at hne
       |succ n=>omega
      rw[e2 (.inr this)];exact row (m.σ id) off sz len cur ty _ _ hh (seg_pw hsz (PsRel.pw.1 (hps.less hs.1)) hc.2)
    ·cases h
   ·rename_i g' ty sz es hb;split at h
    ·rename_i hc;split at h
     ·rename_i ps q hq;cases h
      have hb2:(m.blk id).2=some (.carr ty sz es):=by rw[hb]
      obtain⟨cur,hh,hs0,hsz,hl2,hm2,hcs,hps⟩:=hok.obj id _ hb2;obtain⟨e1,e2,e3⟩:=hh' sz (by rw[hb];exact hc.1) (by rw[hb];rfl);have hle:((es.drop off).take len).length=len:=by simp;omega
      have hpl:new.length=len:=by rw[collect_len hq,hle]
      have hseg:=seg_pw hsz (CsRel.pw.1 hps) hc.2;have hsz2: ∀ e∈(es.drop off).take len,e.length=sz:=fun e he=>hsz e (List.mem_of_mem_drop (List.mem_of_mem_take he))
      have hcap:len*sz≤(cur.toList.drop (off*sz)).length:=by
       simp;have h1:off*sz+len*sz≤es.length*sz:=by rw[← Nat.add_mul];exact Nat.mul_le_mul_right _ hc.2
       have h2:es.length*sz≤m.κ id*sz:=Nat.mul_le_mul_right _ hl2;omega
      have hpe: ∀ (j:Nat) (e:List PV),new[j]? =some e→Pw (PRel m.w own) e (((cur.toList.drop (off*sz)).drop (j*sz)).take sz):=by
       intro j e he;obtain⟨x,q',h1,h2,h3⟩:=collect_at hq he;exact collect_rel (R:=CRel m) (T:=PRel m.w own) (good:=Spares m own) (fun a b h=>h.app) (fun a b r v e1 e2 e3=>snap_rel hok _ e1 e2 e3) h2 ⟨hs.1,fun i hi=>hs.2 i (h3 i hi)⟩ (flat_seg hsz2 hseg h1)
      have hpsz: ∀ e∈new,e.length=sz:=by
       intro e he;obtain⟨j,hj⟩:=List.getElem?_of_mem he;have:=(hpe j e hj).1;have hjl:j<len:=by rw[← hpl];exact(List.getElem?_eq_some_iff.1 hj).1
       have h1:(j+1)*sz≤len*sz:=Nat.mul_le_mul_right _ hjl;rw[Nat.add_mul] at h1;simp at this hcap;omega
      refine⟨some ad,cap,by rw[hpl],fun z' hz' e he=> ?_,fun hne=> ?_⟩
      ·simp[szOf] at hz';subst hz';rw[← e1];exact hpsz e he
      ·have:0<len:=by
        rw[← hpl];exact List.length_pos_iff.2 hne
       rw[e2 (.inr this)];refine row (m.σ id) off sz len cur ty _ _ hh ?_;rw[hpl];have:=pw_flat hpsz (by rw[hpl];exact hcap) hpe;rw[hpl] at this;exact this
     ·cases h
    ·cases h
   ·split at h
    ·rename_i hl0;cases h
     exact⟨some ad,cap,by rw[hl0];rfl,fun z' _ e he=>by simp at he,fun h=>(h rfl).elim⟩
    ·cases h
 ·cases h
end Go.Abs
namespace Go.Abs
variable {P:Program} {w0:World}
theorem pw_one{w:World}{own:Nat→Prop}{xs:List PV}{vs:List Value}(h:Pw (PRel w own) xs vs): ∀ u∈vs,u.oneCell'=true:=by
 intro v hv;obtain⟨j,hj⟩:=List.getElem?_of_mem hv;have hlt:j<xs.length:=by rw[← h.1];exact(List.getElem?_eq_some_iff.1 hj).1
 exact(h.2 j _ v (List.getElem?_eq_getElem hlt) hj).oneCell
theorem frz_gen{m:Mem}{ids:List Nat}{u:List Upd}(h:frz m.blk ids=some u)(id:Nat):(app u m.blk id).1=(m.blk id).1:=by
 rcases frz_at h id with ⟨e,_⟩|⟨_,p,q,a,b,e⟩
 ·exact congrArg Prod.fst e
 ·have:=congrArg Prod.fst e;exact this
theorem dropB_scribble_ev{m:Mem}{id:Nat}{o:Ob}{w':World}(ho:(m.blk id).2=some o)(hm:o.mine=true)(hos:w'.os=m.w.os)(ht:w'.tape=m.w.tape)(hout:w'.output=m.w.output)(hs:w'.heap.size=m.w.heap.size)
  (hk: ∀ x,x≠m.σ id→w'.heap[x]? =m.w.heap[x]?):Ev m {m.dropB id with w:=w'} where
 os:=hos
 tape:=ht
 output:=hout
 size:=Nat.le_of_eq hs.symm
 keep c _ hn:=hk c fun e=>hn ⟨id,o,ho,hm,e.symm⟩
 mine:=(dropB_ev ho hm).mine
 less:=(dropB_ev ho hm).less
 gen:=(dropB_ev ho hm).gen
 ref:=(dropB_ev ho hm).ref
theorem regrow{m:Mem}(hok:Ok w0 m){id s:Nat}{ob:Ob}{w':World}{cur':Array Value}{ty sz:Nat}{es':List (List PV)}(ho:(m.blk id).2=some ob)(hm:ob.mine=true)(hpos:0<sz)(hos:w'.os=m.w.os)(ht:w'.tape=m.w.tape)(hout:w'.output=m.w.output)(hs:w'.heap.size=m.w.heap.size)
  (hk: ∀ x,x≠m.σ id→w'.heap[x]? =m.w.heap[x]?) (hh:w'.heap[m.σ id]? =some (.cells cur' ty (0,0))) (hsz: ∀ e∈es',e.length=sz) (hl:es'.length≤m.κ id) (hmx:m.κ id≤maxLen) (hcs:cur'.size=m.κ id*sz)
  (hp:Pw (PRel m.w m.own) es'.flatten (cur'.toList.take (es'.length*sz))):
  ∃ m',m'.w=w'∧Ok w0 m'∧Ev m m'∧m'.fr=m.fr∧m'.blk=upd (upd m.blk id ((m.blk id).1,none)) s ((m.blk s).1+1,some (.arr ty sz es'))∧
   VRel m' (.one (.hsl s ((m.blk s).1+1) sz 0 es'.length)) (.slice (some ⟨m.σ id,0,none⟩) es'.length (m.κ id)):=by
 have hev2:=dropB_scribble_ev ho hm hos ht hout hs hk;have hlo:=(hok.above id ob ho hm).1;have hok3:Ok w0 {m.dropB id with w:=w'}:=scribble_ok (m:=m.dropB id) (dropB_ok hok ho hm) (.inr rfl) hlo hos ht hout hs hk;have hev:Ev m ((({m.dropB id with w:=w'}:Mem)).install s (m.σ id) (m.κ id) (.arr ty sz es')):=install_ev hev2 (.inr rfl) (.inr ⟨id,ob,ho,hm,rfl⟩);have hgs:((({m.dropB id with w:=w'}:Mem)).blk s).1=(m.blk s).1:=by
  simp only[Mem.dropB,upd_apply];split
  ·rename_i e;subst e;rfl
  ·rfl
 have hσ:((({m.dropB id with w:=w'}:Mem)).install s (m.σ id) (m.κ id) (.arr ty sz es')).σ s=m.σ id:=by simp[Mem.install,upd_apply]
 have hκ:((({m.dropB id with w:=w'}:Mem)).install s (m.σ id) (m.κ id) (.arr ty sz es')).κ s=m.κ id:=by simp[Mem.install,upd_apply]
 refine⟨_,rfl,install_ok hok3 (.inr rfl) hlo ?_,hev,?_,?_,?_⟩
 ·exact⟨cur',by rw[hσ];exact hh,hpos,hsz,by rw[hκ];exact hl,by rw[hκ];exact hmx,by rw[hκ];exact hcs,PsRel.ev hev.zero (PsRel.pw.2 hp)⟩
 ·funext x;simp only[Mem.install,Mem.dropB];apply propext;constructor
  ·rintro ⟨h|h,h2⟩
   ·exact h
   ·exact(h2 h).elim
  ·intro h;exact⟨.inl h,fun e=>(hok.above id ob ho hm).2 (e▸h)⟩
 ·simp only[Mem.install];rw[hgs];rfl
 ·refine VRel.one.2 (.hsl _ _ ?_ hl hmx fun z h1 h2=> ?_)
  ·simp only[Mem.install,upd_apply,if_true];rw[hgs];exact Nat.le_refl _
  ·have:szAt (((({m.dropB id with w:=w'}:Mem)).install s (m.σ id) (m.κ id) (.arr ty sz es')).blk s)=some sz:=by simp[Mem.install,upd_apply,szAt]
   rw[this] at h2;cases h2
   exact⟨rfl,fun _=>by rw[hσ,Nat.zero_mul],fun _=>hκ.symm⟩
section
variable {m:Mem} {env:Env} {a:Act} {o:Oper} (hok:Ok w0 m) (hr:ERel m env a.tmps)
include hok hr
theorem sim_append{c:Call}{d x:Operand}{d' x':IArg}{t e:TypeId}{s sz bytes:Nat}{z:List PV}{v:V}{u:List Upd}{rd:List Nat}(ho:o.op= .call c)(hc:c.callee= .builtin .append)(has:c.args= #[d,x])(hat:c.argTypes= #[t,t])
  (he:elemC P t=some (e,sz,bytes,z)) (hd:argC d=some d') (hx:argC x=some x') (hv:planAppend m.blk s e sz bytes (ev env d') (ev env x')= .done v u rd):OpOk P w0 a.eval o m v u:=by
 obtain⟨i,zv,ht,hi,hs,hb,⟨hpos,hbpos⟩,hiz,hzs,hzl,hps⟩:=elemC_run he;have hrd:=argC_rel hd hr;have hrx:=argC_rel hx hr;have run: ∀ (y:Value) (w':World),(Builtin.append_ #[t,t] o.type #[a.eval d,a.eval x]).run P m.w= .ok y w'→(execOp a.eval o).run P m.w= .ok (.value y) w':=by
  intro y w' h;simp[execOp,ho,resolve,hc,has,hat,invoke,builtin,h]
 unfold planAppend at hv;split at hv
 ·cases hv
 ·rename_i new rd' fr hel;split at hv
  ·cases hv
  ·rename_i hszc;split at hv
   ·cases hv
   ·rename_i fu hfu;have hok1:=frz_ok hok hfu;have hev1:=frz_ev hfu;have hsp:=frz_spares hok hfu;obtain⟨ax,cx,hxv,hsz1,hnews⟩:=elemsOf_rel hok hel hrx hsp;have hall: ∀ e∈new,e.length=sz:=by
     have:szOf (ev env x')=some sz∨szOK sz new=true:=Classical.not_not.1 hszc;rcases this with h|h
     ·exact hsz1 sz h
     ·intro e he;have:=List.all_eq_true.1 h e he
      simpa using this
    have hflat:new.flatten.length=new.length*sz:=flat_len hall;split at hv
    · -- nil
     rename_i hds;rw[hds] at hrd;have hdv:=inv_nils hrd;split at hv
     ·rename_i hn0;cases hv
      refine⟨.slice none 0 0,m.with u, .inl (run _ _ ?_),hok1,hev1,rfl,rfl,mk_p .nils⟩;rw[hdv,hxv,hn0];cases ax<;>simp[Builtin.append_,run_underlying ht,sizeOf,typeInfo,hi,Builtin.lenOf,Builtin.firstCells,loadCells,loadCellsFrom,Mem.with]
     ·rename_i hn0;split at hv
      ·rename_i hroom;cases hv
       have hne:new≠[]:=fun h=>hn0 (by simp[h])
       obtain⟨b,off,news,rfl,hpw,hcell⟩:=hnews hne;unfold room at hroom;have hnl:news.length=new.length*i.size:=by rw[hpw.1,hflat,hs]
       have hmaxn:new.length≤maxLen∧(new.length:Int)≤9223372036854775807:=by
        have:new.length≤new.length*bytes:=Nat.le_mul_of_pos_right _ hbpos;simp only[maxLen];omega
       have hrun:=run_append_nil (P:=P) m.w t o.type e i zv ht hi hiz ⟨b,off,none⟩ new.length cx news hnl (fun j v hj=>by rw[Addr.add_lit];exact hcell j v hj) (by omega) hmaxn.2 (by rw[hb];omega);generalize hW:m.w.drew.alloc (.cells (news.toArray++Builtin.zeroCells zv.cells (grownCap m.w new.length 0 e - new.length)) e)=W at hrun;have hg:Grew (m.with fu).w W:=by rw[← hW];exact(Grew.drew _).trans (Grew.alloc _ _)
       have hcap:=grownCap_ge m.w new.length 0 e;have hcapm:=grownCap_le_maxLen m.w new.length 0 e hmaxn.1;have hev2:Ev (m.with fu) ((m.with fu).freshW W s m.w.heap.size (grownCap m.w new.length 0 e) (.arr e sz new)):=freshW_ev hg (Nat.le_refl _);have hgs:=frz_gen hfu s;refine⟨_,(m.with fu).freshW W s m.w.heap.size (grownCap m.w new.length 0 e) (.arr e sz new), .inl (run _ _ (by rw[hdv,hxv];exact hrun)),freshW_ok hg (Nat.le_refl _) (by rw[← hW];simp) hok1 ?_,hev1.trans hev2,freshW_fr hok1 (Nat.le_refl _),?_,?_⟩
       ·refine⟨_,by rw[freshW_σ,freshW_w,← hW];exact heap_alloc_new m.w.drew _,hpos,hall,by rw[freshW_κ];exact hcap,by rw[freshW_κ];exact hcapm,?_,?_⟩
        ·rw[freshW_κ];simp only[Array.size_append,List.size_toArray,size_zeroCells,hzs,hnl,hs,← Nat.add_mul];congr 1;omega
        ·have:(news.toArray++Builtin.zeroCells zv.cells (grownCap m.w new.length 0 e - new.length)).toList.take (new.length*sz)=news:=by
          simp only[Array.toList_append];rw[← hs,← hnl];exact List.take_left
         rw[this];exact PsRel.ev hev2.zero (PsRel.pw.2 hpw)
       ·rw[app_append,freshW_blk];simp only[Mem.with];rw[hgs]
       ·have:=freshW_hsl (m:=m.with fu) (w':=W) (s:=s) (c:=m.w.heap.size) (ty:=e) (sz:=sz) (es:=new) hcap hcapm;simp only[Mem.with] at this;rw[hgs] at this;exact this
      ·cases hv
    ·rename_i id g zz len hds;rw[hds] at hrd;split at hv
     ·rename_i g' ty' sz' es hbk;split at hv
      ·rename_i hcnd;obtain⟨hgg,rfl,rfl,hlen,hroom,hnfr⟩:=hcnd;cases hv
       have hnid:id∉fr:=by simpa using hnfr
       have hb1:(m.with fu).blk id=m.blk id:=by
        rcases frz_at hfu id with ⟨e,_⟩|⟨hin,_⟩
        ·exact e
        ·exact(hnid hin).elim
       have hb2:((m.with fu).blk id).2=some (.arr ty' sz' es):=by rw[hb1,hbk]
       obtain⟨cur,hh,_,hsz,hl,hmx,hcs,hps1⟩:=hok1.obj id _ hb2;have hcd:CRel m _ (a.eval d):=hrd;generalize hdv:a.eval d=dv at hcd;cases hcd with
       |hsl ad cap hg hll hmm hhd=>
        obtain⟨f1,f2,f3⟩:=hhd sz' (by rw[hbk];exact hgg) (by rw[hbk];rfl);have hcap:=f3 rfl;have had:=f2 (.inl rfl);rw[Nat.zero_mul] at had;subst had;unfold room at hroom;have hgs:=frz_gen hfu s;have hgid:=frz_gen hfu id;have hlen2:len*sz'≤es.length*sz':=Nat.mul_le_mul_right _ hlen;have hl2:es.length*sz'≤m.κ id*sz':=Nat.mul_le_mul_right _ hl;have holdpw:Pw (PRel (m.with fu).w (m.with fu).own) (es.take len).flatten (cur.toList.take (len*sz')):=by
         rw[flat_take hsz];have h1:=(PsRel.pw.1 hps1).take (len*sz');rw[List.take_take,Nat.min_eq_left hlen2] at h1;exact h1
        have htl:(es.take len).length=len:=by simp;omega
        have hall2: ∀ x∈es.take len++new,x.length=sz':=by
         intro x hx;rcases List.mem_append.1 hx with hx|hx
         ·exact hsz x (List.mem_of_mem_take hx)
         ·exact hall x hx
        have hnl0:len+new.length≤(len+new.length)*bytes:=Nat.le_mul_of_pos_right _ hbpos;have hup: ∀ q:Upd,app (fu++[(id,(g,none)),q]) m.blk=upd (upd (m.with fu).blk id (((m.with fu).blk id).1,none)) q.1 q.2:=by
         intro q;rw[app_append];simp only[app];rw[hb1,hbk,hgg];rfl
        have hlenapp:(es.take len++new).length=len+new.length:=by rw[List.length_append,htl]
        by_cases hfit:len+new.length≤cap
        · -- in its own block
         have key: ∀ (w':World) (cur':Array Value),(execOp a.eval o).run P m.w= .ok (.value (.slice (some ⟨m.σ id,0,none⟩) (len+new.length) cap)) w'→w'.os=m.w.os→w'.tape=m.w.tape→w'.output=m.w.output→w'.heap.size=m.w.heap.size→
           (∀ x,x≠m.σ id→w'.heap[x]? =m.w.heap[x]?)→w'.heap[m.σ id]? =some (.cells cur' ty' (0,0))→cur'.size=cur.size→Pw (PRel (m.with fu).w (m.with fu).own) (es.take len++new).flatten (cur'.toList.take ((len+new.length)*sz'))→
           OpOk P w0 a.eval o m (.one (.hsl s ((m.blk s).1+1) sz' 0 (len+new.length))) (fu++[(id,(g,none)),(s,((m.blk s).1+1,some (.arr ty' sz' (es.take len++new))))]):=by
          intro w' cur' hrun q1 q2 q3 q4 q5 q6 q7 q8;obtain⟨m',e1,e2,e3,e4,e5,e6⟩:=regrow (s:=s) hok1 hb2 rfl hpos q1 q2 q3 q4 q5 q6 hall2 (by rw[hlenapp];rw[hcap] at hfit;exact hfit) hmx (by rw[q7];exact hcs) (by rw[hlenapp];exact q8);rw[hlenapp] at e6;have hgs':((m.with fu).blk s).1=(m.blk s).1:=hgs;rw[hgs'] at e6 e5;refine⟨_,m', .inl (by rw[e1];exact hrun),e2,hev1.trans e3,e4,by rw[e5,hup],?_⟩;rw[hcap];exact e6
         by_cases hn0:new=[]
         ·subst hn0;have hrun0:(execOp a.eval o).run P m.w= .ok (.value (.slice (some ⟨m.σ id,0,none⟩) (len+([]:List (List PV)).length) cap)) m.w:=by
           apply run;rw[hdv,hxv];have hll2:len≤cap:=hll;cases ax<;>simp[Builtin.append_,run_underlying ht,sizeOf,typeInfo,hi,Builtin.lenOf,Builtin.firstCells,loadCells,loadCellsFrom,hll2,storeCells]
          exact key m.w cur hrun0 rfl rfl rfl rfl (fun _ _=>rfl) hh rfl (by simpa using holdpw)
         ·obtain⟨b,off,news,rfl,hpw,hcell⟩:=hnews hn0;have hnl:news.length=new.length*i.size:=by rw[hpw.1,hflat,hs]
          have hfit2:len*i.size+news.length≤cur.size:=by
           rw[hnl,hs,hcs,← Nat.add_mul];rw[hcap] at hfit;exact Nat.mul_le_mul_right _ hfit
          have hrun:=run_append_room (P:=P) m.w t o.type ty' i ht hi (m.σ id) len cap cur hh ⟨b,off,none⟩ new.length cx news hnl (fun j v hj=>by rw[Addr.add_lit];exact hcell j v hj) (pw_one hpw) hfit hfit2;have hrun1:(execOp a.eval o).run P m.w= .ok (.value (.slice (some ⟨m.σ id,0,none⟩) (len+new.length) cap)) _:=run _ _ (by rw[hdv,hxv];exact hrun);have hcsz:len*i.size≤cur.size:=Nat.le_trans (Nat.le_add_right _ _) hfit2;refine key _ _ hrun1 ?_ ?_ ?_ ?_ (fun x hx=>setRow_other m.w (m.σ id) x _ hx) (setRow_at hh) ?_ ?_
          ·rfl
          ·rfl
          ·rfl
          ·exact setRow_size m.w _ _
          ·rw[List.size_toArray,List.length_append,List.length_append,List.length_take,List.length_drop,Array.length_toList];omega
          have h1:=holdpw.append hpw;rw[← List.flatten_append] at h1;have:(cur.toList.take (len*i.size)++news++cur.toList.drop (len*i.size+news.length)).take ((len+new.length)*sz')=cur.toList.take (len*sz')++news:=by
           rw[hs];have hcl:(cur.toList.take (len*sz')).length=len*sz':=by rw[List.length_take,Array.length_toList];rw[hs] at hcsz;omega
           have hcl2:(cur.toList.take (len*sz')++news).length=(len+new.length)*sz':=by rw[List.length_append,hcl,hnl,hs,Nat.add_mul]
           rw[List.take_append_of_le_length (Nat.le_of_eq hcl2.symm)];exact List.take_of_length_le (Nat.le_of_eq hcl2)
          simp only[List.toList_toArray] at this ⊢;rw[this];exact h1
        · -- a new block
         have hn0:new≠[]:=fun e=>by subst e;simp at hfit;omega
         obtain⟨b,off,news,rfl,hpw,hcell⟩:=hnews hn0;have hnl:news.length=new.length*i.size:=by rw[hpw.1,hflat,hs]
         have holl:(cur.toList.take (len*sz')).length=len*i.size:=by rw[hs,List.length_take,Array.length_toList];have hcs2:cur.size=m.κ id*sz':=hcs;omega
         have hrun:=run_append_grow (P:=P) m.w t o.type ty' i zv ht hi hiz ⟨m.σ id,0,none⟩ len cap (cur.toList.take (len*sz')) holl (fun j v hj=>by
           rw[Addr.add_lit,Nat.zero_add];have:(m.w.cell? ⟨m.σ id,j,none⟩)=cur[j]? :=cell_row hh;rw[this];rw[List.getElem?_take] at hj;split at hj
           ·simpa using hj
           ·cases hj) ⟨b,off,none⟩ new.length cx news hnl (fun j v hj=>by rw[Addr.add_lit];exact hcell j v hj) (by omega) (by omega) (growslice_fits (by omega) (by rw[hb];omega))
         have hmaxn:len+new.length≤maxLen:=by simp only[maxLen];omega
         have hgc:=grownCap_ge m.w (len+new.length) cap ty';have hgm:=grownCap_le_maxLen m.w (len+new.length) cap ty' hmaxn;generalize hcc:grownCap m.w (len+new.length) cap ty'=cc at hrun hgc hgm;generalize hW:m.w.drew.alloc (.cells ((cur.toList.take (len*sz')).toArray++news.toArray++Builtin.zeroCells zv.cells (cc - (len+new.length))) ty')=W at hrun;have hokd:=lessfr_ok (fr':=m.fr) (dropB_ok hok1 hb2 rfl) (fun c hc=> .inl hc);have hevd:Ev (m.with fu) {(m.with fu).dropB id with fr:=m.fr}:=(dropB_ev hb2 rfl).trans (lessfr_ev (fun c hc=> .inl hc))
         have hg2:Grew ({(m.with fu).dropB id with fr:=m.fr}:Mem).w W:=by rw[← hW];exact(Grew.drew _).trans (Grew.alloc _ _)
         have hev2:Ev ({(m.with fu).dropB id with fr:=m.fr}:Mem) (({(m.with fu).dropB id with fr:=m.fr}:Mem).freshW W s m.w.heap.size cc (.arr ty' sz' (es.take len++new))):=freshW_ev hg2 (Nat.le_refl _);have hevt:=hevd.trans hev2;have hgs':((({(m.with fu).dropB id with fr:=m.fr}:Mem)).blk s).1=(m.blk s).1:=by
          simp only[Mem.dropB,upd_apply];split
          ·rename_i e';subst e';exact hgs
          ·exact hgs
         refine⟨_,({(m.with fu).dropB id with fr:=m.fr}:Mem).freshW W s m.w.heap.size cc (.arr ty' sz' (es.take len++new)), .inl (run _ _ (by rw[hdv,hxv];exact hrun)),freshW_ok hg2 (Nat.le_refl _) (by rw[← hW];simp) hokd ?_,hev1.trans hevt,freshW_fr hokd (Nat.le_refl _),?_,?_⟩
         ·refine⟨_,by rw[freshW_σ,freshW_w,← hW];exact heap_alloc_new m.w.drew _,hpos,hall2,by rw[freshW_κ,hlenapp];exact hgc,by rw[freshW_κ];exact hgm,?_,?_⟩
          ·rw[freshW_κ];simp only[Array.size_append,List.size_toArray,size_zeroCells,hzs,hnl,holl,hs,← Nat.add_mul];congr 1;omega
          ·have h1:=holdpw.append hpw;rw[← List.flatten_append] at h1;have:((cur.toList.take (len*sz')).toArray++news.toArray++Builtin.zeroCells zv.cells (cc - (len+new.length))).toList.take ((es.take len++new).length*sz')=cur.toList.take (len*sz')++news:=by
            simp only[Array.toList_append,hlenapp];exact List.take_left' (by rw[List.length_append,List.toList_toArray,List.toList_toArray,holl,hnl,hs,Nat.add_mul])
           rw[this];exact PsRel.ev hevt.zero (PsRel.pw.2 h1)
         ·rw[freshW_blk,hup];simp only[app];rw[hgs'];rfl
         ·have:=freshW_hsl (m:=({(m.with fu).dropB id with fr:=m.fr}:Mem)) (w':=W) (s:=s) (c:=m.w.heap.size) (ty:=ty') (sz:=sz') (es:=es.take len++new) hgc hgm;rw[hgs'] at this;exact this
      ·cases hv
     ·cases hv
    ·cases hv
end
end Go.Abs
