/-
  Walks around faces.
-/
import Derived.Test.YtniibcmpbldbcaaGreatDoorRa
set_option linter.all false
set_option maxHeartbeats 16000000
namespace Go.Abs
section
variable{N n n2 v x y:Nat}
inductive aW (R:Nat->Nat->Prop):Nat->Nat->Prop
 |rel {a b:Nat}:R a b->aW R a b
 |refl (a:Nat):aW R a a
 |symm {a b:Nat}:aW R a b->aW R b a
 |trans {a b c:Nat}:aW R a b->aW R b c->aW R a c
theorem aW.mono{R R':Nat->Nat->Prop}(h:∀a b,R a b->aW R' a b)(e:aW R x y):aW R' x y:=by
 induction e with
 |rel r=>exact h _ _ r
 |refl a=>exact .refl a
 |symm _ ih=>exact .symm ih
 |trans _ _ i1 i2=>exact .trans i1 i2
theorem aW.inv{R:Nat->Nat->Prop}{α:Type}{f:Nat->α}(h:∀a b,R a b->f a=f b)(e:aW R x y):f x=f y:=by
 induction e with
 |rel r=>exact h _ _ r
 |refl a=>rfl
 |symm _ ih=>exact ih.symm
 |trans _ _ i1 i2=>exact i1.trans i2
def ld (E:Nat->Nat->Prop)(x:Nat):Prop:=∀y,E x y->x<=y
noncomputable def AR (E:Nat->Nat->Prop) (x:Nat):Bool:= @decide (ld E x) (Classical.propDecidable _)
theorem Jm{E:Nat->Nat->Prop}:AR E x=true↔ld E x:=by unfold AR;exact @decide_eq_true_iff _ (Classical.propDecidable _)
noncomputable def K (E:Nat->Nat->Prop) (n:Nat):Nat:=(List.range n).countP (AR E)
theorem Hp{E E':Nat->Nat->Prop}(h:∀x y,E x y↔E' x y)(n:Nat):K E n=K E' n:=by have:E=E':=funext fun x=>funext fun y=>propext (h x y);rw[this]
theorem exists_least{p:Nat->Prop}:∀n,p n->∃m,p m/\ ∀k,p k->m<=k:=by
 intro n
 induction n using Nat.strongRecOn with
 |ind n ih=>
  intro h;rcases Classical.em (∃k,k<n/\p k) with ⟨k,hk,hp⟩|dF
  .exact ih k hk hp
  exact⟨n,h,fun k hk=>Nat.le_of_not_lt fun aq=>dF ⟨k,aq,hk⟩⟩
theorem U0(R:Nat->Nat->Prop)(x:Nat):∃m,aW R x m/\ld (aW R) m/\m<=x:=by obtain⟨m,h1,h2⟩:=exists_least (p:=fun y=>aW R x y) x (.refl x);exact⟨m,h1,fun y hy=>h2 y (h1.trans hy),h2 x (.refl x)⟩
theorem ah1{p:Nat->Bool}(hp:p x=true):∀ {l:List Nat},l.Nodup->x∈l->l.countP p=l.countP (fun y=>p y&&y !=x)+1:=by
 intro l
 induction l with
 |nil=>intro _ h;cases h
 |cons a l ih=>
  intro hn hm;obtain⟨h1,h2⟩:=nY.1 hn;rw[uV,uV];by_cases e:a=x
  .subst e;have hc:l.countP p=l.countP (fun y=>p y&&y !=a):=List.countP_congr fun y hy=>by
    have:(y !=a)=true:=by simp;rintro rfl;exact h1 hy
    simp[this]
   simp[hp,hc]
  have hx:x∈l:=by rcases cT.1 hm with h|h;exact absurd h.symm e;exact h
  rw[ih h2 hx];have:(a !=x)=true:=by simp[e]
  simp only[this,Hc];omega
abbrev qI(R:Nat->Nat->Prop)(a b:Nat)(x y:Nat):Prop:=R x y\/(x=a/\y=b)
theorem FN{R:Nat->Nat->Prop}{a b:Nat}:aW (qI R a b) x y↔aW R x y\/(aW R x a/\aW R b y)\/(aW R x b/\aW R a y):=by
 constructor
 .intro h
  induction h with
  |rel r=>
   rcases r with r|⟨rfl,rfl⟩
   .exact .inl (.rel r)
   exact .inr (.inl ⟨.refl _,.refl _⟩)
  |refl a=>exact .inl (.refl a)
  |symm _ ih=>
   rcases ih with h|⟨h1,h2⟩|⟨h1,h2⟩
   .exact .inl h.symm
   .exact .inr (.inr ⟨h2.symm,h1.symm⟩)
   exact .inr (.inl ⟨h2.symm,h1.symm⟩)
  |trans _ _ i1 i2=>
   rcases i1 with h|⟨h1,h2⟩|⟨h1,h2⟩<;>rcases i2 with k|⟨k1,k2⟩|⟨k1,k2⟩
   .exact .inl (h.trans k)
   .exact .inr (.inl ⟨h.trans k1,k2⟩)
   .exact .inr (.inr ⟨h.trans k1,k2⟩)
   .exact .inr (.inl ⟨h1,h2.trans k⟩)
   .exact .inr (.inl ⟨h1,k2⟩)
   .exact .inl (h1.trans k2)
   .exact .inr (.inr ⟨h1,h2.trans k⟩)
   .exact .inl (h1.trans k2)
   exact .inr (.inr ⟨h1,k2⟩)
 have up:∀ {u v},aW R u v->aW (qI R a b) u v:=fun h=>h.mono fun _ _ r=>.rel (.inl r);have ab:aW (qI R a b) a b:=.rel (.inr ⟨rfl,rfl⟩);rintro (h|⟨h1,h2⟩|⟨h1,h2⟩)
 .exact up h
 .exact(up h1).trans (ab.trans (up h2))
 exact(up h1).trans (ab.symm.trans (up h2))
theorem QH{R:Nat->Nat->Prop}{a b:Nat}(h:aW R a b)(n:Nat):K (aW (qI R a b)) n=K (aW R) n:=by
 refine Hp (fun x y=>?_) n;rw[FN];constructor
 .rintro (k|⟨h1,h2⟩|⟨h1,h2⟩)
  .exact k
  .exact h1.trans (h.trans h2)
  exact h1.trans (h.symm.trans h2)
 exact .inl
theorem WD{E E':Nat->Nat->Prop}{m:Nat}(hm:m<n)(h0:ld E m)(h:∀x,ld E' x↔ld E x/\x≠m):K E n=K E' n+1:=by unfold K;rw[ah1 (p:=AR E) (x:=m) (Jm.2 h0) Dl (fk.2 hm)];congr 1;refine List.countP_congr fun x _=>?_;rw[Jm,h,bQ,Jm];simp
theorem QG{R:Nat->Nat->Prop}{a b:Nat}(ha:a<n)(hb:b<n)(h:¬aW R a b):K (aW R) n=K (aW (qI R a b)) n+1:=by
 obtain⟨p,p1,p2,p3⟩:=U0 R a;obtain⟨q,q1,q2,q3⟩:=U0 R b;have hpq:p≠q:=fun e=>h (p1.trans (e▸q1.symm));rcases Nat.lt_or_gt_of_ne hpq with c|c
 .refine WD (m:=q) aa q2 fun x=>⟨fun hx=>⟨fun y hy=>hx y (FN.2 (.inl hy)),?_⟩,fun⟨hx,hxq⟩ y hy=>?_⟩
  .rintro rfl
   have:=hx p (FN.2 (.inr (.inr ⟨q1.symm,p1⟩)));omega
  rcases FN.1 hy with hy|⟨h1,h2⟩|⟨h1,h2⟩
  .exact hx y hy
  .have e1:=hx p (h1.trans p1);have e2:=q2 y (q1.symm.trans h2);omega
  have e1:=hx q (h1.trans q1);have e2:=q2 x (q1.symm.trans h1.symm);omega
 refine WD (m:=p) aa p2 fun x=>⟨fun hx=>⟨fun y hy=>hx y (FN.2 (.inl hy)),?_⟩,fun⟨hx,hxq⟩ y hy=>?_⟩
 .rintro rfl
  have:=hx q (FN.2 (.inr (.inl ⟨p1.symm,q1⟩)));omega
 rcases FN.1 hy with hy|⟨h1,h2⟩|⟨h1,h2⟩
 .exact hx y hy
 .have e1:=hx p (h1.trans p1);have e2:=p2 x (p1.symm.trans h1.symm);omega
 have e1:=hx q (h1.trans q1);have e2:=p2 y (p1.symm.trans h2);omega
theorem NN{R:Nat->Nat->Prop}{α:Type}{f:Nat->α}(h:∀a b,R a b->f a=f b){reps:List Nat}(hr:∀x∈reps,x<n)(hn:(reps.map f).Nodup):reps.length<=K (aW R) n:=by
 have key:∀reps:List Nat,(∀x∈reps,x<n)->(reps.map f).Nodup->∃L:List Nat,L.length=reps.length/\L.Nodup/\(∀m∈L,m<n/\ld (aW R) m)/\ ∀m∈L,f m∈reps.map f:=by
  intro reps
  induction reps with
  |nil=>intro _ _;exact⟨[],rfl,tz,af,af⟩
  |cons a r ih=>
   intro hr hn;rw[dG,nY] at hn;obtain⟨L,l1,l2,l3,l4⟩:=ih (fun x hx=>hr x (by simp[hx])) hn.2;obtain⟨m,m1,m2,m3⟩:=U0 R a;have hfm:f m=f a:=(m1.inv h).symm;have ha:=hr a af;refine⟨m::L,by simp[l1],nY.2 ⟨fun hm=>hn.1 (hfm▸l4 m hm),l2⟩,fun x hx=>?_,fun x hx=>?_⟩
   .rcases cT.1 hx with rfl|hx
    .exact⟨aa,m2⟩
    exact l3 x hx
   rcases cT.1 hx with rfl|hx
   .rw[hfm];simp
   rw[dG];exact vN _ (l4 x hx)
 obtain⟨L,l1,l2,l3,_⟩:=key reps hr hn;rw[<- l1];unfold K;rw[NB];have sub:∀(L M:List Nat),L.Nodup->(∀x∈L,x∈M)->L.length<=M.length:=by
  intro L
  induction L with
  |nil=>intro M _ _;exact aY _
  |cons a L ih=>intro M hn hs;obtain⟨h1,h2⟩:=nY.1 hn;have ha:=hs a af;have:=ih (M.erase a) h2 fun x hx=>(List.mem_erase_of_ne (by rintro rfl;exact h1 hx)).2 (hs x (by simp[hx]));rw[List.length_erase_of_mem ha] at this;have:0<M.length:=NF ha;simp only[cE];omega
 exact sub L _ l2 fun x hx=>tv.2 ⟨fk.2 (l3 x hx).1,Jm.2 (l3 x hx).2⟩
theorem WG{R:Nat->Nat->Prop}(h:∀x,x<n->aW R x 0):K (aW R) n<=1:=by
 unfold K;have hz:∀x∈List.range n,AR (aW R) x=true->x=0:=fun x hx hl=>by have:=Jm.1 hl 0 (h x (fk.1 hx));omega
 have:∀l:List Nat,l.Nodup->(∀x∈l,AR (aW R) x=true->x=0)->l.countP (AR (aW R))<=1:=by
  intro l
  induction l with
  |nil=>intro _ _;simp
  |cons a l ih=>
   intro hn hl;obtain⟨h1,h2⟩:=nY.1 hn;rw[uV];by_cases c:AR (aW R) a=true
   .have ha:=hl a af c;subst ha;have:l.countP (AR (aW R))=0:=He.2 fun x hx wX=>h1 (by have:=hl x (by simp[hx]) wX;subst this;exact hx);simp[c,this]
   have:=ih h2 fun x hx=>hl x (by simp[hx]);simp[c,this]
 exact this _ Dl hz
structure Perm (n:Nat) (p:Nat->Nat):Prop where
 lt:∀x,x<n->p x<n
 inj:∀x y,x<n->y<n->p x=p y->x=y
abbrev gr(n:Nat)(p:Nat->Nat)(x y:Nat):Prop:=x<n/\y=p x
def tr (p:Nat->Nat)(t:Nat×Nat)(x:Nat):Nat:=if x=t.1 then p t.2 else if x=t.2 then p t.1 else p x
theorem Kb(p:Nat->Nat)(a b x:Nat):tr p (a,b) x=p (if x=a then b else if x=b then a else x):=by
 unfold tr;simp only;split
 .rfl
 split<;>rfl
theorem Perm.tr{p:Nat->Nat}(h:Perm n p){a b:Nat}(ha:a<n)(hb:b<n):Perm n (tr p (a,b)):=by
 have hs:∀x,x<n->(if x=a then b else if x=b then a else x)<n:=fun x hx=>by split<;>(try split)<;>assumption
 refine⟨fun x hx=>by rw[Kb];exact h.lt _ (hs x hx),fun x y hx hy e=>?_⟩;rw[Kb,Kb] at e;have e:=h.inj _ _ (hs x hx) (hs y hy) e;by_cases x1:x=a
 .rw[if_pos x1] at e;by_cases y1:y=a
  .omega
  rw[if_neg y1] at e;split at e<;>omega
 rw[if_neg x1] at e;by_cases y1:y=a
 .rw[if_pos y1] at e;split at e<;>omega
 rw[if_neg y1] at e;split at e<;>split at e<;>omega
def it (p:Nat->Nat):Nat->Nat->Nat
 |0,x=>x
 |k+1,x=>p (it p k x)
theorem Perm.Gw{p:Nat->Nat}(h:Perm n p)(hx:x<n):∀k,it p k x<n:=by
 intro k
 induction k with
 |zero=>exact hx
 |succ k ih=>exact h.lt _ ih
theorem Perm.back{p:Nat->Nat}(h:Perm n p)(hx:x<n):∀i j,it p (i+j) x=it p i x->it p j x=x:=by
 intro i
 induction i with
 |zero=>intro j e;rw[jc] at e;exact e
 |succ i ih=>intro j e;rw[show i+1+j=(i+j)+1 by omega] at e;exact ih j (h.inj _ _ (h.Gw hx _) (h.Gw hx _) e)
theorem Np:∀(L M:List Nat),L.Nodup->(∀x∈L,x∈M)->L.length<=M.length:=by
 intro L
 induction L with
 |nil=>intro M _ _;exact aY _
 |cons a L ih=>intro M hn hs;obtain⟨h1,h2⟩:=nY.1 hn;have ha:=hs a af;have:=ih (M.erase a) h2 fun x hx=>(List.mem_erase_of_ne (by rintro rfl;exact h1 hx)).2 (hs x (by simp[hx]));rw[List.length_erase_of_mem ha] at this;have:0<M.length:=NF ha;simp only[cE];omega
theorem Perm.Ym{p:Nat->Nat}(h:Perm n p)(hx:x<n):∃m,it p (m+1) x=x:=by
 apply Classical.byContradiction;intro dF;have key:∀k,((List.range k).map fun i=>it p i x).Nodup:=by
  intro k
  induction k with
  |zero=>simp
  |succ k ih=>rw[uv,iS,Hh];refine⟨ih,af,fun a ha b hb=>?_⟩;obtain⟨i,hi,rfl⟩:=dr.1 ha;have hi:=fk.1 hi;simp only[dG,lK,j6] at hb;subst hb;intro e;have:=h.back hx i (k-i) (by rw[show i+(k-i)=k by omega];exact e.symm);exact dF ⟨k-i-1,by rw[show k-i-1+1=k-i by omega];exact this⟩
 have:=Np _ (List.range n) (key (n+1)) fun y hy=>by obtain⟨i,_,rfl⟩:=dr.1 hy;exact fk.2 (h.Gw hx i)
 rw[cF,vM,vM] at this;omega
theorem abI(p:Nat->Nat)(x:Nat):∀k,it p (k+1) x=it p k (p x):=by
 intro k
 induction k with
 |zero=>rfl
 |succ k ih=>show p (it p (k+1) x)=p (it p k (p x));rw[ih]
theorem aeY{p:Nat->Nat}(h:Perm n p){a b:Nat}(ha:a<n)(hb:b<n)(ju:¬aW (gr n p) a b):aW (gr n (tr p (a,b))) a b:=by
 obtain⟨m,hm⟩:=h.Ym hb;have e0:tr p (a,b) a=p b:=by unfold tr;rw[if_pos rfl]
 have eo:∀k,aW (gr n p) b (it p k b):=by
  intro k
  induction k with
  |zero=>exact .refl _
  |succ k ih=>exact ih.trans (.rel ⟨h.Gw hb k,rfl⟩)
 have key:∀k,aW (gr n (tr p (a,b))) a b\/aW (gr n (tr p (a,b))) a (it p k (p b)):=by
  intro k
  induction k with
  |zero=>exact .inr (.rel ⟨ha,e0.symm⟩)
  |succ k ih=>
   rcases ih with ih|ih
   .exact .inl ih
   by_cases c:it p k (p b)=b
   .rw[c] at ih;exact .inl ih
   refine .inr (ih.trans (.rel ⟨h.Gw (h.lt _ hb) k,?_⟩));have na:it p k (p b)≠a:=fun e=>ju (by have:=eo (k+1);rw[abI,e] at this;exact this.symm)
   unfold tr;rw[if_neg na,if_neg c];rfl
 rcases key m with k|k
 .exact k
 rw[<- abI,hm] at k;exact k
theorem QQ{p:Nat->Nat}{a b:Nat}(ha:a<n)(hb:b<n){S:Nat->Nat->Prop}{x y:Nat}:aW (qI (fun x y=>gr n (tr p (a,b)) x y\/S x y) a b) x y↔aW (qI (fun x y=>gr n p x y\/S x y) a b) x y:=by
 have ab:∀R:Nat->Nat->Prop,aW (qI R a b) a b:=fun R=>.rel (.inr ⟨rfl,rfl⟩);constructor
 .refine aW.mono fun u v r=>?_;rcases r with (⟨hu,rfl⟩|s)|⟨rfl,rfl⟩
  .unfold tr;simp only;by_cases c:u=a
   .subst c;rw[if_pos rfl];exact(ab _).trans (.rel (.inl (.inl ⟨hb,rfl⟩)))
   rw[if_neg c];by_cases d:u=b
   .subst d;rw[if_pos rfl];exact(ab _).symm.trans (.rel (.inl (.inl ⟨ha,rfl⟩)))
   rw[if_neg d];exact .rel (.inl (.inl ⟨hu,rfl⟩))
  .exact .rel (.inl (.inr s))
  exact ab _
 refine aW.mono fun u v r=>?_;rcases r with (⟨hu,rfl⟩|s)|⟨rfl,rfl⟩
 .by_cases c:u=a
  .subst c;refine(ab _).trans (.rel (.inl (.inl ⟨hb,?_⟩)));unfold tr;simp only;by_cases d:b=u
   .rw[if_pos d,d]
   rw[if_neg d];simp
  by_cases d:u=b
  .subst d;refine(ab _).symm.trans (.rel (.inl (.inl ⟨ha,?_⟩)));unfold tr;rw[if_pos rfl]
  refine .rel (.inl (.inl ⟨hu,?_⟩));unfold tr;rw[if_neg c,if_neg d]
 .exact .rel (.inl (.inr s))
 exact ab _
abbrev inT(ts:List (Nat×Nat))(x y:Nat):Prop:=(x,y)∈ts
abbrev xN(n:Nat)(p:Nat->Nat)(ts:List (Nat×Nat))(x y:Nat):Prop:=gr n p x y\/inT ts x y
theorem YT:∀(ts:List (Nat×Nat)) (p:Nat->Nat),Perm n p->(∀t∈ts,t.1<n/\t.2<n)->
  K (aW (gr n (ts.foldl tr p))) n+K (aW (gr n p)) n<=2*K (aW (xN n p ts)) n+ts.length:=by
 intro ts
 induction ts with
 |nil=>
  intro p _ _;have:K (aW (xN n p [])) n=K (aW (gr n p)) n:=Hp (fun x y=>⟨aW.mono (R:=xN n p []) (R':=gr n p) (fun u v r=>by
   rcases r with r|r
   .exact .rel r
   cases r),aW.mono (R:=gr n p) (R':=xN n p []) (fun u v r=>.rel (.inl r))⟩) n
  rw[this];simp only[List.foldl_nil,dQ];omega
 |cons t ts ih=>
  intro p hp ht;obtain⟨a,b⟩:=t;obtain⟨ha,hb⟩:=ht (a,b) af
  replace ha:a<n:=ha
  replace hb:b<n:=hb
  have ih:=ih (tr p (a,b)) (hp.tr ha hb) fun t h=>ht t (by simp[h]);have all:∀x y,aW (xN n p ((a,b)::ts)) x y↔aW (qI (xN n (tr p (a,b)) ts) a b) x y:=fun x y=>by
   refine Iff.trans ⟨aW.mono fun u v r=>?_,aW.mono fun u v r=>?_⟩ (QQ (S:=inT ts) ha hb).symm
   .rcases r with r|r
    .exact .rel (.inl (.inl r))
    rcases cT.1 r with r|r
    .cases r;exact .rel (.inr ⟨rfl,rfl⟩)
    exact .rel (.inl (.inr r))
   rcases r with (r|r)|⟨rfl,rfl⟩
   .exact .rel (.inl r)
   .exact .rel (.inr (vN _ r))
   exact .rel (.inr (Bs ..))
  have one:∀x y,aW (qI (gr n (tr p (a,b))) a b) x y↔aW (qI (gr n p) a b) x y:=fun x y=>by have h:=QQ (p:=p) (S:=fun _ _=>False) ha hb (x:=x) (y:=y);have e:∀q:Nat->Nat,(fun x y=>gr n q x y\/False)=gr n q:=fun q=>funext fun x=>funext fun y=>propext af;rw[e,e] at h;exact h
  rw[Hp all];simp only[uW,cE];have kj:K (aW (qI (gr n (tr p (a,b))) a b)) n=K (aW (qI (gr n p) a b)) n:=Hp one n;have sm:∀R:Nat->Nat->Prop,aW R a b->K (aW (qI R a b)) n=K (aW R) n:=fun R h=>QH h n;have jn:∀R:Nat->Nat->Prop,¬aW R a b->K (aW R) n=K (aW (qI R a b)) n+1:=fun R h=>QG ha hb h;rcases Classical.em (aW (gr n p) a b) with c|c
  .have k1:=sm _ c;rcases Classical.em (aW (gr n (tr p (a,b))) a b) with d|d
   .have k2:=sm _ d;have k3:=sm _ (d.mono (R':=xN n (tr p (a,b)) ts) fun u v r=>.rel (.inl r));omega
   have k2:=jn _ d;rcases Classical.em (aW (xN n (tr p (a,b)) ts) a b) with d2|d2
   .have k3:=sm _ d2;omega
   have k3:=jn _ d2;omega
  have k1:=jn _ c;have d:=aeY hp ha hb c;have k2:=sm _ d;have k3:=sm _ (d.mono (R':=xN n (tr p (a,b)) ts) fun u v r=>.rel (.inl r));omega
def rv (x:Nat):Nat:=if x%2=0 then x+1 else x-1
theorem tk(k:Nat):rv (2*k)=2*k+1:=by unfold rv;rw[if_pos aa]
theorem zT(k:Nat):rv (2*k+1)=2*k:=by unfold rv;rw[if_neg aa];rfl
theorem vH(x:Nat):rv (rv x)=x:=by
 rcases sH x with h|h
 .rw[show x=2*(x/2) by omega,tk,zT]
 rw[show x=2*(x/2)+1 by omega,zT,tk]
theorem vG{m:Nat}(h:x<2*m):rv x<2*m:=by unfold rv;split<;>omega
theorem xk(n v:Nat)(g:Bool):rv (dk n v g)=gQ n v (!g):=by
 cases g with
 |true=>exact tk _
 |false=>exact zT _
theorem ao0(n v:Nat)(g:Bool):rv (gQ n v g)=dk n v (!g):=by
 cases g with
 |true=>exact tk _
 |false=>exact zT _
theorem yR(hv:v<n)(g:Bool):gQ n v g<2*n:=by have:=dw (v+n-1) (show 0<n by omega);unfold gQ;split<;>omega
theorem Ky(hx:x<2*n):x=gQ n (if x%2=0 then (x/2+1)%n else x/2) (x%2==0):=by
 unfold gQ;rcases sH x with h|h
 .simp only[h,beq_self_eq_true,if_true];rw[EL aa];omega
 simp only[h,show((1:Nat)==0)=false from rfl,eY,if_false,Nat.one_ne_zero];omega
section
variable {F:Nat} {ls:List Let}
theorem ae3{l:Let}(hl:ls[v]?=some l)(fw:Bool):aO ls (gQ ls.length v fw)=if l.kind==2 then dk ls.length (fH ls v) (fw==(l.over==(l.sign==1)))
   else if dn ls v==fw then 2*ls.length+2*(aC ls).idxOf v else 2*ls.length+2*(((aC ls).idxOf v+(aC ls).length-1)%(aC ls).length)+1:=by
 have hv:=(aV.1 hl).1;have aq:=yR hv fw;refine ae2 aa ?_ ?_ hl
 .unfold gQ;cases fw<;>simp
 unfold gQ;cases fw with
 |true=>simp only[if_true];rw[show 2*((v+ls.length-1)%ls.length)/2=(v+ls.length-1)%ls.length by omega,xe hv]
 |false=>simp only[eY,if_false];omega
theorem yE{l:Let}(hl:ls[v]?=some l)(hc:l.aw=true)(fw:Bool):aO ls (gQ ls.length v fw)=dk ls.length (fH ls v) (fw==(l.over==(l.sign==1))):=by rw[ae3 hl];unfold Let.aw at hc;rw[if_pos hc]
theorem GS{l:Let}(hl:ls[v]?=some l)(hp:l.ay=true)(fw:Bool):aO ls (gQ ls.length v fw)=if dn ls v==fw then 2*ls.length+2*(aC ls).idxOf v else 2*ls.length+2*(((aC ls).idxOf v+(aC ls).length-1)%(aC ls).length)+1:=by have:=mA hp;unfold Let.aw at this;rw[ae3 hl,if_neg (by rw[this];decide)]
theorem Fh(k:Nat):aO ls (2*ls.length+2*k)=dk ls.length ((aC ls).getD ((k+1)%(aC ls).length) 0) (!dn ls ((aC ls).getD ((k+1)%(aC ls).length) 0)):=by show fN _ _ _=_;unfold fN;rw[if_pos aa,if_pos aa,show(2*ls.length+2*k-2*ls.length)/2=k by omega]
theorem Fg(k:Nat):aO ls (2*ls.length+2*k+1)=dk ls.length ((aC ls).getD k 0) (dn ls ((aC ls).getD k 0)):=by show fN _ _ _=_;unfold fN;rw[if_pos aa,if_neg aa,show(2*ls.length+2*k+1-2*ls.length)/2=k by omega]
theorem yU{k:Nat}(hk:k<(aC ls).length):∃l,ls[(aC ls).getD k 0]?=some l/\l.ay=true:=by obtain⟨v,hv⟩:=aI hk;rw[cJ,hv,kA];exact tB.1 (aQ hv)
theorem Fy{l:Let}(ok:eP F ls)(hl:ls[v]?=some l)(hp:l.ay=true):(aC ls).idxOf v<(aC ls).length/\(aC ls).getD ((aC ls).idxOf v) 0=v:=by have h1:=QZ ok.ax hl hp;rw[HD ok.ax hl hp];exact⟨(aV.1 h1).1,by rw[cJ,h1];rfl⟩
theorem Wb(ok:eP F ls)(hv:v<ls.length)(fw:Bool):aO ls (rv (aO ls (gQ ls.length v fw)))=dk ls.length v fw:=by
 obtain⟨l,hl⟩:=aI hv;rcases ok.kinds l (aQ hl) with hp|hc
 .obtain⟨h1,h2⟩:=Fy ok hl hp;rw[GS hl hp];by_cases c:(dn ls v==fw)=true
  .rw[if_pos c,show 2*ls.length+2*(aC ls).idxOf v=2*(ls.length+(aC ls).idxOf v) by omega,tk,show 2*(ls.length+(aC ls).idxOf v)+1=2*ls.length+2*(aC ls).idxOf v+1 by omega,Fg,h2];rw[eq_of_beq c]
  rw[if_neg c];have c:dn ls v= !fw:=by revert c;cases dn ls v<;>cases fw<;>simp
  have hm:=dw ((aC ls).idxOf v+(aC ls).length-1) (show 0<(aC ls).length by omega);rw[show 2*ls.length+2*(((aC ls).idxOf v+(aC ls).length-1)%(aC ls).length)+1=2*(ls.length+((aC ls).idxOf v+(aC ls).length-1)%(aC ls).length)+1 by omega,zT,
   show 2*(ls.length+((aC ls).idxOf v+(aC ls).length-1)%(aC ls).length)=2*ls.length+2*(((aC ls).idxOf v+(aC ls).length-1)%(aC ls).length) by omega,Fh,xe h1,h2,c,Bool.not_not]
 obtain⟨h1,m,hm,mc,mi,mo,ms⟩:=pW ok.cr hl hc;rw[yE hl hc,xk,yE hm mc,h1,mo,ms];cases fw<;>cases l.over<;>cases (l.sign==1)<;>rfl
def sW(ls:List Let)(x:Nat):Nat:=
 if 2*ls.length<=x then (if x%2=0 then (aC ls).getD (((x-2*ls.length)/2+1)%(aC ls).length) 0 else (aC ls).getD ((x-2*ls.length)/2) 0)
 else if x%2=0 then (x/2+1)%ls.length else x/2
def Ft(ls:List Let)(x:Nat):Bool:=decide (2*ls.length<=x)||(match ls[sW ls x]? with|some l=>l.aw&&l.over|none=>false)
def j5(ls:List Let)(i:Nat):Int×Int:=match ls[i]? with|some l=>if l.aw then (1,l.id) else (0,i)|none=>(2,0)
theorem F3(hv:v<ls.length)(fw:Bool):sW ls (gQ ls.length v fw)=v:=by
 have aq:=yR hv fw;unfold sW;rw[if_neg aa];unfold gQ;cases fw with
 |true=>simp only[if_true];rw[if_pos aa,show 2*((v+ls.length-1)%ls.length)/2=(v+ls.length-1)%ls.length by omega,xe hv]
 |false=>simp only[eY,if_false];rw[if_neg aa];omega
theorem QO{l:Let}(hl:ls[v]?=some l)(fw:Bool):Ft ls (gQ ls.length v fw)=(l.aw&&l.over):=by have hv:=(aV.1 hl).1;have aq:=yR hv fw;unfold Ft;rw[F3 hv,hl];have:¬2*ls.length<=gQ ls.length v fw:=aa;simp[this]
theorem aaY(k:Nat):sW ls (2*ls.length+2*k)=(aC ls).getD ((k+1)%(aC ls).length) 0:=by unfold sW;rw[if_pos aa,if_pos aa,show(2*ls.length+2*k-2*ls.length)/2=k by omega]
theorem aaX(k:Nat):sW ls (2*ls.length+2*k+1)=(aC ls).getD k 0:=by unfold sW;rw[if_pos aa,if_neg aa,show(2*ls.length+2*k+1-2*ls.length)/2=k by omega]
theorem QP(h:2*ls.length<=x):Ft ls x=true:=by unfold Ft;simp[h]
theorem ae4(ok:eP F ls)(hx:x<nD ls):j5 ls (sW ls (rv (aO ls x)))=j5 ls (sW ls x)/\Ft ls (rv (aO ls x))= !Ft ls x:=by
 unfold nD at hx;rcases Nat.lt_or_ge x (2*ls.length) with c|c
 .have hv:(if x%2=0 then (x/2+1)%ls.length else x/2)<ls.length:=by
   have:=dw (x/2+1) (show 0<ls.length by omega);split<;>omega
  rw[Ky c];generalize (if x%2=0 then (x/2+1)%ls.length else x/2)=v at hv;generalize (x%2==0)=fw;obtain⟨l,hl⟩:=aI hv;rw[F3 hv,QO hl];rcases ok.kinds l (aQ hl) with hp|hc
  .obtain⟨h1,h2⟩:=Fy ok hl hp;rw[mA hp,GS hl hp];by_cases d:(dn ls v==fw)=true
   .rw[if_pos d,show 2*ls.length+2*(aC ls).idxOf v=2*(ls.length+(aC ls).idxOf v) by omega,tk,show 2*(ls.length+(aC ls).idxOf v)+1=2*ls.length+2*(aC ls).idxOf v+1 by omega,aaX,h2,QP aa];exact⟨rfl,rfl⟩
   rw[if_neg d,show 2*ls.length+2*(((aC ls).idxOf v+(aC ls).length-1)%(aC ls).length)+1=2*(ls.length+((aC ls).idxOf v+(aC ls).length-1)%(aC ls).length)+1 by omega,zT,
    show 2*(ls.length+((aC ls).idxOf v+(aC ls).length-1)%(aC ls).length)=2*ls.length+2*(((aC ls).idxOf v+(aC ls).length-1)%(aC ls).length) by omega,aaY,xe h1,h2,QP aa]
   exact⟨rfl,rfl⟩
  obtain⟨h1,m,hm,mc,mi,mo,ms⟩:=pW ok.cr hl hc;have hw:=(aV.1 hm).1;rw[yE hl hc,xk,F3 hw,QO hm];unfold j5;simp[hl,hm,hc,mc,mi,mo]
 rw[QP c];have key:∀k,k<(aC ls).length->∀g,j5 ls (sW ls (rv (dk ls.length ((aC ls).getD k 0) g)))=j5 ls ((aC ls).getD k 0)/\Ft ls (rv (dk ls.length ((aC ls).getD k 0) g))= !true:=fun k hk g=>by obtain⟨l,hl,hp⟩:=yU hk;rw[xk,F3 (aV.1 hl).1,QO hl,mA hp];exact⟨rfl,rfl⟩
 rcases sH x with d|d
 .rw[show x=2*ls.length+2*((x-2*ls.length)/2) by omega,Fh,aaY];exact key _ (dw _ aa) _
 rw[show x=2*ls.length+2*((x-2*ls.length)/2)+1 by omega,Fg,aaX];exact key _ aa _
end
theorem ary{next:Nat->Nat}{R:Nat->Nat->Prop}(aq:∀x,x<N->next x<N)(h:∀x,x<N->aW R x (next x)):∀(k x:Nat) (S:List Bool),x<N->∀y∈(eZ next k x S).1,aW R x y:=by
 intro k
 induction k with
 |zero=>intro x S _ y hy;simp[eZ] at hy
 |succ k ih=>
  intro x S hx y hy;unfold eZ at hy;split at hy
  .simp at hy
  rcases cT.1 hy with rfl|hy
  .exact .refl _
  exact(h x hx).trans (ih (next x) _ (aq x hx) y hy)
theorem arG{next:Nat->Nat}(m:yN next n2 N){R:Nat->Nat->Prop}(h:∀x,x<N->aW R x (next x)):∀k,k<=N->∀w∈(dC next N k).1,∀x∈w,∀y∈w,aW R x y:=by
 intro k
 induction k with
 |zero=>intro _ w hw;simp[dC] at hw
 |succ k ih=>
  intro hk w hw x hx y hy;rw[yG] at hw;unfold uS at hw;split at hw
  .exact ih aa w hw x hx y hy
  rcases fq.1 hw with hw|hw
  .exact ih aa w hw x hx y hy
  simp only[j6] at hw;subst hw;have hj:=ary (R:=R) m.lt h ((dC next N k).2.length+1) k (dC next N k).2 aa;exact(hj x hx).symm.trans (hj y hy)
theorem arK{next:Nat->Nat}(m:yN next n2 N):∀k,k<=n2->∀w∈(dC next N k).1,∀x∈w,next x∈w:=by
 intro k
 induction k with
 |zero=>intro _ w hw;simp[dC] at hw
 |succ k ih=>
  intro hk w hw x hx;obtain⟨c0,_⟩:=Qx m k aa;obtain⟨c1,_⟩:=Qx m (k+1) hk;rw[yG] at hw c1;unfold uS at hw c1;cases hs:(dC next N k).2.getD k true with
  |true=>rw[hs,if_pos rfl] at hw;exact ih aa w hw x hx
  |false=>
   rw[hs,if_neg ae] at hw c1;rcases fq.1 hw with hw|hw
   .exact ih aa w hw x hx
   simp only[j6] at hw;subst hw;obtain⟨g1,g2,g3⟩:=afg next ((dC next N k).2.length+1) k (dC next N k).2;have zK:x<N:=by have:=Qh (g1 x hx);have:=GW next N k;omega
   have e0:=c0 x zK;have e1:=c1 x zK;rw[g3,g3,g1 x hx] at e1;rw[g1 x hx] at e0;simp only[Df,hx,decide_true,<- e0] at e1;exact of_decide_eq_true e1.symm
theorem Bo{next:Nat->Nat}(m:yN next n2 N){w:List Nat}(hw:w∈fV next N)(hx:x∈w):next x∈w:=by unfold fV at hw;rw[Wo m N m.le (aZ _)] at hw;exact arK m n2 (aZ _) w hw x hx
theorem Qy{next:Nat->Nat}(m:yN next n2 N){R:Nat->Nat->Prop}(h:∀x,x<N->aW R x (next x)){w:List Nat}(hw:w∈fV next N){x:Nat}(hx:x∈w)(hy:y∈w):aW R x y:=arG m h N (aZ _) w hw x hx y hy
def Aa(L:List (List Nat))(x:Nat):Nat:=L.findIdx fun w=>w.contains x
theorem GZ{L:List (List Nat)}(h:L.flatten.Nodup){i:Nat}{w:List Nat}(hi:L[i]?=some w)(hx:x∈w):Aa L x=i:=by
 have hm:w.contains x=true:=by simpa using hx
 have aq:L.findIdx (fun w=>w.contains x)<L.length:=List.findIdx_lt_length_of_exists ⟨w,aQ hi,hm⟩;have hp:=List.findIdx_getElem (w:=aq);have hj:L[L.findIdx fun w=>w.contains x]?=some (L[L.findIdx fun w=>w.contains x]'aq):=oQ aq;exact acG h hj hi (by simpa using hp) hx
theorem abw:∀ {L:List (List Nat)},L.flatten.Nodup->(∀w∈L,w≠[])->((L.map (·.headD 0)).map (Aa L))=List.range L.length:=by
 intro L h aK;apply xx;intro i;rw[fX,fX];by_cases hi:i<L.length
 .have e:=oQ hi;rw[e,tu hi];simp only[kX];have hw:=aK _ (aQ e);rw[GZ h e (x:=L[i].headD 0) (by
   cases hL:L[i] with
   |nil=>exact absurd hL hw
   |cons a r=>simp)]
 rw[mS aa,mS (by simp;omega)];rfl
theorem ae9{α:Type}{f:Nat->α×Bool}{g:Nat->α}{c:Nat->Bool}(h0:∀x,f (2*x)=(g x,c x))(h1:∀x,f (2*x+1)=(g x,!c x)):∀ {L:List Nat},(L.map g).Nodup->((L.flatMap fun x=>[2*x,2*x+1]).map f).Nodup:=by
 intro L
 induction L with
 |nil=>intro _;exact tz
 |cons a L ih=>
  intro h;rw[dG,nY] at h;have ih:=ih h.2;have dF:∀b,(g a,b)∉(L.flatMap fun x=>[2*x,2*x+1]).map f:=by
   intro b hb;obtain⟨y,hy,e⟩:=dr.1 hb;obtain⟨x,hx,hy⟩:=List.mem_flatMap.1 hy;have:g x=g a:=by
    simp only[cT,hJ,or_false] at hy;rcases hy with rfl|rfl
    .rw[h0] at e;exact congrArg Prod.fst e
    rw[h1] at e;exact congrArg Prod.fst e
   exact h.1 (dr.2 ⟨x,hx,this⟩)
  rw[List.flatMap_cons,iS,Hh];refine⟨?_,ih,?_⟩
  .simp only[dG,lK,h0,h1,nY,j6,hJ,not_false_eq_true,tz,and_true];intro e;have:=congrArg Prod.snd e;revert this;cases c a<;>simp
  intro u hu v hv e;subst e;simp only[dG,lK,h0,h1,cT,hJ,or_false] at hu;rcases hu with rfl|rfl
  .exact dF _ hv
  exact dF _ hv
theorem ae6:∀L:List Nat,(L.flatMap fun x=>[2*x,2*x+1]).length=2*L.length:=by
 intro L
 induction L with
 |nil=>rfl
 |cons a L ih=>rw[List.flatMap_cons,fc,ih];simp only[cE,dQ];omega
theorem ae7{L:List Nat}(h:∀x∈L,x<N):∀y∈(L.flatMap fun x=>[2*x,2*x+1]),y<2*N:=by intro y hy;obtain⟨x,hx,hy⟩:=List.mem_flatMap.1 hy;have:=h x hx;simp only[cT,hJ,or_false] at hy;rcases hy with rfl|rfl<;>omega
def fx (b:Bool)(s:Nat):Nat:=if b then 1-s else s
theorem zi{b:Bool}{s:Nat}(h:s<2):fx b s<2:=by unfold fx;split<;>omega
theorem Is{b:Bool}{s:Nat}(h:s<2):fx b (fx b s)=s:=by unfold fx;cases b<;>simp;omega
def mX(p:Nat->Bool)(y:Nat):Nat:=2*rv (y/2)+fx (p (y/2)) (y%2)
def uf(p:Nat->Bool)(nx:Nat->Nat)(y:Nat):Nat:=2*nx (rv (y/2))+fx (p (y/2)) (y%2)
def uR(p:Nat->Bool)(k:Nat):List (Nat×Nat):=(List.range k).flatMap fun e=>[(4*e,mX p (4*e)),(4*e+1,mX p (4*e+1))]
theorem Hy(p:Nat->Bool)(e:Nat):mX p (4*e)=if p (2*e) then 4*e+3 else 4*e+2:=by unfold mX fx;rw[show 4*e/2=2*e by omega,tk,show 4*e%2=0 by omega];split<;>omega
theorem Hz(p:Nat->Bool)(e:Nat):mX p (4*e+1)=if p (2*e) then 4*e+2 else 4*e+3:=by unfold mX fx;rw[show(4*e+1)/2=2*e by omega,tk,show(4*e+1)%2=1 by omega];split<;>omega
theorem Xb{p:Nat->Bool}(hp:∀x,p (rv x)=p x)(e:Nat):mX p (4*e+2)=if p (2*e) then 4*e+1 else 4*e:=by unfold mX fx;rw[show(4*e+2)/2=2*e+1 by omega,zT,show(4*e+2)%2=0 by omega,<- hp (2*e),tk];split<;>omega
theorem Xd{p:Nat->Bool}(hp:∀x,p (rv x)=p x)(e:Nat):mX p (4*e+3)=if p (2*e) then 4*e else 4*e+1:=by unfold mX fx;rw[show(4*e+3)/2=2*e+1 by omega,zT,show(4*e+3)%2=1 by omega,<- hp (2*e),tk];split<;>omega
theorem ae0(p:Nat->Bool)(k:Nat):uR p (k+1)=uR p k++[(4*k,mX p (4*k)),(4*k+1,mX p (4*k+1))]:=by unfold uR;rw[uv,List.flatMap_append];simp
theorem ari(p:Nat->Bool)(k:Nat):(uR p k).length=2*k:=by
 induction k with
 |zero=>rfl
 |succ k ih=>rw[ae0,fc,ih];simp only[cE,dQ];omega
theorem arj(p:Nat->Bool)(k:Nat):∀t∈uR p k,t.1<4*k/\t.2<4*k:=by intro t ht;obtain⟨e,he,h⟩:=List.mem_flatMap.1 ht;have he:=fk.1 he;simp only[cT,hJ,or_false,Hy,Hz] at h;rcases h with rfl|rfl<;>refine⟨by simp only;omega,?_⟩<;>simp only<;>split<;>omega
theorem ark(p:Nat->Bool){k e:Nat}(h:e<k):(4*e,mX p (4*e))∈uR p k/\(4*e+1,mX p (4*e+1))∈uR p k:=
 ⟨List.mem_flatMap.2 ⟨e,fk.2 h,af⟩,List.mem_flatMap.2 ⟨e,fk.2 h,af⟩⟩
theorem arh{p:Nat->Bool}(hp:∀x,p (rv x)=p x)(q:Nat->Nat):∀k y,(uR p k).foldl tr q y=if y<4*k then q (mX p y) else q y:=by
 intro k
 induction k with
 |zero=>intro y;simp[uR]
 |succ k ih=>
  intro y;rw[ae0,Bq,uW,uW,List.foldl_nil,Kb,Kb,ih,Hy,Hz];by_cases c:y<4*k
  .have h1:(if y=4*k+1 then (if p (2*k) then 4*k+2 else 4*k+3) else if y=(if p (2*k) then 4*k+2 else 4*k+3) then 4*k+1 else y)=y:=by rw[if_neg aa,if_neg (by split<;>omega)]
   rw[h1];have h2:(if y=4*k then (if p (2*k) then 4*k+3 else 4*k+2) else if y=(if p (2*k) then 4*k+3 else 4*k+2) then 4*k else y)=y:=by rw[if_neg aa,if_neg (by split<;>omega)]
   rw[h2,if_pos c,if_pos aa]
  have a2:=Xb hp k;have a3:=Xd hp k;have a0:=Hy p k;have a1:=Hz p k;cases hpk:p (2*k) with
  |true=>
   rw[hpk] at a0 a1 a2 a3;simp only[if_true] at a0 a1 a2 a3 ⊢;by_cases c0:y=4*k
   .subst c0;rw[a0,if_neg (show ¬4*k=4*k+1 by omega),if_neg (show ¬4*k=4*k+2 by omega),if_pos rfl,if_neg aa,if_pos aa]
   by_cases c1:y=4*k+1
   .subst c1;rw[a1,if_pos rfl,if_neg (show ¬4*k+2=4*k by omega),if_neg (show ¬4*k+2=4*k+3 by omega),if_neg aa,if_pos aa]
   by_cases c2:y=4*k+2
   .subst c2;rw[a2,if_neg (show ¬4*k+2=4*k+1 by omega),if_pos rfl,if_neg (show ¬4*k+1=4*k by omega),if_neg (show ¬4*k+1=4*k+3 by omega),if_neg aa,if_pos aa]
   by_cases c3:y=4*k+3
   .subst c3;rw[a3,if_neg (show ¬4*k+3=4*k+1 by omega),if_neg (show ¬4*k+3=4*k+2 by omega),if_neg (show ¬4*k+3=4*k by omega),if_pos rfl,if_neg aa,if_pos aa]
   rw[if_neg c1,if_neg c2,if_neg c0,if_neg c3,if_neg c,if_neg aa]
  |false=>
   rw[hpk] at a0 a1 a2 a3;simp only[eY,if_false] at a0 a1 a2 a3 ⊢;by_cases c0:y=4*k
   .subst c0;rw[a0,if_neg (show ¬4*k=4*k+1 by omega),if_neg (show ¬4*k=4*k+3 by omega),if_pos rfl,if_neg aa,if_pos aa]
   by_cases c1:y=4*k+1
   .subst c1;rw[a1,if_pos rfl,if_neg (show ¬4*k+3=4*k by omega),if_neg (show ¬4*k+3=4*k+2 by omega),if_neg aa,if_pos aa]
   by_cases c3:y=4*k+3
   .subst c3;rw[a3,if_neg (show ¬4*k+3=4*k+1 by omega),if_pos rfl,if_neg (show ¬4*k+1=4*k by omega),if_neg (show ¬4*k+1=4*k+2 by omega),if_neg aa,if_pos aa]
   by_cases c2:y=4*k+2
   .subst c2;rw[a2,if_neg (show ¬4*k+2=4*k+1 by omega),if_neg (show ¬4*k+2=4*k+3 by omega),if_neg (show ¬4*k+2=4*k by omega),if_pos rfl,if_neg aa,if_pos aa]
   rw[if_neg c1,if_neg c3,if_neg c0,if_neg c2,if_neg c,if_neg aa]
theorem af6{p:Nat->Bool}(hp:∀x,p (rv x)=p x)(nx:Nat->Nat){k:Nat}(h:y<4*k):(uR p k).foldl tr (uf p nx) y=2*nx (y/2)+y%2:=by
 rw[arh hp,if_pos h];unfold uf;have hf:fx (p (y/2)) (y%2)<2:=zi aa;have h1:mX p y/2=rv (y/2):=by unfold mX;omega
 have h2:mX p y%2=fx (p (y/2)) (y%2):=by unfold mX;omega
 rw[h1,h2,vH,hp,Is aa]
theorem ab5{α β:Type}{P:α->β->Prop}{f:β->α}(hf:∀a b,P a b->f b=a):∀ {L:List α},(∀a∈L,∃b,P a b)->∃M:List β,M.map f=L/\ ∀b∈M,∃a∈L,P a b:=by
 intro L
 induction L with
 |nil=>intro _;exact⟨[],rfl,af⟩
 |cons a L ih=>
  intro h;obtain⟨b,hb⟩:=h a af;obtain⟨M,h1,h2⟩:=ih fun x hx=>h x (by simp[hx]);refine⟨b::M,by rw[dG,h1,hf a b hb],fun x hx=>?_⟩;rcases cT.1 hx with rfl|hx
  .exact⟨a,af,hb⟩
  obtain⟨c,hc,hp⟩:=h2 x hx;exact⟨c,by simp[hc],hp⟩
section
variable {F:Nat} {ls:List Let}
theorem agO(ok:eP F ls):(aC ls).Nodup:=by have:=Xt ok.ax ls.length (aZ _);refine List.Pairwise.imp (fun {a b} h e=>?_) this;subst e;exact absurd h (Nat.lt_irrefl _)
theorem U1(ok:eP F ls):ls.length=au Let.ay ls+au Let.aw ls:=by
 have:∀l:List Let,(∀x∈l,x.ay=true\/x.aw=true)->l.length=au Let.ay l+au Let.aw l:=by
  intro l
  induction l with
  |nil=>intro _;rfl
  |cons a l ih=>
   intro h;have ih:=ih fun x hx=>h x (by simp[hx]);unfold au at ih ⊢;rw[uV,uV,cE,ih];rcases h a af with c|c
   .rw[c,mA c];simp;omega
   have:a.ay=false:=by cases hp:a.ay;rfl;rw[mA hp] at c;cases c
   rw[c,this];simp;omega
 exact this ls ok.kinds
theorem afa(ok:eP F ls):∃L:List Nat,L.length=au Let.ay ls+au Let.aw ls/2/\(∀j∈L,j<ls.length)/\(L.map (j5 ls)).Nodup:=by
 have hc:=ok.cr;unfold lz at hc;simp only[bQ,beq_iff_eq] at hc;have hid:=hc.2
 let ids:List (Int×Int):=(eL ls ls.length).map fun id=>(1,id)
 have aj7:∀a∈ids,∃j,(j5 ls j=a/\j<ls.length):=by intro a ha;obtain⟨id,hi,rfl⟩:=dr.1 ha;obtain⟨j,o,hj,hh⟩:=(Gt (aZ _)).1 hi;obtain⟨m,hm,mc,mi,_⟩:=Au hh;refine⟨j,?_,hj⟩;unfold j5;rw[hm];simp[mc,mi]
 obtain⟨M,m1,m2⟩:=ab5 (P:=fun a j=>j5 ls j=a/\j<ls.length) (f:=j5 ls) (fun a b h=>h.1) aj7;have jT:∀i∈aC ls,i<ls.length/\j5 ls i=(0,(i:Int)):=fun i hi=>by obtain⟨l,hl,hp⟩:=tB.1 hi;refine⟨(aV.1 hl).1,?_⟩;unfold j5;rw[hl];simp[mA hp]
 refine⟨aC ls++M,?_,fun j hj=>?_,?_⟩
 .have:M.length=(eL ls ls.length).length:=by
   have:=congrArg List.length m1
   simpa [ids] using this
  rw[fc,this,hid,Fz]
 .rcases fq.1 hj with hj|hj
  .exact(jT j hj).1
  obtain⟨_,_,h⟩:=m2 j hj;exact h.2
 rw[iS,m1,Hh];refine⟨?_,?_,?_⟩
 .have:(aC ls).map (j5 ls)=(aC ls).map fun i:Nat=>((0:Int),(i:Int)):=uu fun i hi=>(jT i hi).2;rw[this];refine Hi.2 (List.Pairwise.imp (fun {a b} h e=>h ?_) (agO ok));have:=congrArg Prod.snd e;simp only at this;omega
 .refine Hi.2 (List.Pairwise.imp (fun {a b} h e=>h ?_) (O4 ls ls.length));exact congrArg Prod.snd e
 intro a ha b hb e;obtain⟨i,hi,rfl⟩:=dr.1 ha;obtain⟨id,_,rfl⟩:=dr.1 hb;rw[(jT i hi).2] at e;have:=congrArg Prod.fst e;simp at this
theorem ao5(ok:eP F ls)(p:Nat->Bool):Perm (2*nD ls) (uf p (aO ls)):=by
 have m:=maps ok;have hN:nD ls=2*(ls.length+(aC ls).length):=by unfold nD;omega
 have hr:∀y,y<2*nD ls->rv (y/2)<nD ls:=fun y hy=>by rw[hN];exact vG aa
 have hf:∀y,fx (p (y/2)) (y%2)<2:=fun y=>zi aa;refine⟨fun y hy=>?_,fun x y hx hy e=>?_⟩
 .have:=m.lt _ (hr y hy);have:=hf y;unfold uf;omega
 unfold uf at e;have:=hf x;have:=hf y;have e1:aO ls (rv (x/2))=aO ls (rv (y/2)):=aa;have e2:=m.inj _ _ (hr x hx) (hr y hy) e1;have e3:x/2=y/2:=by rw[<- vH (x/2),e2,vH]
 have e4:fx (p (x/2)) (x%2)=fx (p (y/2)) (y%2):=aa;rw[e3] at e4;have e5:x%2=y%2:=by rw[<- Is (b:=p (y/2)) (s:=x%2) aa,e4,Is aa]
 omega
end
section
variable {F:Nat} {ls:List Let} {p:Nat->Bool}
abbrev u5(ls:List Let)(p:Nat->Bool):Nat->Nat->Prop:=xN (2*nD ls) (uf p (aO ls)) (uR p (ls.length+(aC ls).length))
theorem CI(ls:List Let):nD ls=2*(ls.length+(aC ls).length):=by unfold nD;omega
theorem ah9(hp:∀x,p (rv x)=p x)(hy:y<2*nD ls):aW (u5 ls p) y (mX p y):=by
 have hN:=CI ls;obtain⟨h1,h2⟩:=ark p (k:=ls.length+(aC ls).length) (e:=y/4) aa;have r1:aW (u5 ls p) (4*(y/4)) (mX p (4*(y/4))):=.rel (.inr h1);have r2:aW (u5 ls p) (4*(y/4)+1) (mX p (4*(y/4)+1)):=.rel (.inr h2);have a2:=Xb hp (y/4);have a3:=Xd hp (y/4);rcases(by omega:y=4*(y/4)\/y=4*(y/4)+1\/y=4*(y/4)+2\/y=4*(y/4)+3) with e|e|e|e
 .rw[<- e] at r1;exact r1
 .rw[<- e] at r2;exact r2
 .rw[<- e] at a2;rw[a2];rw[Hy] at r1;rw[Hz] at r2;by_cases c:p (2*(y/4))=true
  .rw[if_pos c] at r2 ⊢;rw[<- e] at r2;exact r2.symm
  rw[if_neg c] at r1 ⊢;rw[<- e] at r1;exact r1.symm
 rw[<- e] at a3;rw[a3];rw[Hy] at r1;rw[Hz] at r2;by_cases c:p (2*(y/4))=true
 .rw[if_pos c] at r1 ⊢;rw[<- e] at r1;exact r1.symm
 rw[if_neg c] at r2 ⊢;rw[<- e] at r2;exact r2.symm
theorem N4(hp:∀x,p (rv x)=p x){x s:Nat}(hx:x<nD ls)(hs:s<2):aW (u5 ls p) (2*x+s) (2*rv x+fx (p x) s):=by have:=ah9 (ls:=ls) hp (y:=2*x+s) aa;unfold mX at this;rwa[show(2*x+s)/2=x by omega,show(2*x+s)%2=s by omega] at this
theorem KQ(hp:∀x,p (rv x)=p x){x s:Nat}(hx:x<nD ls)(hs:s<2):aW (u5 ls p) (2*x+s) (2*aO ls x+s):=by
 have hN:=CI ls;have hf:fx (p x) s<2:=zi hs;refine(N4 hp hx hs).trans (.rel (.inl ⟨?_,?_⟩))
 .have:rv x<nD ls:=by rw[hN];exact vG aa
  omega
 unfold uf;rw[show(2*rv x+fx (p x) s)/2=rv x by omega,show(2*rv x+fx (p x) s)%2=fx (p x) s by omega,vH,hp,Is hs]
def Ao(ls:List Let)(p:Nat->Bool)(x:Nat):Prop:= ∃b,∀s,s<2->aW (u5 ls p) (2*x+s) (fx b s)
theorem ajM(ls:List Let)(p:Nat->Bool):Ao ls p 0:=⟨false,fun s _=>by rw[show 2*0+s=s by omega];exact .refl _⟩
theorem aap(a b:Bool){s:Nat}(h:s<2):fx a (fx b s)=fx (a !=b) s:=by unfold fx;cases a<;>cases b<;>simp;omega
theorem aaE(hp:∀x,p (rv x)=p x){x:Nat}(hx:x<nD ls)(h:Ao ls p x):Ao ls p (rv x):=by obtain⟨b,h⟩:=h;refine⟨b !=p x,fun s hs=>?_⟩;have h1:=(N4 hp hx (s:=fx (p x) s) (zi hs)).symm.trans (h (fx (p x) s) (zi hs));rwa[Is hs,aap _ _ hs] at h1
theorem aaD(hp:∀x,p (rv x)=p x){x:Nat}(hx:x<nD ls)(h:Ao ls p x):Ao ls p (aO ls x):=by obtain⟨t,h⟩:=h;exact⟨t,fun s hs=>(KQ hp hx hs).symm.trans (h s hs)⟩
theorem ajL(hp:∀x,p (rv x)=p x){x:Nat}(hx:x<nD ls)(h:Ao ls p (aO ls x)):Ao ls p x:=by obtain⟨t,h⟩:=h;exact⟨t,fun s hs=>(KQ hp hx hs).trans (h s hs)⟩
theorem aaC(hp:∀x,p (rv x)=p x)(ok:eP F ls){x:Nat}(hx:x<nD ls):Ao ls p x:=by
 have m:=maps ok;have hN:=CI ls;have Eu:∀y,y<nD ls->rv y<nD ls:=fun y hy=>by rw[hN] at hy ⊢;exact vG hy
 have fwd:∀i,i<ls.length->Ao ls p (2*i):=by
  intro i
  induction i with
  |zero=>intro _;exact ajM ls p
  |succ i ih=>
   intro hi;have h0:=ih aa;have h2:2*i<nD ls:=aa;have h3:=aaD hp h2 h0;have h4:=m.lt _ h2;have h5:=aaD hp (Eu _ h4) (aaE hp h4 h3);have e:2*i=gQ ls.length (i+1) true:=by unfold gQ;rw[if_pos rfl,show i+1+ls.length-1=i+ls.length by omega,uX,fK aa]
   rw[e,Wb ok hi] at h5;exact h5
 have str:∀y,y<2*ls.length->Ao ls p y:=fun y hy=>by
  rcases sH y with c|c
  .rw[show y=2*(y/2) by omega];exact fwd _ aa
  have:=aaE hp (x:=2*(y/2)) aa (fwd (y/2) aa);rw[tk] at this;rw[show y=2*(y/2)+1 by omega];exact this
 rcases Nat.lt_or_ge x (2*ls.length) with c|c
 .exact str x c
 exact ajL hp hx (str _ (m.ax x hx c))
theorem arp(g:ct F ls)(hp:∀x,p (rv x)=p x){c:Nat->Bool}(hc:∀x,x<nD ls->c (rv (aO ls x))=(c x !=p x)):¬aW (u5 ls p) 0 1:=by
 intro h01;have ok:=g.ok;have hN:=CI ls;have Eu:∀y,y<nD ls->rv y<nD ls:=fun y hy=>by rw[hN] at hy ⊢;exact vG hy
 obtain⟨im,ON⟩:=GX (aO ls) (nD ls);have E:=YT (uR p (ls.length+(aC ls).length)) (uf p (aO ls)) (ao5 ok p) (fun t ht=>by have:=arj p _ t ht;omega)
 rw[ari] at E;have K1:K (aW (u5 ls p)) (2*nD ls)<=1:=WG fun y hy=>by
  obtain⟨b,ht⟩:=aaC hp ok (x:=y/2) aa;have e:=ht (y%2) aa;rw[show 2*(y/2)+y%2=y by omega] at e;have hf:fx b (y%2)<2:=zi aa;rcases(by omega:fx b (y%2)=0\/fx b (y%2)=1) with k|k
  .rw[k] at e;exact e
  rw[k] at e;exact e.trans h01.symm
 have K2:2*eN ls<=K (aW (gr (2*nD ls) ((uR p (ls.length+(aC ls).length)).foldl tr (uf p (aO ls))))) (2*nD ls):=by
  have hfs:∀w∈fV (aO ls) (nD ls),w≠[]:=fun w hw=>by obtain⟨⟨d,t,e,_⟩,_⟩:=zZ ok w hw;rw[e];simp
  have:=NN (R:=gr (2*nD ls) ((uR p (ls.length+(aC ls).length)).foldl tr (uf p (aO ls)))) (f:=fun y=>(Aa (fV (aO ls) (nD ls)) (y/2),decide (y%2=1))) (n:=2*nD ls)
   (reps:=((fV (aO ls) (nD ls)).map (·.headD 0)).flatMap fun x=>[2*x,2*x+1]) ?_ ?_ ?_
  .rw[ae6,cF] at this;exact this
  .rintro a b ⟨ha,rfl⟩
   rw[af6 hp _ aa];have hy:a/2<nD ls:=aa;obtain⟨u,hu,Lw⟩:=Fm.1 (ON _ hy);obtain⟨i,hi⟩:=jy hu;simp only[show(2*aO ls (a/2)+a%2)/2=aO ls (a/2) by omega,show(2*aO ls (a/2)+a%2)%2=a%2 by omega];rw[GZ im hi Lw,GZ im hi (Bo (maps ok) hu Lw)]
  .refine ae7 fun x hx=>?_;obtain⟨w,hw,rfl⟩:=dr.1 hx;obtain⟨⟨d,t,e,hd⟩,_⟩:=zZ ok w hw;rw[e];simp only[List.headD_cons];omega
  refine ae9 (g:=Aa (fV (aO ls) (nD ls))) (c:=fun _=>false) (fun x=>?_) (fun x=>?_) ?_
  .simp only[show 2*x/2=x by omega,show 2*x%2=0 by omega];simp
  .simp only[show(2*x+1)/2=x by omega,show(2*x+1)%2=1 by omega];simp
  rw[abw im hfs];exact Dl
 have K3:2*(au Let.ay ls+au Let.aw ls/2)<=K (aW (gr (2*nD ls) (uf p (aO ls)))) (2*nD ls):=by
  obtain⟨L,l1,l2,l3⟩:=afa ok;have:=NN (R:=gr (2*nD ls) (uf p (aO ls))) (f:=fun y=>(j5 ls (sW ls (rv (y/2))),(c (rv (y/2))!=decide (y%2=1)))) (n:=2*nD ls)
   (reps:=(L.map (2* ·)).flatMap fun x=>[2*x,2*x+1]) ?_ ?_ ?_
  .rw[ae6,cF,l1] at this;exact this
  .rintro a b ⟨ha,rfl⟩
   have hy:rv (a/2)<nD ls:=Eu _ aa;have t1:=(ae4 ok hy).1;have t2:=hc _ hy;have hf:fx (p (a/2)) (a%2)<2:=zi aa;unfold uf;simp only[show(2*aO ls (rv (a/2))+fx (p (a/2)) (a%2))/2=aO ls (rv (a/2)) by omega,show(2*aO ls (rv (a/2))+fx (p (a/2)) (a%2))%2=fx (p (a/2)) (a%2) by omega,t1,t2,hp];rcases sH a with k|k<;>rw[k]<;>cases c (rv (a/2))<;>cases p (a/2)<;>rfl
  .refine ae7 fun x hx=>?_;obtain⟨j,hj,rfl⟩:=dr.1 hx;have:=l2 j hj;omega
  refine ae9 (g:=fun x=>j5 ls (sW ls (rv x))) (c:=fun x=>c (rv x)) (fun x=>?_) (fun x=>?_) ?_
  .simp only[show 2*x/2=x by omega,show 2*x%2=0 by omega];simp
  .simp only[show(2*x+1)/2=x by omega,show(2*x+1)%2=1 by omega];simp
  rw[qH];have:L.map ((fun x=>j5 ls (sW ls (rv x))) ∘ (2* ·))=L.map (j5 ls):=uu fun j hj=>by have:=F3 (ls:=ls) (l2 j hj) false;simp only[Function.comp_apply,tk];rw[show 2*j+1=gQ ls.length j false from rfl,this]
  rw[this];exact l3
 have hPC:=U1 ok;have jT:=Fz (ls:=ls);have IU:=g.nw;have dX:=ok.cr;unfold lz at dX;simp only[bQ,beq_iff_eq] at dX;have dD:=dX.1.1;have E:K (aW (gr (2*nD ls) ((uR p (ls.length+(aC ls).length)).foldl tr (uf p (aO ls))))) (2*nD ls)+K (aW (gr (2*nD ls) (uf p (aO ls)))) (2*nD ls)<=2*K (aW (u5 ls p)) (2*nD ls)+2*(ls.length+(aC ls).length):=E;omega
theorem aia(g:ct F ls)(hp:∀x,p (rv x)=p x){w:List Nat}(hw:w∈fV (aO ls) (nD ls)){x s:Nat}(hx:x∈w)(hy:y∈w)(hs:s<2):aW (u5 ls p) (2*x+s) (2*y+s):=by
 have base:∀a b,aW (fun u v=>aW (u5 ls p) (2*u+s) (2*v+s)) a b->aW (u5 ls p) (2*a+s) (2*b+s):=by
  intro a b h
  induction h with
  |rel r=>exact r
  |refl a=>exact .refl _
  |symm _ ih=>exact ih.symm
  |trans _ _ i1 i2=>exact i1.trans i2
 exact base _ _ (Qy (maps g.ok) (R:=fun u v=>aW (u5 ls p) (2*u+s) (2*v+s)) (fun y hy=>.rel (KQ hp hy hs)) hw hx hy)
end
section
variable {F:Nat} {ls:List Let}
def qJ(ls:List Let)(x:Nat):Bool:=decide (2*ls.length<=x)
def zU(ls:List Let)(x:Nat):Bool:=if 2*ls.length<=x then x%2==1 else match ls[sW ls x]? with|some l=>l.ay&&(dn ls (sW ls x)==(x%2==0))|none=>false
theorem Xp(x:Nat):qJ ls (rv x)=qJ ls x:=by unfold qJ rv;rw[Bool.eq_iff_iff];simp only[decide_eq_true_eq];split<;>omega
theorem Qb{l:Let}(hl:ls[v]?=some l)(fw:Bool):zU ls (gQ ls.length v fw)=(l.ay&&(dn ls v==fw)):=by
 have hv:=(aV.1 hl).1;have aq:=yR hv fw;unfold zU;rw[F3 hv,hl,if_neg aa];have:(gQ ls.length v fw%2==0)=fw:=by unfold gQ;cases fw<;>simp
 rw[this]
theorem ao2(ok:eP F ls)(hx:x<nD ls):zU ls (rv (aO ls x))=(zU ls x !=qJ ls x):=by
 unfold nD at hx;rcases Nat.lt_or_ge x (2*ls.length) with c|c
 .have hE:qJ ls x=false:=by unfold qJ;simp;omega
  rw[hE];have hv:(if x%2=0 then (x/2+1)%ls.length else x/2)<ls.length:=by have:=dw (x/2+1) (show 0<ls.length by omega);split<;>omega
  rw[Ky c];generalize (if x%2=0 then (x/2+1)%ls.length else x/2)=v at hv;generalize (x%2==0)=fw;obtain⟨l,hl⟩:=aI hv;rw[Qb hl];rcases ok.kinds l (aQ hl) with hp|hc
  .obtain⟨h1,h2⟩:=Fy ok hl hp;rw[GS hl hp,hp];by_cases d:(dn ls v==fw)=true
   .rw[if_pos d,d,show 2*ls.length+2*(aC ls).idxOf v=2*(ls.length+(aC ls).idxOf v) by omega,tk];unfold zU;rw[if_pos aa];have:(2*(ls.length+(aC ls).idxOf v)+1)%2=1:=aa;rw[this];rfl
   rw[if_neg d,Bool.eq_false_iff.2 d,show 2*ls.length+2*(((aC ls).idxOf v+(aC ls).length-1)%(aC ls).length)+1=2*(ls.length+((aC ls).idxOf v+(aC ls).length-1)%(aC ls).length)+1 by omega,zT];unfold zU;rw[if_pos aa];have:(2*(ls.length+((aC ls).idxOf v+(aC ls).length-1)%(aC ls).length))%2=0:=aa;rw[this];rfl
  obtain⟨h1,m,hm,mc,mi,mo,ms⟩:=pW ok.cr hl hc;have hp:l.ay=false:=by cases hp:l.ay;rfl;rw[mA hp] at hc;cases hc
  have hq:m.ay=false:=by cases hp:m.ay;rfl;rw[mA hp] at mc;cases mc
  rw[yE hl hc,xk,Qb hm,hp,hq];rfl
 have hE:qJ ls x=true:=by unfold qJ;simpa using c
 rw[hE];rcases sH x with d|d
 .have hk:=dw ((x-2*ls.length)/2+1) (show 0<(aC ls).length by omega);obtain⟨l,hl,hp⟩:=yU hk;have e:zU ls x=false:=by unfold zU;rw[if_pos c,d];rfl
  rw[e,show x=2*ls.length+2*((x-2*ls.length)/2) by omega,Fh,xk,Bool.not_not];rw[Qb hl,hp];simp
 have hk:(x-2*ls.length)/2<(aC ls).length:=aa;obtain⟨l,hl,hp⟩:=yU hk;have e:zU ls x=true:=by unfold zU;rw[if_pos c,d];rfl
 rw[e,show x=2*ls.length+2*((x-2*ls.length)/2)+1 by omega,Fg,xk];rw[Qb hl,hp];cases dn ls ((aC ls).getD ((x-2*ls.length)/2) 0)<;>rfl
abbrev axR(ls:List Let):Nat->Nat->Prop:=u5 ls (qJ ls)
theorem Xf(g:ct F ls){s:Nat}(hx:x<2*ls.length)(hs:s<2):aW (axR ls) (2*x+s) (fx (dn ls (x/2+1)!=dn ls 1) s):=by
 have ok:=g.ok;have m:=maps ok;have hN:=CI ls;have hp:=Xp (ls:=ls);have str:∀y,y<2*ls.length->qJ ls y=false:=fun y hy=>by unfold qJ;simp;omega
 have fwd:∀i,i<ls.length->∀s,s<2->aW (axR ls) (2*(2*i)+s) (fx (dn ls (i+1)!=dn ls 1) s):=by
  intro i
  induction i with
  |zero=>intro _ s _;simp only[jc];cases dn ls 1<;>(rw[show 2*(2*0)+s=s by omega];exact .refl _)
  |succ i ih=>
   intro hi s hs;obtain⟨l,hl⟩:=aI hi;have e:2*i=gQ ls.length (i+1) true:=by unfold gQ;rw[if_pos rfl,show i+1+ls.length-1=i+ls.length by omega,uX,fK aa]
   have cA:=Wb ok hi true;rw[<- e] at cA;have h2:2*i<nD ls:=aa;have h4:=m.lt _ h2;have h6:rv (aO ls (2*i))<nD ls:=by rw[hN] at h4 ⊢;exact vG h4
   have step:∀t,t<2->aW (axR ls) (2*(2*i)+t) (2*(2*(i+1))+fx (qJ ls (aO ls (2*i))) t):=fun t ht=>by have a1:=KQ hp h2 ht;have a2:=N4 hp h4 ht;have a3:=KQ hp h6 (s:=fx (qJ ls (aO ls (2*i))) t) (zi ht);rw[cA] at a3;exact a1.trans (a2.trans a3)
   have h7:=(step (fx (qJ ls (aO ls (2*i))) s) (zi hs)).symm.trans (ih aa (fx (qJ ls (aO ls (2*i))) s) (zi hs));rw[Is hs,aap _ _ hs] at h7;rcases ok.kinds l (aQ hl) with bh|hc
   .have h1:=(Fy ok hl bh).1;have hx:qJ ls (aO ls (2*i))=true:=by
     rw[e,GS hl bh];unfold qJ;simp only[decide_eq_true_eq];split<;>omega
    rw[hx] at h7;rw[DE hl bh];have:((dn ls (i+1)!=dn ls 1)!=true)=((!dn ls (i+1))!=dn ls 1):=by cases dn ls (i+1)<;>cases dn ls 1<;>rfl
    rw[this] at h7;exact h7
   obtain⟨_,w,hw,mc,_,_,_⟩:=pW ok.cr hl hc;have bh:l.ay=false:=by cases hp:l.ay;rfl;rw[mA hp] at hc;cases hc
   have hx:qJ ls (aO ls (2*i))=false:=by rw[e,yE hl hc];exact str _ (Fv (aV.1 hw).1)
   rw[hx] at h7;rw[Ig hl bh];have:((dn ls (i+1)!=dn ls 1)!=false)=(dn ls (i+1)!=dn ls 1):=by cases dn ls (i+1)<;>cases dn ls 1<;>rfl
   rw[this] at h7;exact h7
 rcases sH x with c|c
 .have:=fwd (x/2) aa s hs;rwa[show 2*(x/2)=x by omega] at this
 have h1:=fwd (x/2) aa s hs;have h2:=N4 (ls:=ls) hp (x:=2*(x/2)) aa hs;rw[tk,str _ aa] at h2;have h3:fx false s=s:=rfl;rw[h3,show 2*(x/2)+1=x by omega] at h2;exact h2.symm.trans h1
theorem adU(g:ct F ls){w:List Nat}(hw:w∈fV (aO ls) (nD ls))(hx:x∈w)(hy:y∈w)(h1:x<2*ls.length)(h2:y<2*ls.length):dn ls (x/2+1)=dn ls (y/2+1):=by have hp:=Xp (ls:=ls);have e0:=aia (p:=qJ ls) g hp hw hx hy (s:=0) ae;have e1:=Xf g h1 (s:=0) ae;have e2:=Xf g h2 (s:=0) ae;have e3:=e1.symm.trans (e0.trans e2);have no:¬aW (axR ls) 0 1:=arp g hp (c:=zU ls) fun x hx=>ao2 g.ok hx;revert e3;cases dn ls (x/2+1)<;>cases dn ls (y/2+1)<;>cases dn ls 1<;>intro e3<;>first|rfl|exact absurd e3 no|exact absurd e3.symm no
end
theorem arJ{next:Nat->Nat}(m:yN next n2 N){α:Type}{φ:Nat->α}(hφ:∀x,x<N->φ (next x)=φ x){reps:List Nat}(hr:∀x∈reps,x<N)(hn:(reps.map φ).Nodup):reps.length<=(fV next N).length:=by
 have Mt:=GX next N;have l6:∀x,x<N->∃(i:Nat) (w:List Nat),(fV next N)[i]?=some w/\x∈w/\Aa (fV next N) x=i:=fun x hx=>by obtain⟨w,hw,EB⟩:=Fm.1 (Mt.2 x hx);obtain⟨i,hi⟩:=jy hw;exact⟨i,w,hi,EB,GZ Mt.1 hi EB⟩
 have hcon:∀a b,aW (fun x y=>x<N/\y=next x) a b->φ a=φ b:=fun a b h=>by
  induction h with
  |rel h=>rw[h.2,hφ _ h.1]
  |refl _=>rfl
  |symm _ ih=>exact ih.symm
  |trans _ _ h1 h2=>exact h1.trans h2
 have AQ:∀x,x<N->∀y,y<N->Aa (fV next N) x=Aa (fV next N) y->φ x=φ y:=fun x hx y hy e=>by obtain⟨i,w,hi,EB,e1⟩:=l6 x hx;obtain⟨j,v,hj,hyv,e2⟩:=l6 y hy;rw[e1,e2] at e;subst e;rw[hi] at hj;cases hj;exact hcon x y (Qy m (R:=fun x y=>x<N/\y=next x) (fun z hz=>.rel ⟨hz,rfl⟩) (aQ hi) EB hyv)
 have h1:(reps.map (Aa (fV next N))).Nodup:=by unfold List.Nodup at hn ⊢;rw[Hi] at hn ⊢;refine hn.imp_of_mem fun {x y} hx hy h e=>?_;exact h (AQ x (hr x hx) y (hr y hy) e)
 have h2:∀i∈reps.map (Aa (fV next N)),i∈List.range (fV next N).length:=fun i hi=>by obtain⟨x,hx,rfl⟩:=dr.1 hi;obtain⟨i,w,hi,_,e⟩:=l6 x (hr x hx);rw[e];exact fk.2 (aV.1 hi).1
 have:=Np _ _ h1 h2;rwa[cF,vM] at this
end
end Go.Abs
