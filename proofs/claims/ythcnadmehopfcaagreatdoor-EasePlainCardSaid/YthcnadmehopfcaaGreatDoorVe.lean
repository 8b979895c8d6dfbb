/-
  Walks around faces.
-/
import Derived.Test.YthcnadmehopfcaaGreatDoorWs
set_option linter.all false
set_option maxHeartbeats 16000000
namespace Go.Abs
section
variable{N n2 x:Nat}
theorem Rr{S:List Bool}(h:sn S x=false):x<S.length:=by
 rcases Lf x S.length with h1|h1
 .exact h1
 rw[sn,di,ti h1] at h;cases h
theorem ahZ(next:Nat->Nat):∀(k x:Nat) (S:List Bool),(∀y∈(eV next k x S).1,sn S y=false)/\(eV next k x S).1.Nodup/\ ∀y,sn (eV next k x S).2 y=(sn S y||decide (y∈(eV next k x S).1)):=by
 intro k
 induction k with
 |zero=>intro x S;simp[eV]
 |succ k ih=>
  intro x S;unfold eV;cases hx:S.getD x true with
  |true=>simp
  |false=>
   have hl:=Rr (S:=S) (x:=x) hx;obtain⟨h1,h2,h3⟩:=ih (next x) (S.set x true);simp only[dx,if_false];have gQ:∀y,sn (S.set x true) y=if y=x then true else sn S y:=fun y=>Oi hl;refine⟨fun y hy=>?_,?_,fun y=>?_⟩
   .rcases cM.1 hy with rfl|hy
    .exact hx
    have:=h1 y hy;rw[gQ] at this;split at this
    .cases this
    exact this
   .refine qy.2 ⟨fun hm=>?_,h2⟩;have:=h1 x hm;rw[gQ,aF rfl] at this;cases this
   rw[h3,gQ];by_cases e:y=x
   .subst e;simp
   rw[ay e];have:decide (y∈x::(eV next k (next x) (S.set x true)).1)=decide (y∈(eV next k (next x) (S.set x true)).1):=by simp[e]
   rw[this]
theorem avp(next:Nat->Nat)(N:Nat):∀k,(dG next N k).1.flatten.Nodup/\(∀y,y<N->sn (dG next N k).2 y=decide (y∈(dG next N k).1.flatten))/\(∀y∈(dG next N k).1.flatten,y<N)/\ ∀x,x<k->x<N->sn (dG next N k).2 x=true:=by
 intro k
 induction k with
 |zero=>refine⟨by simp[dG],fun y hy=>?_,by simp[dG],fun x hx=>absurd hx (nE x)⟩;have:(dG next N 0).2=List.replicate N false:=rfl;rw[this,XR hy];simp[dG]
 |succ k ih=>
  obtain⟨h1,h2,h4,h3⟩:=ih;rw[yH];unfold uX;have hlen:=Hr next N k;cases hk:(dG next N k).2.getD k true with
  |true=>
   rw[aF rfl];refine⟨h1,h2,h4,fun x hx Bf=>?_⟩;rcases mU.1 hx with h|rfl
   .exact h3 x h Bf
   exact hk
  |false=>
   rw[ay ae];have hkN:k<N:=by have:=Rr (S:=(dG next N k).2) hk;omega
   obtain⟨g1,g2,g3⟩:=ahZ next ((dG next N k).2.length+1) k (dG next N k).2;have V1:=ahY next ((dG next N k).2.length+1) k (dG next N k).2 (by have:=KP (dG next N k).2;omega);refine⟨?_,fun y hy=>?_,?_,fun x hx Bf=>?_⟩
   .rw[Dw,Dz];refine⟨h1,by simpa using g2,fun y hy z hz=>?_⟩;rintro rfl
    have e1:=g1 y (by simpa using hz);have hyN:=h4 y hy;rw[h2 y hyN] at e1;simp[hy] at e1
   .rw[g3,h2 y hy,Dw,Sc];simp
   .intro y hy;rw[Dw,eD] at hy;rcases hy with hy|hy
    .exact h4 y hy
    have:=Rr (g1 y (by simpa using hy));omega
   rcases mU.1 hx with h|rfl
   .rw[g3,h3 x h Bf];rfl
   exact V1
theorem Ht(next:Nat->Nat)(N:Nat):(gI next N).flatten.Nodup/\ ∀y,y<N->y∈(gI next N).flatten:=by obtain⟨h1,h2,_,h3⟩:=avp next N N;refine⟨h1,fun y hy=>?_⟩;have:=h3 y hy hy;rw[h2 y hy] at this;exact nG this
theorem afv{L:List (List Nat)}(h:L.flatten.Nodup){i j:Nat}{a b:List Nat}(hi:L[i]?=some a)(hj:L[j]?=some b)(ha:x∈a)(hb:x∈b):i=j:=by
 induction L generalizing i j with
 |nil=>simp at hi
 |cons l L ih=>
  rw[lQ,Dz] at h;obtain⟨_,h2,h3⟩:=h;cases i with
  |zero=>
   simp at hi;subst hi;cases j with
   |zero=>rfl
   |succ j=>simp at hj;exact absurd rfl (h3 x ha x (Fm.2 ⟨b,aU hj,hb⟩))
  |succ i=>
   simp at hi;cases j with
   |zero=>simp at hj;subst hj;exact absurd rfl (h3 x hb x (Fm.2 ⟨a,aU hi,ha⟩))
   |succ j=>simp at hj;rw[ih h2 hi hj]
section
variable {F:Nat} {ls:List Let}
theorem abX{j:Nat}{f:Fc}(h:(eL F ls)[j]?=some f):∃w,(gI (aS ls) (nD ls))[j]?=some w/\f=nc F ls w:=by
 unfold eL at h;rw[fQ] at h;cases hw:(gI (aS ls) (nD ls))[j]? with
 |none=>rw[hw] at h;cases h
 |some w=>rw[hw] at h;cases h;exact⟨w,rfl,rfl⟩
theorem alc{i j:Nat}{a b:Fc}{d:Nat}(hi:(eL F ls)[i]?=some a)(hj:(eL F ls)[j]?=some b)(ha:d∈a.cG)(hb:d∈b.cG):i=j:=by obtain⟨v,hv,rfl⟩:=abX hi;obtain⟨w,hw,rfl⟩:=abX hj;rw[IT] at ha hb;exact afv (Ht _ _).1 hv hw (uZ.1 ha).1 (uZ.1 hb).1
theorem ald{d:Nat}(hd:d<2*ls.length):∃(j:Nat) (f:Fc),(eL F ls)[j]?=some f/\d∈f.cG:=by
 have:=(Ht (aS ls) (nD ls)).2 d (by unfold nD;omega);obtain⟨w,hw,hdw⟩:=Fm.1 this;obtain⟨j,hj⟩:=je hw;have mM:(eL F ls)[j]?=some (nc F ls w):=by unfold eL;rw[fQ,hj];rfl
 refine⟨j,nc F ls w,mM,?_⟩;rw[IT];exact uZ.2 ⟨hdw,by simpa using hd⟩
theorem ag2{ds:List Nat}{v:Nat}{d:Nat}:∀ {L:List Nat},d<L.length->(oG L ds v)[d]?=if d∈ds then some v else L[d]? :=by
 induction ds with
 |nil=>intro L _;simp[oG]
 |cons e ds ih=>
  intro L hd;show(oG (L.set e v) ds v)[d]?=_;rw[ih (by simpa using hd),pQ];by_cases h1:d∈ds
  .simp[h1]
  by_cases h2:e=d
  .subst h2;simp[hd]
  have:d≠e:=fun h=>h2 h.symm;simp[h1,h2,this]
theorem apr{d:Nat}:∀ {fs:List Fc} {j:Nat} {L:List Nat},d<L.length->(∀f∈fs,d∉f.cG)->(qt fs j L)[d]?=L[d]? :=by
 intro fs
 induction fs with
 |nil=>intro j L _ _;rfl
 |cons f fs ih=>intro j L hd h;show(qt fs (j+1) (oG L f.cG j))[d]?=_;rw[ih (by rw[Oe];exact hd) fun g hg=>h g (by simp[hg]),ag2 hd,ay (h f af)]
theorem apq{d:Nat}:∀ {fs:List Fc} {j i:Nat} {L:List Nat} {f:Fc},d<L.length->fs[i]?=some f->d∈f.cG->(∀i' f',fs[i']?=some f'->d∈f'.cG->i'=i)->(qt fs j L)[d]?=some (j+i):=by
 intro fs
 induction fs with
 |nil=>intro j i L f _ h;simp at h
 |cons g fs ih=>
  intro j i L f hd hi hf hu;show(qt fs (j+1) (oG L g.cG j))[d]?=_;cases i with
  |zero=>
   simp at hi;subst hi;rw[apr (by rw[Oe];exact hd),ag2 hd,aF hf]
   .rfl
   intro f' hf' Ge;obtain⟨i',uE⟩:=je hf';have:=hu (i'+1) f' (by simpa using uE) Ge;omega
  |succ i=>simp at hi;rw[ih (by rw[Oe];exact hd) hi hf fun i' f' h1 h2=>by have:=hu (i'+1) f' (by simpa using h1) h2;omega];congr 1;omega
theorem left_at{d j:Nat}{f:Fc}(hd:d<2*ls.length)(hf:(eL F ls)[j]?=some f)(hm:d∈f.cG):(og F ls)[d]?=some j:=by unfold og;rw[apq (by simpa using hd) hf hm fun i' f' h1 h2=>alc h1 hf h2 hm];congr 1;omega
theorem abV{d:Nat}(hd:d<2*ls.length):∃j,(eL F ls)[j]?=some (kM F ls d)/\d∈(kM F ls d).cG/\(og F ls)[d]?=some j:=by
 obtain⟨j,f,hf,hm⟩:=ald (F:=F) hd;have hl:=left_at hd hf hm;have e:kM F ls d=f:=by unfold kM;rw[di (l:=og F ls),hl,mV,di,hf,mV]
 exact⟨j,e▸hf,e▸hm,hl⟩
theorem abW{d:Nat}(hd:d<2*ls.length):kM F ls d∈eL F ls:=by obtain⟨j,h1,_⟩:=abV (F:=F) hd;exact aU h1
end
inductive aZ (R:Nat->Nat->Prop):Nat->Nat->Prop
 |rel {a b:Nat}:R a b->aZ R a b
 |refl (a:Nat):aZ R a a
 |symm {a b:Nat}:aZ R a b->aZ R b a
 |trans {a b c:Nat}:aZ R a b->aZ R b c->aZ R a c
theorem aZ.mono{R R':Nat->Nat->Prop}(h:∀a b,R a b->aZ R' a b){y:Nat}(e:aZ R x y):aZ R' x y:=by
 induction e with
 |rel r=>exact h _ _ r
 |refl a=>exact .refl a
 |symm _ ih=>exact .symm ih
 |trans _ _ i1 i2=>exact .trans i1 i2
theorem aZ.inv{R:Nat->Nat->Prop}{α:Type}{f:Nat->α}(h:∀a b,R a b->f a=f b){y:Nat}(e:aZ R x y):f x=f y:=by
 induction e with
 |rel r=>exact h _ _ r
 |refl a=>rfl
 |symm _ ih=>exact ih.symm
 |trans _ _ i1 i2=>exact i1.trans i2
def ld (E:Nat->Nat->Prop)(x:Nat):Prop:=∀y,E x y->x<=y
noncomputable def Bj (E:Nat->Nat->Prop) (x:Nat):Bool:= @decide (ld E x) (Classical.propDecidable _)
theorem JR{E:Nat->Nat->Prop}:Bj E x=true↔ld E x:=by unfold Bj;exact @decide_eq_true_iff _ (Classical.propDecidable _)
noncomputable def K (E:Nat->Nat->Prop) (n:Nat):Nat:=(List.range n).countP (Bj E)
theorem HR{E E':Nat->Nat->Prop}(h:∀x y,E x y↔E' x y)(n:Nat):K E n=K E' n:=by have:E=E':=funext fun x=>funext fun y=>propext (h x y);rw[this]
theorem aa0{p:Nat->Prop}:∀n,p n->∃m,p m/\ ∀k,p k->m<=k:=by
 intro n
 induction n using Nat.strongRecOn with
 |ind n ih=>
  intro h;rcases Classical.em (∃k,k<n/\p k) with ⟨k,hk,hp⟩|dk
  .exact ih k hk hp
  exact⟨n,h,fun k hk=>aiw fun au=>dk ⟨k,au,hk⟩⟩
theorem WX(R:Nat->Nat->Prop)(x:Nat):∃m,aZ R x m/\ld (aZ R) m/\m<=x:=by obtain⟨m,h1,h2⟩:=aa0 (p:=fun y=>aZ R x y) x (.refl x);exact⟨m,h1,fun y hy=>h2 y (h1.trans hy),h2 x (.refl x)⟩
theorem akU{p:Nat->Bool}(hp:p x=true):∀ {l:List Nat},l.Nodup->x∈l->l.countP p=l.countP (fun y=>p y&&y !=x)+1:=by
 intro l
 induction l with
 |nil=>intro _ h;cases h
 |cons a l ih=>
  intro hn hm;obtain⟨h1,h2⟩:=qy.1 hn;rw[xr,xr];by_cases e:a=x
  .subst e;have hc:l.countP p=l.countP (fun y=>p y&&y !=a):=KY fun y hy=>by
    have:(y !=a)=true:=by simp;rintro rfl;exact h1 hy
    simp[this]
   simp[hp,hc]
  have hx:x∈l:=by rcases cM.1 hm with h|h;exact absurd h.symm e;exact h
  rw[ih h2 hx];have:(a !=x)=true:=by simp[e]
  simp only[this,xn];omega
abbrev qB(R:Nat->Nat->Prop)(a b:Nat)(x y:Nat):Prop:=R x y\/(x=a/\y=b)
theorem FX{R:Nat->Nat->Prop}{a b y:Nat}:aZ (qB R a b) x y↔aZ R x y\/(aZ R x a/\aZ R b y)\/(aZ R x b/\aZ R a y):=by
 constructor
 .intro h
  induction h with
  |rel r=>
   rcases r with r|⟨rfl,rfl⟩
   .exact .inl (.rel r)
   exact .inr (.inl ⟨.refl _,.refl _⟩)
  |refl a=>exact .inl (.refl a)
  |symm _ ih=>
   rcases ih with h|⟨h1,h2⟩|⟨h1,h2⟩
   .exact .inl h.symm
   .exact .inr (.inr ⟨h2.symm,h1.symm⟩)
   exact .inr (.inl ⟨h2.symm,h1.symm⟩)
  |trans _ _ i1 i2=>
   rcases i1 with h|⟨h1,h2⟩|⟨h1,h2⟩<;>rcases i2 with k|⟨k1,k2⟩|⟨k1,k2⟩
   .exact .inl (h.trans k)
   .exact .inr (.inl ⟨h.trans k1,k2⟩)
   .exact .inr (.inr ⟨h.trans k1,k2⟩)
   .exact .inr (.inl ⟨h1,h2.trans k⟩)
   .exact .inr (.inl ⟨h1,k2⟩)
   .exact .inl (h1.trans k2)
   .exact .inr (.inr ⟨h1,h2.trans k⟩)
   .exact .inl (h1.trans k2)
   exact .inr (.inr ⟨h1,k2⟩)
 have up:∀ {u v},aZ R u v->aZ (qB R a b) u v:=fun h=>h.mono fun _ _ r=>.rel (.inl r);have ab:aZ (qB R a b) a b:=.rel (.inr ⟨rfl,rfl⟩);rintro (h|⟨h1,h2⟩|⟨h1,h2⟩)
 .exact up h
 .exact(up h1).trans (ab.trans (up h2))
 exact(up h1).trans (ab.symm.trans (up h2))
theorem Sr{R:Nat->Nat->Prop}{a b:Nat}(h:aZ R a b)(n:Nat):K (aZ (qB R a b)) n=K (aZ R) n:=by
 refine HR (fun x y=>?_) n;rw[FX];constructor
 .rintro (k|⟨h1,h2⟩|⟨h1,h2⟩)
  .exact k
  .exact h1.trans (h.trans h2)
  exact h1.trans (h.symm.trans h2)
 exact .inl
theorem YL{E E':Nat->Nat->Prop}{n m:Nat}(hm:m<n)(h0:ld E m)(h:∀x,ld E' x↔ld E x/\x≠m):K E n=K E' n+1:=by unfold K;rw[akU (p:=Bj E) (x:=m) (JR.2 h0) DA (gA.2 hm)];congr 1;refine KY fun x _=>?_;rw[JR,h,cN,JR];simp
theorem Sq{R:Nat->Nat->Prop}{a b n:Nat}(ha:a<n)(hb:b<n)(h:¬aZ R a b):K (aZ R) n=K (aZ (qB R a b)) n+1:=by
 obtain⟨p,p1,p2,p3⟩:=WX R a;obtain⟨q,q1,q2,q3⟩:=WX R b;have hpq:p≠q:=fun e=>h (p1.trans (e▸q1.symm));rcases YH hpq with c|c
 .refine YL (m:=q) aa q2 fun x=>⟨fun hx=>⟨fun y hy=>hx y (FX.2 (.inl hy)),?_⟩,fun⟨hx,hxq⟩ y hy=>?_⟩
  .rintro rfl
   have:=hx p (FX.2 (.inr (.inr ⟨q1.symm,p1⟩)));omega
  rcases FX.1 hy with hy|⟨h1,h2⟩|⟨h1,h2⟩
  .exact hx y hy
  .have e1:=hx p (h1.trans p1);have e2:=q2 y (q1.symm.trans h2);omega
  have e1:=hx q (h1.trans q1);have e2:=q2 x (q1.symm.trans h1.symm);omega
 refine YL (m:=p) aa p2 fun x=>⟨fun hx=>⟨fun y hy=>hx y (FX.2 (.inl hy)),?_⟩,fun⟨hx,hxq⟩ y hy=>?_⟩
 .rintro rfl
  have:=hx q (FX.2 (.inr (.inl ⟨p1.symm,q1⟩)));omega
 rcases FX.1 hy with hy|⟨h1,h2⟩|⟨h1,h2⟩
 .exact hx y hy
 .have e1:=hx p (h1.trans p1);have e2:=p2 x (p1.symm.trans h1.symm);omega
 have e1:=hx q (h1.trans q1);have e2:=p2 y (p1.symm.trans h2);omega
theorem ON{R:Nat->Nat->Prop}{α:Type}{f:Nat->α}(h:∀a b,R a b->f a=f b){n:Nat}{reps:List Nat}(hr:∀x∈reps,x<n)(hn:(reps.map f).Nodup):reps.length<=K (aZ R) n:=by
 have key:∀reps:List Nat,(∀x∈reps,x<n)->(reps.map f).Nodup->∃L:List Nat,L.length=reps.length/\L.Nodup/\(∀m∈L,m<n/\ld (aZ R) m)/\ ∀m∈L,f m∈reps.map f:=by
  intro reps
  induction reps with
  |nil=>intro _ _;exact⟨[],rfl,uh,af,af⟩
  |cons a r ih=>
   intro hr hn;rw[dK,qy] at hn;obtain⟨L,l1,l2,l3,l4⟩:=ih (fun x hx=>hr x (by simp[hx])) hn.2;obtain⟨m,m1,m2,m3⟩:=WX R a;have hfm:f m=f a:=(m1.inv h).symm;have ha:=hr a af;refine⟨m::L,by simp[l1],qy.2 ⟨fun hm=>hn.1 (hfm▸l4 m hm),l2⟩,fun x hx=>?_,fun x hx=>?_⟩
   .rcases cM.1 hx with rfl|hx
    .exact⟨aa,m2⟩
    exact l3 x hx
   rcases cM.1 hx with rfl|hx
   .rw[hfm];simp
   rw[dK];exact ug _ (l4 x hx)
 obtain⟨L,l1,l2,l3,_⟩:=key reps hr hn;rw[<- l1];unfold K;rw[Sd];have sub:∀(L M:List Nat),L.Nodup->(∀x∈L,x∈M)->L.length<=M.length:=by
  intro L
  induction L with
  |nil=>intro M _ _;exact bl _
  |cons a L ih=>intro M hn hs;obtain⟨h1,h2⟩:=qy.1 hn;have ha:=hs a af;have:=ih (M.erase a) h2 fun x hx=>(Yz (by rintro rfl;exact h1 hx)).2 (hs x (by simp[hx]));rw[Yw ha] at this;have:0<M.length:=OE ha;simp only[dh];omega
 exact sub L _ l2 fun x hx=>uZ.2 ⟨gA.2 (l3 x hx).1,JR.2 (l3 x hx).2⟩
theorem YN{R:Nat->Nat->Prop}{n:Nat}(h:∀x,x<n->aZ R x 0):K (aZ R) n<=1:=by
 unfold K;have hz:∀x∈List.range n,Bj (aZ R) x=true->x=0:=fun x hx hl=>by have:=JR.1 hl 0 (h x (gA.1 hx));omega
 have:∀l:List Nat,l.Nodup->(∀x∈l,Bj (aZ R) x=true->x=0)->l.countP (Bj (aZ R))<=1:=by
  intro l
  induction l with
  |nil=>intro _ _;simp
  |cons a l ih=>
   intro hn hl;obtain⟨h1,h2⟩:=qy.1 hn;rw[xr];by_cases c:Bj (aZ R) a=true
   .have ha:=hl a af c;subst ha;have:l.countP (Bj (aZ R))=0:=Fk.2 fun x hx vG=>h1 (by have:=hl x (by simp[hx]) vG;subst this;exact hx);simp[c,this]
   have:=ih h2 fun x hx=>hl x (by simp[hx]);simp[c,this]
 exact this _ DA hz
structure Perm (n:Nat) (p:Nat->Nat):Prop where
 lt:∀x,x<n->p x<n
 inj:∀x y,x<n->y<n->p x=p y->x=y
abbrev gr(n:Nat)(p:Nat->Nat)(x y:Nat):Prop:=x<n/\y=p x
def tr (p:Nat->Nat)(t:Nat×Nat)(x:Nat):Nat:=if x=t.1 then p t.2 else if x=t.2 then p t.1 else p x
theorem KL(p:Nat->Nat)(a b x:Nat):tr p (a,b) x=p (if x=a then b else if x=b then a else x):=by
 unfold tr;simp only;split
 .rfl
 split<;>rfl
theorem Perm.tr{n:Nat}{p:Nat->Nat}(h:Perm n p){a b:Nat}(ha:a<n)(hb:b<n):Perm n (tr p (a,b)):=by
 have hs:∀x,x<n->(if x=a then b else if x=b then a else x)<n:=fun x hx=>by split<;>(try split)<;>assumption
 refine⟨fun x hx=>by rw[KL];exact h.lt _ (hs x hx),fun x y hx hy e=>?_⟩;rw[KL,KL] at e;have e:=h.inj _ _ (hs x hx) (hs y hy) e;by_cases x1:x=a
 .rw[aF x1] at e;by_cases y1:y=a
  .omega
  rw[ay y1] at e;split at e<;>omega
 rw[ay x1] at e;by_cases y1:y=a
 .rw[aF y1] at e;split at e<;>omega
 rw[ay y1] at e;split at e<;>split at e<;>omega
def it (p:Nat->Nat):Nat->Nat->Nat
 |0,x=>x
 |k+1,x=>p (it p k x)
theorem Perm.GI{n:Nat}{p:Nat->Nat}(h:Perm n p)(hx:x<n):∀k,it p k x<n:=by
 intro k
 induction k with
 |zero=>exact hx
 |succ k ih=>exact h.lt _ ih
theorem Perm.back{n:Nat}{p:Nat->Nat}(h:Perm n p)(hx:x<n):∀i j,it p (i+j) x=it p i x->it p j x=x:=by
 intro i
 induction i with
 |zero=>intro j e;rw[iQ] at e;exact e
 |succ i ih=>intro j e;rw[show i+1+j=(i+j)+1 by omega] at e;exact ih j (h.inj _ _ (h.GI hx _) (h.GI hx _) e)
theorem KG:∀(L M:List Nat),L.Nodup->(∀x∈L,x∈M)->L.length<=M.length:=by
 intro L
 induction L with
 |nil=>intro M _ _;exact bl _
 |cons a L ih=>intro M hn hs;obtain⟨h1,h2⟩:=qy.1 hn;have ha:=hs a af;have:=ih (M.erase a) h2 fun x hx=>(Yz (by rintro rfl;exact h1 hx)).2 (hs x (by simp[hx]));rw[Yw ha] at this;have:0<M.length:=OE ha;simp only[dh];omega
theorem Perm.aau{n:Nat}{p:Nat->Nat}(h:Perm n p)(hx:x<n):∃m,it p (m+1) x=x:=by
 apply Classical.byContradiction;intro dk;have key:∀k,((List.range k).map fun i=>it p i x).Nodup:=by
  intro k
  induction k with
  |zero=>simp
  |succ k ih=>rw[we,j6,Dz];refine⟨ih,af,fun a ha b hb=>?_⟩;obtain⟨i,hi,rfl⟩:=dp.1 ha;have hi:=gA.1 hi;simp only[dK,j7,lD] at hb;subst hb;intro e;have:=h.back hx i (k-i) (by rw[show i+(k-i)=k by omega];exact e.symm);exact dk ⟨k-i-1,by rw[show k-i-1+1=k-i by omega];exact this⟩
 have:=KG _ (List.range n) (key (n+1)) fun y hy=>by obtain⟨i,_,rfl⟩:=dp.1 hy;exact gA.2 (h.GI hx i)
 rw[cD,Dy,Dy] at this;omega
theorem adO(p:Nat->Nat)(x:Nat):∀k,it p (k+1) x=it p k (p x):=by
 intro k
 induction k with
 |zero=>rfl
 |succ k ih=>show p (it p (k+1) x)=p (it p k (p x));rw[ih]
theorem ahH{n:Nat}{p:Nat->Nat}(h:Perm n p){a b:Nat}(ha:a<n)(hb:b<n)(eH:¬aZ (gr n p) a b):aZ (gr n (tr p (a,b))) a b:=by
 obtain⟨m,hm⟩:=h.aau hb;have e0:tr p (a,b) a=p b:=by unfold tr;rw[aF rfl]
 have bR:∀k,aZ (gr n p) b (it p k b):=by
  intro k
  induction k with
  |zero=>exact .refl _
  |succ k ih=>exact ih.trans (.rel ⟨h.GI hb k,rfl⟩)
 have key:∀k,aZ (gr n (tr p (a,b))) a b\/aZ (gr n (tr p (a,b))) a (it p k (p b)):=by
  intro k
  induction k with
  |zero=>exact .inr (.rel ⟨ha,e0.symm⟩)
  |succ k ih=>
   rcases ih with ih|ih
   .exact .inl ih
   by_cases c:it p k (p b)=b
   .rw[c] at ih;exact .inl ih
   refine .inr (ih.trans (.rel ⟨h.GI (h.lt _ hb) k,?_⟩));have na:it p k (p b)≠a:=fun e=>eH (by have:=bR (k+1);rw[adO,e] at this;exact this.symm)
   unfold tr;rw[ay na,ay c];rfl
 rcases key m with k|k
 .exact k
 rw[<- adO,hm] at k;exact k
theorem Sz{n:Nat}{p:Nat->Nat}{a b:Nat}(ha:a<n)(hb:b<n){S:Nat->Nat->Prop}{x y:Nat}:aZ (qB (fun x y=>gr n (tr p (a,b)) x y\/S x y) a b) x y↔aZ (qB (fun x y=>gr n p x y\/S x y) a b) x y:=by
 have ab:∀R:Nat->Nat->Prop,aZ (qB R a b) a b:=fun R=>.rel (.inr ⟨rfl,rfl⟩);constructor
 .refine aZ.mono fun u v r=>?_;rcases r with (⟨hu,rfl⟩|s)|⟨rfl,rfl⟩
  .unfold tr;simp only;by_cases c:u=a
   .subst c;rw[aF rfl];exact(ab _).trans (.rel (.inl (.inl ⟨hb,rfl⟩)))
   rw[ay c];by_cases d:u=b
   .subst d;rw[aF rfl];exact(ab _).symm.trans (.rel (.inl (.inl ⟨ha,rfl⟩)))
   rw[ay d];exact .rel (.inl (.inl ⟨hu,rfl⟩))
  .exact .rel (.inl (.inr s))
  exact ab _
 refine aZ.mono fun u v r=>?_;rcases r with (⟨hu,rfl⟩|s)|⟨rfl,rfl⟩
 .by_cases c:u=a
  .subst c;refine(ab _).trans (.rel (.inl (.inl ⟨hb,?_⟩)));unfold tr;simp only;by_cases d:b=u
   .rw[aF d,d]
   rw[ay d];simp
  by_cases d:u=b
  .subst d;refine(ab _).symm.trans (.rel (.inl (.inl ⟨ha,?_⟩)));unfold tr;rw[aF rfl]
  refine .rel (.inl (.inl ⟨hu,?_⟩));unfold tr;rw[ay c,ay d]
 .exact .rel (.inl (.inr s))
 exact ab _
abbrev inT(ts:List (Nat×Nat))(x y:Nat):Prop:=(x,y)∈ts
abbrev xL(n:Nat)(p:Nat->Nat)(ts:List (Nat×Nat))(x y:Nat):Prop:=gr n p x y\/inT ts x y
theorem aaR{n:Nat}:∀(ts:List (Nat×Nat)) (p:Nat->Nat),Perm n p->(∀t∈ts,t.1<n/\t.2<n)->
  K (aZ (gr n (ts.foldl tr p))) n+K (aZ (gr n p)) n<=2*K (aZ (xL n p ts)) n+ts.length:=by
 intro ts
 induction ts with
 |nil=>
  intro p _ _;have:K (aZ (xL n p [])) n=K (aZ (gr n p)) n:=HR (fun x y=>⟨aZ.mono (R:=xL n p []) (R':=gr n p) (fun u v r=>by
   rcases r with r|r
   .exact .rel r
   cases r),aZ.mono (R:=gr n p) (R':=xL n p []) (fun u v r=>.rel (.inl r))⟩) n
  rw[this];simp only[Sg,ez];omega
 |cons t ts ih=>
  intro p hp ht;obtain⟨a,b⟩:=t;obtain⟨ha,hb⟩:=ht (a,b) af
  replace ha:a<n:=ha
  replace hb:b<n:=hb
  have ih:=ih (tr p (a,b)) (hp.tr ha hb) fun t h=>ht t (by simp[h]);have all:∀x y,aZ (xL n p ((a,b)::ts)) x y↔aZ (qB (xL n (tr p (a,b)) ts) a b) x y:=fun x y=>by
   refine Iff.trans ⟨aZ.mono fun u v r=>?_,aZ.mono fun u v r=>?_⟩ (Sz (S:=inT ts) ha hb).symm
   .rcases r with r|r
    .exact .rel (.inl (.inl r))
    rcases cM.1 r with r|r
    .cases r;exact .rel (.inr ⟨rfl,rfl⟩)
    exact .rel (.inl (.inr r))
   rcases r with (r|r)|⟨rfl,rfl⟩
   .exact .rel (.inl r)
   .exact .rel (.inr (ug _ r))
   exact .rel (.inr (La ..))
  have one:∀x y,aZ (qB (gr n (tr p (a,b))) a b) x y↔aZ (qB (gr n p) a b) x y:=fun x y=>by have h:=Sz (p:=p) (S:=fun _ _=>False) ha hb (x:=x) (y:=y);have e:∀q:Nat->Nat,(fun x y=>gr n q x y\/False)=gr n q:=fun q=>funext fun x=>funext fun y=>propext af;rw[e,e] at h;exact h
  rw[HR all];simp only[Ap,dh];have kj:K (aZ (qB (gr n (tr p (a,b))) a b)) n=K (aZ (qB (gr n p) a b)) n:=HR one n;have sm:∀R:Nat->Nat->Prop,aZ R a b->K (aZ (qB R a b)) n=K (aZ R) n:=fun R h=>Sr h n;have jn:∀R:Nat->Nat->Prop,¬aZ R a b->K (aZ R) n=K (aZ (qB R a b)) n+1:=fun R h=>Sq ha hb h;rcases Classical.em (aZ (gr n p) a b) with c|c
  .have k1:=sm _ c;rcases Classical.em (aZ (gr n (tr p (a,b))) a b) with d|d
   .have k2:=sm _ d;have k3:=sm _ (d.mono (R':=xL n (tr p (a,b)) ts) fun u v r=>.rel (.inl r));omega
   have k2:=jn _ d;rcases Classical.em (aZ (xL n (tr p (a,b)) ts) a b) with d2|d2
   .have k3:=sm _ d2;omega
   have k3:=jn _ d2;omega
  have k1:=jn _ c;have d:=ahH hp ha hb c;have k2:=sm _ d;have k3:=sm _ (d.mono (R':=xL n (tr p (a,b)) ts) fun u v r=>.rel (.inl r));omega
def rv (x:Nat):Nat:=if x%2=0 then x+1 else x-1
theorem rW(k:Nat):rv (2*k)=2*k+1:=by unfold rv;rw[aF aa]
theorem xf(k:Nat):rv (2*k+1)=2*k:=by unfold rv;rw[ay aa];rfl
theorem xh(x:Nat):rv (rv x)=x:=by
 rcases wm x with h|h
 .rw[show x=2*(x/2) by omega,rW,xf]
 rw[show x=2*(x/2)+1 by omega,xf,rW]
theorem yD{m:Nat}(h:x<2*m):rv x<2*m:=by unfold rv;split<;>omega
theorem agT(x:Nat):rv x/2=x/2:=by unfold rv;split<;>omega
theorem tX(n v:Nat)(g:Bool):rv (dr n v g)=eE n v (!g):=by
 cases g with
 |true=>exact rW _
 |false=>exact xf _
theorem asZ(n v:Nat)(g:Bool):rv (eE n v g)=dr n v (!g):=by
 cases g with
 |true=>exact rW _
 |false=>exact xf _
theorem r8{n v:Nat}(hv:v<n)(g:Bool):eE n v g<2*n:=by have:=dO (v+n-1) (show 0<n by omega);unfold eE;split<;>omega
theorem Lp{n:Nat}(hx:x<2*n):x=eE n (if x%2=0 then (x/2+1)%n else x/2) (x%2==0):=by
 unfold eE;rcases wm x with h|h
 .simp only[h,BS,if_true];rw[EP aa];omega
 simp only[h,show((1:Nat)==0)=false from rfl,dx,if_false,Sn];omega
section
variable {F:Nat} {ls:List Let}
theorem ahM{v:Nat}{l:Let}(hl:ls[v]?=some l)(fw:Bool):aS ls (eE ls.length v fw)=if l.kind==2 then dr ls.length (fG ls v) (fw==(l.over==(l.sign==1)))
   else if dn ls v==fw then 2*ls.length+2*(aB ls).idxOf v else 2*ls.length+2*(((aB ls).idxOf v+(aB ls).length-1)%(aB ls).length)+1:=by
 have hv:=(aW.1 hl).1;have au:=r8 hv fw;refine ahL aa ?_ ?_ hl
 .unfold eE;cases fw<;>simp
 unfold eE;cases fw with
 |true=>simp only[if_true];rw[show 2*((v+ls.length-1)%ls.length)/2=(v+ls.length-1)%ls.length by omega,w9 hv]
 |false=>simp only[dx,if_false];omega
theorem BK{v:Nat}{l:Let}(hl:ls[v]?=some l)(hc:l.aC=true)(fw:Bool):aS ls (eE ls.length v fw)=dr ls.length (fG ls v) (fw==(l.over==(l.sign==1))):=by rw[ahM hl];unfold Let.aC at hc;rw[aF hc]
theorem BM{v:Nat}{l:Let}(hl:ls[v]?=some l)(hp:l.aG=true)(fw:Bool):aS ls (eE ls.length v fw)=if dn ls v==fw then 2*ls.length+2*(aB ls).idxOf v else 2*ls.length+2*(((aB ls).idxOf v+(aB ls).length-1)%(aB ls).length)+1:=by have:=nz hp;unfold Let.aC at this;rw[ahM hl,ay (by rw[this];decide)]
theorem Dq(k:Nat):aS ls (2*ls.length+2*k)=dr ls.length ((aB ls).getD ((k+1)%(aB ls).length) 0) (!dn ls ((aB ls).getD ((k+1)%(aB ls).length) 0)):=by show gH _ _ _=_;unfold gH;rw[aF aa,aF aa,show(2*ls.length+2*k-2*ls.length)/2=k by omega]
theorem Dp(k:Nat):aS ls (2*ls.length+2*k+1)=dr ls.length ((aB ls).getD k 0) (dn ls ((aB ls).getD k 0)):=by show gH _ _ _=_;unfold gH;rw[aF aa,ay aa,show(2*ls.length+2*k+1-2*ls.length)/2=k by omega]
theorem DH{k:Nat}(hk:k<(aB ls).length):∃l,ls[(aB ls).getD k 0]?=some l/\l.aG=true:=by obtain⟨v,hv⟩:=aM hk;rw[di,hv,mV];exact tu.1 (aU hv)
theorem Ig{v:Nat}{l:Let}(ok:eX F ls)(hl:ls[v]?=some l)(hp:l.aG=true):(aB ls).idxOf v<(aB ls).length/\(aB ls).getD ((aB ls).idxOf v) 0=v:=by have h1:=SN ok.ax hl hp;rw[Ij ok.ax hl hp];exact⟨(aW.1 h1).1,by rw[di,h1];rfl⟩
theorem ahx(ok:eX F ls){v:Nat}(hv:v<ls.length)(fw:Bool):aS ls (rv (aS ls (eE ls.length v fw)))=dr ls.length v fw:=by
 obtain⟨l,hl⟩:=aM hv;rcases ok.kinds l (aU hl) with hp|hc
 .obtain⟨h1,h2⟩:=Ig ok hl hp;rw[BM hl hp];by_cases c:(dn ls v==fw)=true
  .rw[aF c,show 2*ls.length+2*(aB ls).idxOf v=2*(ls.length+(aB ls).idxOf v) by omega,rW,show 2*(ls.length+(aB ls).idxOf v)+1=2*ls.length+2*(aB ls).idxOf v+1 by omega,Dp,h2];rw[eq_of_beq c]
  rw[ay c];have c:dn ls v= !fw:=by revert c;cases dn ls v<;>cases fw<;>simp
  have hm:=dO ((aB ls).idxOf v+(aB ls).length-1) (show 0<(aB ls).length by omega);rw[show 2*ls.length+2*(((aB ls).idxOf v+(aB ls).length-1)%(aB ls).length)+1=2*(ls.length+((aB ls).idxOf v+(aB ls).length-1)%(aB ls).length)+1 by omega,xf,
   show 2*(ls.length+((aB ls).idxOf v+(aB ls).length-1)%(aB ls).length)=2*ls.length+2*(((aB ls).idxOf v+(aB ls).length-1)%(aB ls).length) by omega,Dq,w9 h1,h2,c,Fj]
 obtain⟨h1,m,hm,mc,mi,mo,ms⟩:=qW ok.cr hl hc;rw[BK hl hc,tX,BK hm mc,h1,mo,ms];cases fw<;>cases l.over<;>cases (l.sign==1)<;>rfl
def sG(ls:List Let)(x:Nat):Nat:=
 if 2*ls.length<=x then (if x%2=0 then (aB ls).getD (((x-2*ls.length)/2+1)%(aB ls).length) 0 else (aB ls).getD ((x-2*ls.length)/2) 0)
 else if x%2=0 then (x/2+1)%ls.length else x/2
def Fw(ls:List Let)(x:Nat):Bool:=decide (2*ls.length<=x)||(match ls[sG ls x]? with|some l=>l.aC&&l.over|none=>false)
def jO(ls:List Let)(i:Nat):Int×Int:=match ls[i]? with|some l=>if l.aC then (1,l.id) else (0,i)|none=>(2,0)
theorem Cy{v:Nat}(hv:v<ls.length)(fw:Bool):sG ls (eE ls.length v fw)=v:=by
 have au:=r8 hv fw;unfold sG;rw[ay aa];unfold eE;cases fw with
 |true=>simp only[if_true];rw[aF aa,show 2*((v+ls.length-1)%ls.length)/2=(v+ls.length-1)%ls.length by omega,w9 hv]
 |false=>simp only[dx,if_false];rw[ay aa];omega
theorem Sw{v:Nat}{l:Let}(hl:ls[v]?=some l)(fw:Bool):Fw ls (eE ls.length v fw)=(l.aC&&l.over):=by have hv:=(aW.1 hl).1;have au:=r8 hv fw;unfold Fw;rw[Cy hv,hl];have:¬2*ls.length<=eE ls.length v fw:=aa;simp[this]
theorem ac2(k:Nat):sG ls (2*ls.length+2*k)=(aB ls).getD ((k+1)%(aB ls).length) 0:=by unfold sG;rw[aF aa,aF aa,show(2*ls.length+2*k-2*ls.length)/2=k by omega]
theorem ac1(k:Nat):sG ls (2*ls.length+2*k+1)=(aB ls).getD k 0:=by unfold sG;rw[aF aa,ay aa,show(2*ls.length+2*k+1-2*ls.length)/2=k by omega]
theorem Sx(h:2*ls.length<=x):Fw ls x=true:=by unfold Fw;simp[h]
theorem ahN(ok:eX F ls)(hx:x<nD ls):jO ls (sG ls (rv (aS ls x)))=jO ls (sG ls x)/\Fw ls (rv (aS ls x))= !Fw ls x:=by
 unfold nD at hx;rcases Lf x (2*ls.length) with c|c
 .have hv:(if x%2=0 then (x/2+1)%ls.length else x/2)<ls.length:=by
   have:=dO (x/2+1) (show 0<ls.length by omega);split<;>omega
  rw[Lp c];generalize (if x%2=0 then (x/2+1)%ls.length else x/2)=v at hv;generalize (x%2==0)=fw;obtain⟨l,hl⟩:=aM hv;rw[Cy hv,Sw hl];rcases ok.kinds l (aU hl) with hp|hc
  .obtain⟨h1,h2⟩:=Ig ok hl hp;rw[nz hp,BM hl hp];by_cases d:(dn ls v==fw)=true
   .rw[aF d,show 2*ls.length+2*(aB ls).idxOf v=2*(ls.length+(aB ls).idxOf v) by omega,rW,show 2*(ls.length+(aB ls).idxOf v)+1=2*ls.length+2*(aB ls).idxOf v+1 by omega,ac1,h2,Sx aa];exact⟨rfl,rfl⟩
   rw[ay d,show 2*ls.length+2*(((aB ls).idxOf v+(aB ls).length-1)%(aB ls).length)+1=2*(ls.length+((aB ls).idxOf v+(aB ls).length-1)%(aB ls).length)+1 by omega,xf,
    show 2*(ls.length+((aB ls).idxOf v+(aB ls).length-1)%(aB ls).length)=2*ls.length+2*(((aB ls).idxOf v+(aB ls).length-1)%(aB ls).length) by omega,ac2,w9 h1,h2,Sx aa]
   exact⟨rfl,rfl⟩
  obtain⟨h1,m,hm,mc,mi,mo,ms⟩:=qW ok.cr hl hc;have hw:=(aW.1 hm).1;rw[BK hl hc,tX,Cy hw,Sw hm];unfold jO;simp[hl,hm,hc,mc,mi,mo]
 rw[Sx c];have key:∀k,k<(aB ls).length->∀g,jO ls (sG ls (rv (dr ls.length ((aB ls).getD k 0) g)))=jO ls ((aB ls).getD k 0)/\Fw ls (rv (dr ls.length ((aB ls).getD k 0) g))= !true:=fun k hk g=>by obtain⟨l,hl,hp⟩:=DH hk;rw[tX,Cy (aW.1 hl).1,Sw hl,nz hp];exact⟨rfl,rfl⟩
 rcases wm x with d|d
 .rw[show x=2*ls.length+2*((x-2*ls.length)/2) by omega,Dq,ac2];exact key _ (dO _ aa) _
 rw[show x=2*ls.length+2*((x-2*ls.length)/2)+1 by omega,Dp,ac1];exact key _ aa _
end
theorem avf{next:Nat->Nat}{R:Nat->Nat->Prop}(au:∀x,x<N->next x<N)(h:∀x,x<N->aZ R x (next x)):∀(k x:Nat) (S:List Bool),x<N->∀y∈(eV next k x S).1,aZ R x y:=by
 intro k
 induction k with
 |zero=>intro x S _ y hy;simp[eV] at hy
 |succ k ih=>
  intro x S hx y hy;unfold eV at hy;split at hy
  .simp at hy
  rcases cM.1 hy with rfl|hy
  .exact .refl _
  exact(h x hx).trans (ih (next x) _ (au x hx) y hy)
theorem avn{next:Nat->Nat}(m:yQ next n2 N){R:Nat->Nat->Prop}(h:∀x,x<N->aZ R x (next x)):∀k,k<=N->∀w∈(dG next N k).1,∀x∈w,∀y∈w,aZ R x y:=by
 intro k
 induction k with
 |zero=>intro _ w hw;simp[dG] at hw
 |succ k ih=>
  intro hk w hw x hx y hy;rw[yH] at hw;unfold uX at hw;split at hw
  .exact ih aa w hw x hx y hy
  rcases eD.1 hw with hw|hw
  .exact ih aa w hw x hx y hy
  simp only[lD] at hw;subst hw;have hj:=avf (R:=R) m.lt h ((dG next N k).2.length+1) k (dG next N k).2 aa;exact(hj x hx).symm.trans (hj y hy)
theorem avr{next:Nat->Nat}(m:yQ next n2 N):∀k,k<=n2->∀w∈(dG next N k).1,∀x∈w,next x∈w:=by
 intro k
 induction k with
 |zero=>intro _ w hw;simp[dG] at hw
 |succ k ih=>
  intro hk w hw x hx;obtain⟨c0,_⟩:=R5 m k aa;obtain⟨c1,_⟩:=R5 m (k+1) hk;rw[yH] at hw c1;unfold uX at hw c1;cases hs:(dG next N k).2.getD k true with
  |true=>rw[hs,aF rfl] at hw;exact ih aa w hw x hx
  |false=>
   rw[hs,ay ae] at hw c1;rcases eD.1 hw with hw|hw
   .exact ih aa w hw x hx
   simp only[lD] at hw;subst hw;obtain⟨g1,g2,g3⟩:=ahZ next ((dG next N k).2.length+1) k (dG next N k).2;have Bf:x<N:=by have:=Rr (g1 x hx);have:=Hr next N k;omega
   have e0:=c0 x Bf;have e1:=c1 x Bf;rw[g3,g3,g1 x hx] at e1;rw[g1 x hx] at e0;simp only[BP,hx,decide_true,<- e0] at e1;exact nG e1.symm
theorem Du{next:Nat->Nat}(m:yQ next n2 N){w:List Nat}(hw:w∈gI next N)(hx:x∈w):next x∈w:=by unfold gI at hw;rw[Ye m N m.le (bJ _)] at hw;exact avr m n2 (bJ _) w hw x hx
theorem Yf{next:Nat->Nat}(m:yQ next n2 N){R:Nat->Nat->Prop}(h:∀x,x<N->aZ R x (next x)){w:List Nat}(hw:w∈gI next N){x y:Nat}(hx:x∈w)(hy:y∈w):aZ R x y:=avn m h N (bJ _) w hw x hx y hy
def Aj(L:List (List Nat))(x:Nat):Nat:=L.findIdx fun w=>w.contains x
theorem Hu{L:List (List Nat)}(h:L.flatten.Nodup){i:Nat}{w:List Nat}(hi:L[i]?=some w)(hx:x∈w):Aj L x=i:=by
 have hm:w.contains x=true:=by simpa using hx
 have au:L.findIdx (fun w=>w.contains x)<L.length:=avK ⟨w,aU hi,hm⟩;have hp:=ail (w:=au);have hj:L[L.findIdx fun w=>w.contains x]?=some (L[L.findIdx fun w=>w.contains x]'au):=my au;exact afv h hj hi (by simpa using hp) hx
theorem adE:∀ {L:List (List Nat)},L.flatten.Nodup->(∀w∈L,w≠[])->((L.map (·.headD 0)).map (Aj L))=List.range L.length:=by
 intro L h aI;apply K4;intro i;rw[fQ,fQ];by_cases hi:i<L.length
 .have e:=my hi;rw[e,uf hi];simp only[mz];have hw:=aI _ (aU e);rw[Hu h e (x:=L[i].headD 0) (by
   cases hL:L[i] with
   |nil=>exact absurd hL hw
   |cons a r=>simp)]
 rw[ti aa,ti (by simp;omega)];rfl
theorem ahS{α:Type}{f:Nat->α×Bool}{g:Nat->α}{c:Nat->Bool}(h0:∀x,f (2*x)=(g x,c x))(h1:∀x,f (2*x+1)=(g x,!c x)):∀ {L:List Nat},(L.map g).Nodup->((L.flatMap fun x=>[2*x,2*x+1]).map f).Nodup:=by
 intro L
 induction L with
 |nil=>intro _;exact uh
 |cons a L ih=>
  intro h;rw[dK,qy] at h;have ih:=ih h.2;have dk:∀b,(g a,b)∉(L.flatMap fun x=>[2*x,2*x+1]).map f:=by
   intro b hb;obtain⟨y,hy,e⟩:=dp.1 hb;obtain⟨x,hx,hy⟩:=OG.1 hy;have:g x=g a:=by
    simp only[cM,gC,or_false] at hy;rcases hy with rfl|rfl
    .rw[h0] at e;exact congrArg Prod.fst e
    rw[h1] at e;exact congrArg Prod.fst e
   exact h.1 (dp.2 ⟨x,hx,this⟩)
  rw[aim,j6,Dz];refine⟨?_,ih,?_⟩
  .simp only[dK,j7,h0,h1,qy,lD,gC,not_false_eq_true,uh,and_true];intro e;have:=congrArg Prod.snd e;revert this;cases c a<;>simp
  intro u hu v hv e;subst e;simp only[dK,j7,h0,h1,cM,gC,or_false] at hu;rcases hu with rfl|rfl
  .exact dk _ hv
  exact dk _ hv
theorem ahP:∀L:List Nat,(L.flatMap fun x=>[2*x,2*x+1]).length=2*L.length:=by
 intro L
 induction L with
 |nil=>rfl
 |cons a L ih=>rw[aim,ff,ih];simp only[dh,ez];omega
theorem ahQ{L:List Nat}(h:∀x∈L,x<N):∀y∈(L.flatMap fun x=>[2*x,2*x+1]),y<2*N:=by intro y hy;obtain⟨x,hx,hy⟩:=OG.1 hy;have:=h x hx;simp only[cM,gC,or_false] at hy;rcases hy with rfl|rfl<;>omega
def fx (b:Bool)(s:Nat):Nat:=if b then 1-s else s
theorem DW{b:Bool}{s:Nat}(h:s<2):fx b s<2:=by unfold fx;split<;>omega
theorem Mi{b:Bool}{s:Nat}(h:s<2):fx b (fx b s)=s:=by unfold fx;cases b<;>simp;omega
def mY(p:Nat->Bool)(y:Nat):Nat:=2*rv (y/2)+fx (p (y/2)) (y%2)
def tY(p:Nat->Bool)(nx:Nat->Nat)(y:Nat):Nat:=2*nx (rv (y/2))+fx (p (y/2)) (y%2)
def uV(p:Nat->Bool)(k:Nat):List (Nat×Nat):=(List.range k).flatMap fun e=>[(4*e,mY p (4*e)),(4*e+1,mY p (4*e+1))]
theorem HZ(p:Nat->Bool)(e:Nat):mY p (4*e)=if p (2*e) then 4*e+3 else 4*e+2:=by unfold mY fx;rw[show 4*e/2=2*e by omega,rW,show 4*e%2=0 by omega];split<;>omega
theorem H0(p:Nat->Bool)(e:Nat):mY p (4*e+1)=if p (2*e) then 4*e+2 else 4*e+3:=by unfold mY fx;rw[show(4*e+1)/2=2*e by omega,rW,show(4*e+1)%2=1 by omega];split<;>omega
theorem Zj{p:Nat->Bool}(hp:∀x,p (rv x)=p x)(e:Nat):mY p (4*e+2)=if p (2*e) then 4*e+1 else 4*e:=by unfold mY fx;rw[show(4*e+2)/2=2*e+1 by omega,xf,show(4*e+2)%2=0 by omega,<- hp (2*e),rW];split<;>omega
theorem Zk{p:Nat->Bool}(hp:∀x,p (rv x)=p x)(e:Nat):mY p (4*e+3)=if p (2*e) then 4*e else 4*e+1:=by unfold mY fx;rw[show(4*e+3)/2=2*e+1 by omega,xf,show(4*e+3)%2=1 by omega,<- hp (2*e),rW];split<;>omega
theorem ahJ(p:Nat->Bool)(k:Nat):uV p (k+1)=uV p k++[(4*k,mY p (4*k)),(4*k+1,mY p (4*k+1))]:=by unfold uV;rw[we,List.flatMap_append];simp
theorem au1(p:Nat->Bool)(k:Nat):(uV p k).length=2*k:=by
 induction k with
 |zero=>rfl
 |succ k ih=>rw[ahJ,ff,ih];simp only[dh,ez];omega
theorem au2(p:Nat->Bool)(k:Nat):∀t∈uV p k,t.1<4*k/\t.2<4*k:=by intro t ht;obtain⟨e,he,h⟩:=OG.1 ht;have he:=gA.1 he;simp only[cM,gC,or_false,HZ,H0] at h;rcases h with rfl|rfl<;>refine⟨by simp only;omega,?_⟩<;>simp only<;>split<;>omega
theorem au3(p:Nat->Bool){k e:Nat}(h:e<k):(4*e,mY p (4*e))∈uV p k/\(4*e+1,mY p (4*e+1))∈uV p k:=
 ⟨OG.2 ⟨e,gA.2 h,af⟩,OG.2 ⟨e,gA.2 h,af⟩⟩
theorem au0{p:Nat->Bool}(hp:∀x,p (rv x)=p x)(q:Nat->Nat):∀k y,(uV p k).foldl tr q y=if y<4*k then q (mY p y) else q y:=by
 intro k
 induction k with
 |zero=>intro y;simp[uV]
 |succ k ih=>
  intro y;rw[ahJ,HF,Ap,Ap,Sg,KL,KL,ih,HZ,H0];by_cases c:y<4*k
  .have h1:(if y=4*k+1 then (if p (2*k) then 4*k+2 else 4*k+3) else if y=(if p (2*k) then 4*k+2 else 4*k+3) then 4*k+1 else y)=y:=by rw[ay aa,ay (by split<;>omega)]
   rw[h1];have h2:(if y=4*k then (if p (2*k) then 4*k+3 else 4*k+2) else if y=(if p (2*k) then 4*k+3 else 4*k+2) then 4*k else y)=y:=by rw[ay aa,ay (by split<;>omega)]
   rw[h2,aF c,aF aa]
  have a2:=Zj hp k;have a3:=Zk hp k;have a0:=HZ p k;have a1:=H0 p k;cases sP:p (2*k) with
  |true=>
   rw[sP] at a0 a1 a2 a3;simp only[if_true] at a0 a1 a2 a3 ⊢;by_cases c0:y=4*k
   .subst c0;rw[a0,ay (show ¬4*k=4*k+1 by omega),ay (show ¬4*k=4*k+2 by omega),aF rfl,ay aa,aF aa]
   by_cases c1:y=4*k+1
   .subst c1;rw[a1,aF rfl,ay (show ¬4*k+2=4*k by omega),ay (show ¬4*k+2=4*k+3 by omega),ay aa,aF aa]
   by_cases c2:y=4*k+2
   .subst c2;rw[a2,ay (show ¬4*k+2=4*k+1 by omega),aF rfl,ay (show ¬4*k+1=4*k by omega),ay (show ¬4*k+1=4*k+3 by omega),ay aa,aF aa]
   by_cases c3:y=4*k+3
   .subst c3;rw[a3,ay (show ¬4*k+3=4*k+1 by omega),ay (show ¬4*k+3=4*k+2 by omega),ay (show ¬4*k+3=4*k by omega),aF rfl,ay aa,aF aa]
   rw[ay c1,ay c2,ay c0,ay c3,ay c,ay aa]
  |false=>
   rw[sP] at a0 a1 a2 a3;simp only[dx,if_false] at a0 a1 a2 a3 ⊢;by_cases c0:y=4*k
   .subst c0;rw[a0,ay (show ¬4*k=4*k+1 by omega),ay (show ¬4*k=4*k+3 by omega),aF rfl,ay aa,aF aa]
   by_cases c1:y=4*k+1
   .subst c1;rw[a1,aF rfl,ay (show ¬4*k+3=4*k by omega),ay (show ¬4*k+3=4*k+2 by omega),ay aa,aF aa]
   by_cases c3:y=4*k+3
   .subst c3;rw[a3,ay (show ¬4*k+3=4*k+1 by omega),aF rfl,ay (show ¬4*k+1=4*k by omega),ay (show ¬4*k+1=4*k+2 by omega),ay aa,aF aa]
   by_cases c2:y=4*k+2
   .subst c2;rw[a2,ay (show ¬4*k+2=4*k+1 by omega),ay (show ¬4*k+2=4*k+3 by omega),ay (show ¬4*k+2=4*k by omega),aF rfl,ay aa,aF aa]
   rw[ay c1,ay c3,ay c0,ay c2,ay c,ay aa]
theorem ai6{p:Nat->Bool}(hp:∀x,p (rv x)=p x)(nx:Nat->Nat){k y:Nat}(h:y<4*k):(uV p k).foldl tr (tY p nx) y=2*nx (y/2)+y%2:=by
 rw[au0 hp,aF h];unfold tY;have hf:fx (p (y/2)) (y%2)<2:=DW aa;have h1:mY p y/2=rv (y/2):=by unfold mY;omega
 have h2:mY p y%2=fx (p (y/2)) (y%2):=by unfold mY;omega
 rw[h1,h2,xh,hp,Mi aa]
theorem aeV{α β:Type}{P:α->β->Prop}{f:β->α}(hf:∀a b,P a b->f b=a):∀ {L:List α},(∀a∈L,∃b,P a b)->∃M:List β,M.map f=L/\ ∀b∈M,∃a∈L,P a b:=by
 intro L
 induction L with
 |nil=>intro _;exact⟨[],rfl,af⟩
 |cons a L ih=>
  intro h;obtain⟨b,hb⟩:=h a af;obtain⟨M,h1,h2⟩:=ih fun x hx=>h x (by simp[hx]);refine⟨b::M,by rw[dK,h1,hf a b hb],fun x hx=>?_⟩;rcases cM.1 hx with rfl|hx
  .exact⟨a,af,hb⟩
  obtain⟨c,hc,hp⟩:=h2 x hx;exact⟨c,by simp[hc],hp⟩
section
variable {F:Nat} {ls:List Let}
theorem ZA(ok:eX F ls):(aB ls).Nodup:=by have:=Zz ok.ax ls.length (bJ _);refine aif (fun {a b} h e=>?_) this;subst e;exact absurd h (Nat.lt_irrefl _)
theorem WZ(ok:eX F ls):ls.length=aw Let.aG ls+aw Let.aC ls:=by
 have:∀l:List Let,(∀x∈l,x.aG=true\/x.aC=true)->l.length=aw Let.aG l+aw Let.aC l:=by
  intro l
  induction l with
  |nil=>intro _;rfl
  |cons a l ih=>
   intro h;have ih:=ih fun x hx=>h x (by simp[hx]);unfold aw at ih ⊢;rw[xr,xr,dh,ih];rcases h a af with c|c
   .rw[c,nz c];simp;omega
   have:a.aG=false:=by cases hp:a.aG;rfl;rw[nz hp] at c;cases c
   rw[c,this];simp;omega
 exact this ls ok.kinds
theorem ahT(ok:eX F ls):∃L:List Nat,L.length=aw Let.aG ls+aw Let.aC ls/2/\(∀j∈L,j<ls.length)/\(L.map (jO ls)).Nodup:=by
 have hc:=ok.cr;unfold kL at hc;simp only[cN,dI] at hc;have hid:=hc.2
 let ids:List (Int×Int):=(eU ls ls.length).map fun id=>(1,id)
 have anw:∀a∈ids,∃j,(jO ls j=a/\j<ls.length):=by intro a ha;obtain⟨id,hi,rfl⟩:=dp.1 ha;obtain⟨j,o,hj,hh⟩:=(GF (bJ _)).1 hi;obtain⟨m,hm,mc,mi,_⟩:=A2 hh;refine⟨j,?_,hj⟩;unfold jO;rw[hm];simp[mc,mi]
 obtain⟨M,m1,m2⟩:=aeV (P:=fun a j=>jO ls j=a/\j<ls.length) (f:=jO ls) (fun a b h=>h.1) anw;have jD:∀i∈aB ls,i<ls.length/\jO ls i=(0,(i:Int)):=fun i hi=>by obtain⟨l,hl,hp⟩:=tu.1 hi;refine⟨(aW.1 hl).1,?_⟩;unfold jO;rw[hl];simp[nz hp]
 refine⟨aB ls++M,?_,fun j hj=>?_,?_⟩
 .have:M.length=(eU ls ls.length).length:=by
   have:=congrArg List.length m1
   simpa [ids] using this
  rw[ff,this,hid,Ii]
 .rcases eD.1 hj with hj|hj
  .exact(jD j hj).1
  obtain⟨_,_,h⟩:=m2 j hj;exact h.2
 rw[j6,m1,Dz];refine⟨?_,?_,?_⟩
 .have:(aB ls).map (jO ls)=(aB ls).map fun i:Nat=>((0:Int),(i:Int)):=Aq fun i hi=>(jD i hi).2;rw[this];refine yO.2 (aif (fun {a b} h e=>h ?_) (ZA ok));have:=congrArg Prod.snd e;simp only at this;omega
 .refine yO.2 (aif (fun {a b} h e=>h ?_) (Qm ls ls.length));exact congrArg Prod.snd e
 intro a ha b hb e;obtain⟨i,hi,rfl⟩:=dp.1 ha;obtain⟨id,_,rfl⟩:=dp.1 hb;rw[(jD i hi).2] at e;have:=congrArg Prod.fst e;simp at this
theorem as4(ok:eX F ls)(p:Nat->Bool):Perm (2*nD ls) (tY p (aS ls)):=by
 have m:=maps ok;have hN:nD ls=2*(ls.length+(aB ls).length):=by unfold nD;omega
 have hr:∀y,y<2*nD ls->rv (y/2)<nD ls:=fun y hy=>by rw[hN];exact yD aa
 have hf:∀y,fx (p (y/2)) (y%2)<2:=fun y=>DW aa;refine⟨fun y hy=>?_,fun x y hx hy e=>?_⟩
 .have:=m.lt _ (hr y hy);have:=hf y;unfold tY;omega
 unfold tY at e;have:=hf x;have:=hf y;have e1:aS ls (rv (x/2))=aS ls (rv (y/2)):=aa;have e2:=m.inj _ _ (hr x hx) (hr y hy) e1;have e3:x/2=y/2:=by rw[<- xh (x/2),e2,xh]
 have e4:fx (p (x/2)) (x%2)=fx (p (y/2)) (y%2):=aa;rw[e3] at e4;have e5:x%2=y%2:=by rw[<- Mi (b:=p (y/2)) (s:=x%2) aa,e4,Mi aa]
 omega
end
section
variable {F:Nat} {ls:List Let} {p:Nat->Bool}
abbrev xG(ls:List Let)(p:Nat->Bool):Nat->Nat->Prop:=xL (2*nD ls) (tY p (aS ls)) (uV p (ls.length+(aB ls).length))
theorem Br(ls:List Let):nD ls=2*(ls.length+(aB ls).length):=by unfold nD;omega
theorem ak0(hp:∀x,p (rv x)=p x){y:Nat}(hy:y<2*nD ls):aZ (xG ls p) y (mY p y):=by
 have hN:=Br ls;obtain⟨h1,h2⟩:=au3 p (k:=ls.length+(aB ls).length) (e:=y/4) aa;have r1:aZ (xG ls p) (4*(y/4)) (mY p (4*(y/4))):=.rel (.inr h1);have r2:aZ (xG ls p) (4*(y/4)+1) (mY p (4*(y/4)+1)):=.rel (.inr h2);have a2:=Zj hp (y/4);have a3:=Zk hp (y/4);rcases(by omega:y=4*(y/4)\/y=4*(y/4)+1\/y=4*(y/4)+2\/y=4*(y/4)+3) with e|e|e|e
 .rw[<- e] at r1;exact r1
 .rw[<- e] at r2;exact r2
 .rw[<- e] at a2;rw[a2];rw[HZ] at r1;rw[H0] at r2;by_cases c:p (2*(y/4))=true
  .rw[aF c] at r2 ⊢;rw[<- e] at r2;exact r2.symm
  rw[ay c] at r1 ⊢;rw[<- e] at r1;exact r1.symm
 rw[<- e] at a3;rw[a3];rw[HZ] at r1;rw[H0] at r2;by_cases c:p (2*(y/4))=true
 .rw[aF c] at r1 ⊢;rw[<- e] at r1;exact r1.symm
 rw[ay c] at r2 ⊢;rw[<- e] at r2;exact r2.symm
theorem DQ(hp:∀x,p (rv x)=p x){x s:Nat}(hx:x<nD ls)(hs:s<2):aZ (xG ls p) (2*x+s) (2*rv x+fx (p x) s):=by have:=ak0 (ls:=ls) hp (y:=2*x+s) aa;unfold mY at this;rwa[show(2*x+s)/2=x by omega,show(2*x+s)%2=s by omega] at this
theorem AN(hp:∀x,p (rv x)=p x){x s:Nat}(hx:x<nD ls)(hs:s<2):aZ (xG ls p) (2*x+s) (2*aS ls x+s):=by
 have hN:=Br ls;have hf:fx (p x) s<2:=DW hs;refine(DQ hp hx hs).trans (.rel (.inl ⟨?_,?_⟩))
 .have:rv x<nD ls:=by rw[hN];exact yD aa
  omega
 unfold tY;rw[show(2*rv x+fx (p x) s)/2=rv x by omega,show(2*rv x+fx (p x) s)%2=fx (p x) s by omega,xh,hp,Mi hs]
def AT(ls:List Let)(p:Nat->Bool)(x:Nat):Prop:= ∃b,∀s,s<2->aZ (xG ls p) (2*x+s) (fx b s)
theorem am4(ls:List Let)(p:Nat->Bool):AT ls p 0:=⟨false,fun s _=>by rw[show 2*0+s=s by omega];exact .refl _⟩
theorem amO(a b:Bool){s:Nat}(h:s<2):fx a (fx b s)=fx (a !=b) s:=by unfold fx;cases a<;>cases b<;>simp;omega
theorem acH(hp:∀x,p (rv x)=p x){x:Nat}(hx:x<nD ls)(h:AT ls p x):AT ls p (rv x):=by obtain⟨b,h⟩:=h;refine⟨b !=p x,fun s hs=>?_⟩;have h1:=(DQ hp hx (s:=fx (p x) s) (DW hs)).symm.trans (h (fx (p x) s) (DW hs));rwa[Mi hs,amO _ _ hs] at h1
theorem acG(hp:∀x,p (rv x)=p x){x:Nat}(hx:x<nD ls)(h:AT ls p x):AT ls p (aS ls x):=by obtain⟨t,h⟩:=h;exact⟨t,fun s hs=>(AN hp hx hs).symm.trans (h s hs)⟩
theorem am3(hp:∀x,p (rv x)=p x){x:Nat}(hx:x<nD ls)(h:AT ls p (aS ls x)):AT ls p x:=by obtain⟨t,h⟩:=h;exact⟨t,fun s hs=>(AN hp hx hs).trans (h s hs)⟩
theorem VJ(hp:∀x,p (rv x)=p x)(ok:eX F ls){x:Nat}(hx:x<nD ls):AT ls p x:=by
 have m:=maps ok;have hN:=Br ls;have EB:∀y,y<nD ls->rv y<nD ls:=fun y hy=>by rw[hN] at hy ⊢;exact yD hy
 have fwd:∀i,i<ls.length->AT ls p (2*i):=by
  intro i
  induction i with
  |zero=>intro _;exact am4 ls p
  |succ i ih=>
   intro hi;have h0:=ih aa;have h2:2*i<nD ls:=aa;have h3:=acG hp h2 h0;have h4:=m.lt _ h2;have h5:=acG hp (EB _ h4) (acH hp h4 h3);have e:2*i=eE ls.length (i+1) true:=by unfold eE;rw[aF rfl,show i+1+ls.length-1=i+ls.length by omega,qA,dV aa]
   rw[e,ahx ok hi] at h5;exact h5
 have str:∀y,y<2*ls.length->AT ls p y:=fun y hy=>by
  rcases wm y with c|c
  .rw[show y=2*(y/2) by omega];exact fwd _ aa
  have:=acH hp (x:=2*(y/2)) aa (fwd (y/2) aa);rw[rW] at this;rw[show y=2*(y/2)+1 by omega];exact this
 rcases Lf x (2*ls.length) with c|c
 .exact str x c
 exact am3 hp hx (str _ (m.ax x hx c))
theorem au9(g:cH F ls)(hp:∀x,p (rv x)=p x){c:Nat->Bool}(hc:∀x,x<nD ls->c (rv (aS ls x))=(c x !=p x)):¬aZ (xG ls p) 0 1:=by
 intro h01;have ok:=g.ok;have hN:=Br ls;have EB:∀y,y<nD ls->rv y<nD ls:=fun y hy=>by rw[hN] at hy ⊢;exact yD hy
 obtain⟨eZ,PN⟩:=Ht (aS ls) (nD ls);have E:=aaR (uV p (ls.length+(aB ls).length)) (tY p (aS ls)) (as4 ok p) (fun t ht=>by have:=au2 p _ t ht;omega)
 rw[au1] at E;have K1:K (aZ (xG ls p)) (2*nD ls)<=1:=YN fun y hy=>by
  obtain⟨b,ht⟩:=VJ hp ok (x:=y/2) aa;have e:=ht (y%2) aa;rw[show 2*(y/2)+y%2=y by omega] at e;have hf:fx b (y%2)<2:=DW aa;rcases(by omega:fx b (y%2)=0\/fx b (y%2)=1) with k|k
  .rw[k] at e;exact e
  rw[k] at e;exact e.trans h01.symm
 have K2:2*lh ls<=K (aZ (gr (2*nD ls) ((uV p (ls.length+(aB ls).length)).foldl tr (tY p (aS ls))))) (2*nD ls):=by
  have qe:∀w∈gI (aS ls) (nD ls),w≠[]:=fun w hw=>by obtain⟨⟨d,t,e,_⟩,_⟩:=Hs ok w hw;rw[e];simp
  have:=ON (R:=gr (2*nD ls) ((uV p (ls.length+(aB ls).length)).foldl tr (tY p (aS ls)))) (f:=fun y=>(Aj (gI (aS ls) (nD ls)) (y/2),decide (y%2=1))) (n:=2*nD ls)
   (reps:=((gI (aS ls) (nD ls)).map (·.headD 0)).flatMap fun x=>[2*x,2*x+1]) ?_ ?_ ?_
  .rw[ahP,cD] at this;exact this
  .rintro a b ⟨ha,rfl⟩
   rw[ai6 hp _ aa];have hy:a/2<nD ls:=aa;obtain⟨u,hu,Mz⟩:=Fm.1 (PN _ hy);obtain⟨i,hi⟩:=je hu;simp only[show(2*aS ls (a/2)+a%2)/2=aS ls (a/2) by omega,show(2*aS ls (a/2)+a%2)%2=a%2 by omega];rw[Hu eZ hi Mz,Hu eZ hi (Du (maps ok) hu Mz)]
  .refine ahQ fun x hx=>?_;obtain⟨w,hw,rfl⟩:=dp.1 hx;obtain⟨⟨d,t,e,hd⟩,_⟩:=Hs ok w hw;rw[e];simp only[List.headD_cons];omega
  refine ahS (g:=Aj (gI (aS ls) (nD ls))) (c:=fun _=>false) (fun x=>?_) (fun x=>?_) ?_
  .simp only[show 2*x/2=x by omega,show 2*x%2=0 by omega];simp
  .simp only[show(2*x+1)/2=x by omega,show(2*x+1)%2=1 by omega];simp
  rw[adE eZ qe];exact DA
 have K3:2*(aw Let.aG ls+aw Let.aC ls/2)<=K (aZ (gr (2*nD ls) (tY p (aS ls)))) (2*nD ls):=by
  obtain⟨L,l1,l2,l3⟩:=ahT ok;have:=ON (R:=gr (2*nD ls) (tY p (aS ls))) (f:=fun y=>(jO ls (sG ls (rv (y/2))),(c (rv (y/2))!=decide (y%2=1)))) (n:=2*nD ls)
   (reps:=(L.map (2* ·)).flatMap fun x=>[2*x,2*x+1]) ?_ ?_ ?_
  .rw[ahP,cD,l1] at this;exact this
  .rintro a b ⟨ha,rfl⟩
   have hy:rv (a/2)<nD ls:=EB _ aa;have t1:=(ahN ok hy).1;have t2:=hc _ hy;have hf:fx (p (a/2)) (a%2)<2:=DW aa;unfold tY;simp only[show(2*aS ls (rv (a/2))+fx (p (a/2)) (a%2))/2=aS ls (rv (a/2)) by omega,show(2*aS ls (rv (a/2))+fx (p (a/2)) (a%2))%2=fx (p (a/2)) (a%2) by omega,t1,t2,hp];rcases wm a with k|k<;>rw[k]<;>cases c (rv (a/2))<;>cases p (a/2)<;>rfl
  .refine ahQ fun x hx=>?_;obtain⟨j,hj,rfl⟩:=dp.1 hx;have:=l2 j hj;omega
  refine ahS (g:=fun x=>jO ls (sG ls (rv x))) (c:=fun x=>c (rv x)) (fun x=>?_) (fun x=>?_) ?_
  .simp only[show 2*x/2=x by omega,show 2*x%2=0 by omega];simp
  .simp only[show(2*x+1)/2=x by omega,show(2*x+1)%2=1 by omega];simp
  rw[tm];have:L.map ((fun x=>jO ls (sG ls (rv x))) ∘ (2* ·))=L.map (jO ls):=Aq fun j hj=>by have:=Cy (ls:=ls) (l2 j hj) false;simp only[Function.comp_apply,rW];rw[show 2*j+1=eE ls.length j false from rfl,this]
  rw[this];exact l3
 have hPC:=WZ ok;have jD:=Ii (ls:=ls);have Jv:=g.nw;have eI:=ok.cr;unfold kL at eI;simp only[cN,dI] at eI;have dQ:=eI.1.1;have E:K (aZ (gr (2*nD ls) ((uV p (ls.length+(aB ls).length)).foldl tr (tY p (aS ls))))) (2*nD ls)+K (aZ (gr (2*nD ls) (tY p (aS ls)))) (2*nD ls)<=2*K (aZ (xG ls p)) (2*nD ls)+2*(ls.length+(aB ls).length):=E;omega
theorem aat(g:cH F ls)(hp:∀x,p (rv x)=p x){c:Nat->Bool}(hc:∀x,x<nD ls->c (rv (aS ls x))=(c x !=p x)){x:Nat}(hx:x<nD ls)(h:aZ (xG ls p) (2*x+0) (2*x+1)):False:=by
 obtain⟨b,ht⟩:=VJ hp g.ok hx;have e1:=ht 0 ae;have e2:=ht 1 ae;have e4:=e1.symm.trans (h.trans e2);refine au9 g hp hc ?_;cases b with
 |true=>exact e4.symm
 |false=>exact e4
end
section
variable {F:Nat} {ls:List Let}
end
theorem avq{next:Nat->Nat}(m:yQ next n2 N){α:Type}{φ:Nat->α}(hφ:∀x,x<N->φ (next x)=φ x){reps:List Nat}(hr:∀x∈reps,x<N)(hn:(reps.map φ).Nodup):reps.length<=(gI next N).length:=by
 have Nj:=Ht next N;have kr:∀x,x<N->∃(i:Nat) (w:List Nat),(gI next N)[i]?=some w/\x∈w/\Aj (gI next N) x=i:=fun x hx=>by obtain⟨w,hw,EG⟩:=Fm.1 (Nj.2 x hx);obtain⟨i,hi⟩:=je hw;exact⟨i,w,hi,EG,Hu Nj.1 hi EG⟩
 have anz:∀a b,aZ (fun x y=>x<N/\y=next x) a b->φ a=φ b:=fun a b h=>by
  induction h with
  |rel h=>rw[h.2,hφ _ h.1]
  |refl _=>rfl
  |symm _ ih=>exact ih.symm
  |trans _ _ h1 h2=>exact h1.trans h2
 have Bd:∀x,x<N->∀y,y<N->Aj (gI next N) x=Aj (gI next N) y->φ x=φ y:=fun x hx y hy e=>by obtain⟨i,w,hi,EG,e1⟩:=kr x hx;obtain⟨j,v,hj,hyv,e2⟩:=kr y hy;rw[e1,e2] at e;subst e;rw[hi] at hj;cases hj;exact anz x y (Yf m (R:=fun x y=>x<N/\y=next x) (fun z hz=>.rel ⟨hz,rfl⟩) (aU hi) EG hyv)
 have h1:(reps.map (Aj (gI next N))).Nodup:=by unfold List.Nodup at hn ⊢;rw[yO] at hn ⊢;refine hn.imp_of_mem fun {x y} hx hy h e=>?_;exact h (Bd x (hr x hx) y (hr y hy) e)
 have h2:∀i∈reps.map (Aj (gI next N)),i∈List.range (gI next N).length:=fun i hi=>by obtain⟨x,hx,rfl⟩:=dp.1 hi;obtain⟨i,w,hi,_,e⟩:=kr x (hr x hx);rw[e];exact gA.2 (aW.1 hi).1
 have:=KG _ _ h1 h2;rwa[cD,Dy] at this
end
end Go.Abs
