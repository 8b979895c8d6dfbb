/-
  Walks around faces.
-/
import Derived.Test.YtonblbhhnelniaaGreatDoorWs
set_option linter.all false
set_option maxHeartbeats 16000000
namespace Go.Abs
section
variable{n2 x:Nat}
theorem QW{S:List Bool}(h:sn S x=false):x<S.length:=by
 rcases Nat.lt_or_ge x S.length with h1|h1
 .exact h1
 rw[sn,de,lS h1] at h;cases h
theorem ahe(next:Nat->Nat):∀(k x:Nat) (S:List Bool),(∀y∈(fQ next k x S).1,sn S y=false)/\(fQ next k x S).1.Nodup/\ ∀y,sn (fQ next k x S).2 y=(sn S y||decide (y∈(fQ next k x S).1)):=by
 intro k
 induction k with
 |zero=>intro x S;simp[fQ]
 |succ k ih=>
  intro x S;unfold fQ;cases hx:S.getD x true with
  |true=>simp
  |false=>
   have hl:=QW (S:=S) (x:=x) hx;obtain⟨h1,h2,h3⟩:=ih (next x) (S.set x true);simp only[dx,if_false];have iH:∀y,sn (S.set x true) y=if y=x then true else sn S y:=fun y=>NF hl;refine⟨fun y hy=>?_,?_,fun y=>?_⟩
   .rcases cM.1 hy with rfl|hy
    .exact hx
    have:=h1 y hy;rw[iH] at this;split at this
    .cases this
    exact this
   .refine sa.2 ⟨fun hm=>?_,h2⟩;have:=h1 x hm;rw[iH,if_pos rfl] at this;cases this
   rw[h3,iH];by_cases e:y=x
   .subst e;simp
   rw[if_neg e];have:decide (y∈x::(fQ next k (next x) (S.set x true)).1)=decide (y∈(fQ next k (next x) (S.set x true)).1):=by simp[e]
   rw[this]
theorem auE(next:Nat->Nat)(N:Nat):∀k,(dR next N k).1.flatten.Nodup/\(∀y,y<N->sn (dR next N k).2 y=decide (y∈(dR next N k).1.flatten))/\(∀y∈(dR next N k).1.flatten,y<N)/\ ∀x,x<k->x<N->sn (dR next N k).2 x=true:=by
 intro k
 induction k with
 |zero=>refine⟨by simp[dR],fun y hy=>?_,by simp[dR],fun x hx=>absurd hx (qE x)⟩;have:(dR next N 0).2=List.replicate N false:=rfl;rw[this,W2 hy];simp[dR]
 |succ k ih=>
  obtain⟨h1,h2,h4,h3⟩:=ih;rw[Bv];unfold yD;have hlen:=Kg next N k;cases hk:(dR next N k).2.getD k true with
  |true=>
   rw[if_pos rfl];refine⟨h1,h2,h4,fun x hx AW=>?_⟩;rcases pV.1 hx with h|rfl
   .exact h3 x h AW
   exact hk
  |false=>
   rw[if_neg ae];have hkN:k<N:=by have:=QW (S:=(dR next N k).2) hk;omega
   obtain⟨g1,g2,g3⟩:=ahe next ((dR next N k).2.length+1) k (dR next N k).2;have Vl:=ahd next ((dR next N k).2.length+1) k (dR next N k).2 (by have:=NK (dR next N k).2;omega);refine⟨?_,fun y hy=>?_,?_,fun x hx AW=>?_⟩
   .rw[Dv,Hn];refine⟨h1,by simpa using g2,fun y hy z hz=>?_⟩;rintro rfl
    have e1:=g1 y (by simpa using hz);have hyN:=h4 y hy;rw[h2 y hyN] at e1;simp[hy] at e1
   .rw[g3,h2 y hy,Dv,Bool.eq_iff_iff];simp
   .intro y hy;rw[Dv,eF] at hy;rcases hy with hy|hy
    .exact h4 y hy
    have:=QW (g1 y (by simpa using hy));omega
   rcases pV.1 hx with h|rfl
   .rw[g3,h3 x h AW];rfl
   exact Vl
theorem Kh(next:Nat->Nat)(N:Nat):(js next N).flatten.Nodup/\ ∀y,y<N->y∈(js next N).flatten:=by obtain⟨h1,h2,_,h3⟩:=auE next N N;refine⟨h1,fun y hy=>?_⟩;have:=h3 y hy hy;rw[h2 y hy] at this;exact of_decide_eq_true this
theorem aeL{L:List (List Nat)}(h:L.flatten.Nodup){i j:Nat}{a b:List Nat}(hi:L[i]?=some a)(hj:L[j]?=some b)(ha:x∈a)(hb:x∈b):i=j:=by
 induction L generalizing i j with
 |nil=>simp at hi
 |cons l L ih=>
  rw[lR,Hn] at h;obtain⟨_,h2,h3⟩:=h;cases i with
  |zero=>
   simp at hi;subst hi;cases j with
   |zero=>rfl
   |succ j=>simp at hj;exact absurd rfl (h3 x ha x (Hm.2 ⟨b,aU hj,hb⟩))
  |succ i=>
   simp at hi;cases j with
   |zero=>simp at hj;subst hj;exact absurd rfl (h3 x hb x (Hm.2 ⟨a,aU hi,ha⟩))
   |succ j=>simp at hj;rw[ih h2 hi hj]
section
variable {F:Nat} {ls:List Let}
theorem aa5{j:Nat}{f:Fc}(h:(eI F ls)[j]?=some f):∃w,(js (aT ls) (nD ls))[j]?=some w/\f=mY F ls w:=by
 unfold eI at h;rw[fR] at h;cases hw:(js (aT ls) (nD ls))[j]? with
 |none=>rw[hw] at h;cases h
 |some w=>rw[hw] at h;cases h;exact⟨w,rfl,rfl⟩
theorem akf{i j:Nat}{a b:Fc}{d:Nat}(hi:(eI F ls)[i]?=some a)(hj:(eI F ls)[j]?=some b)(ha:d∈a.dh)(hb:d∈b.dh):i=j:=by obtain⟨v,hv,rfl⟩:=aa5 hi;obtain⟨w,hw,rfl⟩:=aa5 hj;rw[Ih] at ha hb;exact aeL (Kh _ _).1 hv hw (uM.1 ha).1 (uM.1 hb).1
theorem akg{d:Nat}(hd:d<2*ls.length):∃(j:Nat) (f:Fc),(eI F ls)[j]?=some f/\d∈f.dh:=by
 have:=(Kh (aT ls) (nD ls)).2 d (by unfold nD;omega);obtain⟨w,hw,hdw⟩:=Hm.1 this;obtain⟨j,hj⟩:=jD hw;have mE:(eI F ls)[j]?=some (mY F ls w):=by unfold eI;rw[fR,hj];rfl
 refine⟨j,mY F ls w,mE,?_⟩;rw[Ih];exact uM.2 ⟨hdw,by simpa using hd⟩
theorem age{ds:List Nat}{v:Nat}{d:Nat}:∀ {L:List Nat},d<L.length->(oD L ds v)[d]?=if d∈ds then some v else L[d]? :=by
 induction ds with
 |nil=>intro L _;simp[oD]
 |cons e ds ih=>
  intro L hd;show(oD (L.set e v) ds v)[d]?=_;rw[ih (by simpa using hd),oI];by_cases h1:d∈ds
  .simp[h1]
  by_cases h2:e=d
  .subst h2;simp[hd]
  have:d≠e:=fun h=>h2 h.symm;simp[h1,h2,this]
theorem aoC{d:Nat}:∀ {fs:List Fc} {j:Nat} {L:List Nat},d<L.length->(∀f∈fs,d∉f.dh)->(qx fs j L)[d]?=L[d]? :=by
 intro fs
 induction fs with
 |nil=>intro j L _ _;rfl
 |cons f fs ih=>intro j L hd h;show(qx fs (j+1) (oD L f.dh j))[d]?=_;rw[ih (by rw[NA];exact hd) fun g hg=>h g (by simp[hg]),age hd,if_neg (h f af)]
theorem aoB{d:Nat}:∀ {fs:List Fc} {j i:Nat} {L:List Nat} {f:Fc},d<L.length->fs[i]?=some f->d∈f.dh->(∀i' f',fs[i']?=some f'->d∈f'.dh->i'=i)->(qx fs j L)[d]?=some (j+i):=by
 intro fs
 induction fs with
 |nil=>intro j i L f _ h;simp at h
 |cons g fs ih=>
  intro j i L f hd hi hf hu;show(qx fs (j+1) (oD L g.dh j))[d]?=_;cases i with
  |zero=>
   simp at hi;subst hi;rw[aoC (by rw[NA];exact hd),age hd,if_pos hf]
   .rfl
   intro f' hf' F7;obtain⟨i',zy⟩:=jD hf';have:=hu (i'+1) f' (by simpa using zy) F7;omega
  |succ i=>simp at hi;rw[ih (by rw[NA];exact hd) hi hf fun i' f' h1 h2=>by have:=hu (i'+1) f' (by simpa using h1) h2;omega];congr 1;omega
theorem left_at{d j:Nat}{f:Fc}(hd:d<2*ls.length)(hf:(eI F ls)[j]?=some f)(hm:d∈f.dh):(nX F ls)[d]?=some j:=by unfold nX;rw[aoB (by simpa using hd) hf hm fun i' f' h1 h2=>akf h1 hf h2 hm];congr 1;omega
theorem aa3{d:Nat}(hd:d<2*ls.length):∃j,(eI F ls)[j]?=some (tA F ls d)/\d∈(tA F ls d).dh/\(nX F ls)[d]?=some j:=by
 obtain⟨j,f,hf,hm⟩:=akg (F:=F) hd;have hl:=left_at hd hf hm;have e:tA F ls d=f:=by unfold tA;rw[de (l:=nX F ls),hl,mS,de,hf,mS]
 exact⟨j,e▸hf,e▸hm,hl⟩
theorem aa4{d:Nat}(hd:d<2*ls.length):tA F ls d∈eI F ls:=by obtain⟨j,h1,_⟩:=aa3 (F:=F) hd;exact aU h1
end
inductive bh (R:Nat->Nat->Prop):Nat->Nat->Prop
 |rel {a b:Nat}:R a b->bh R a b
 |refl (a:Nat):bh R a a
 |symm {a b:Nat}:bh R a b->bh R b a
 |trans {a b c:Nat}:bh R a b->bh R b c->bh R a c
theorem bh.mono{R R':Nat->Nat->Prop}(h:∀a b,R a b->bh R' a b){y:Nat}(e:bh R x y):bh R' x y:=by
 induction e with
 |rel r=>exact h _ _ r
 |refl a=>exact .refl a
 |symm _ ih=>exact .symm ih
 |trans _ _ i1 i2=>exact .trans i1 i2
theorem bh.inv{R:Nat->Nat->Prop}{α:Type}{f:Nat->α}(h:∀a b,R a b->f a=f b){y:Nat}(e:bh R x y):f x=f y:=by
 induction e with
 |rel r=>exact h _ _ r
 |refl a=>rfl
 |symm _ ih=>exact ih.symm
 |trans _ _ i1 i2=>exact i1.trans i2
def ld (E:Nat->Nat->Prop)(x:Nat):Prop:=∀y,E x y->x<=y
noncomputable def A1 (E:Nat->Nat->Prop) (x:Nat):Bool:= @decide (ld E x) (Classical.propDecidable _)
theorem Jf{E:Nat->Nat->Prop}:A1 E x=true↔ld E x:=by unfold A1;exact @decide_eq_true_iff _ (Classical.propDecidable _)
noncomputable def K (E:Nat->Nat->Prop) (n:Nat):Nat:=(List.range n).countP (A1 E)
theorem Hs{E E':Nat->Nat->Prop}(h:∀x y,E x y↔E' x y)(n:Nat):K E n=K E' n:=by have:E=E':=funext fun x=>funext fun y=>propext (h x y);rw[this]
theorem exists_least{p:Nat->Prop}:∀n,p n->∃m,p m/\ ∀k,p k->m<=k:=by
 intro n
 induction n using Nat.strongRecOn with
 |ind n ih=>
  intro h;rcases Classical.em (∃k,k<n/\p k) with ⟨k,hk,hp⟩|dz
  .exact ih k hk hp
  exact⟨n,h,fun k hk=>Nat.le_of_not_lt fun aw=>dz ⟨k,aw,hk⟩⟩
theorem Wa(R:Nat->Nat->Prop)(x:Nat):∃m,bh R x m/\ld (bh R) m/\m<=x:=by obtain⟨m,h1,h2⟩:=exists_least (p:=fun y=>bh R x y) x (.refl x);exact⟨m,h1,fun y hy=>h2 y (h1.trans hy),h2 x (.refl x)⟩
theorem ajY{p:Nat->Bool}(hp:p x=true):∀ {l:List Nat},l.Nodup->x∈l->l.countP p=l.countP (fun y=>p y&&y !=x)+1:=by
 intro l
 induction l with
 |nil=>intro _ h;cases h
 |cons a l ih=>
  intro hn hm;obtain⟨h1,h2⟩:=sa.1 hn;rw[wZ,wZ];by_cases e:a=x
  .subst e;have hc:l.countP p=l.countP (fun y=>p y&&y !=a):=List.countP_congr fun y hy=>by
    have:(y !=a)=true:=by simp;rintro rfl;exact h1 hy
    simp[this]
   simp[hp,hc]
  have hx:x∈l:=by rcases cM.1 hm with h|h;exact absurd h.symm e;exact h
  rw[ih h2 hx];have:(a !=x)=true:=by simp[e]
  simp only[this,vD];omega
abbrev qG(R:Nat->Nat->Prop)(a b:Nat)(x y:Nat):Prop:=R x y\/(x=a/\y=b)
theorem FO{R:Nat->Nat->Prop}{a b y:Nat}:bh (qG R a b) x y↔bh R x y\/(bh R x a/\bh R b y)\/(bh R x b/\bh R a y):=by
 constructor
 .intro h
  induction h with
  |rel r=>
   rcases r with r|⟨rfl,rfl⟩
   .exact .inl (.rel r)
   exact .inr (.inl ⟨.refl _,.refl _⟩)
  |refl a=>exact .inl (.refl a)
  |symm _ ih=>
   rcases ih with h|⟨h1,h2⟩|⟨h1,h2⟩
   .exact .inl h.symm
   .exact .inr (.inr ⟨h2.symm,h1.symm⟩)
   exact .inr (.inl ⟨h2.symm,h1.symm⟩)
  |trans _ _ i1 i2=>
   rcases i1 with h|⟨h1,h2⟩|⟨h1,h2⟩<;>rcases i2 with k|⟨k1,k2⟩|⟨k1,k2⟩
   .exact .inl (h.trans k)
   .exact .inr (.inl ⟨h.trans k1,k2⟩)
   .exact .inr (.inr ⟨h.trans k1,k2⟩)
   .exact .inr (.inl ⟨h1,h2.trans k⟩)
   .exact .inr (.inl ⟨h1,k2⟩)
   .exact .inl (h1.trans k2)
   .exact .inr (.inr ⟨h1,h2.trans k⟩)
   .exact .inl (h1.trans k2)
   exact .inr (.inr ⟨h1,k2⟩)
 have up:∀ {u v},bh R u v->bh (qG R a b) u v:=fun h=>h.mono fun _ _ r=>.rel (.inl r);have ab:bh (qG R a b) a b:=.rel (.inr ⟨rfl,rfl⟩);rintro (h|⟨h1,h2⟩|⟨h1,h2⟩)
 .exact up h
 .exact(up h1).trans (ab.trans (up h2))
 exact(up h1).trans (ab.symm.trans (up h2))
theorem Rx{R:Nat->Nat->Prop}{a b:Nat}(h:bh R a b)(n:Nat):K (bh (qG R a b)) n=K (bh R) n:=by
 refine Hs (fun x y=>?_) n;rw[FO];constructor
 .rintro (k|⟨h1,h2⟩|⟨h1,h2⟩)
  .exact k
  .exact h1.trans (h.trans h2)
  exact h1.trans (h.symm.trans h2)
 exact .inl
theorem XH{E E':Nat->Nat->Prop}{n m:Nat}(hm:m<n)(h0:ld E m)(h:∀x,ld E' x↔ld E x/\x≠m):K E n=K E' n+1:=by unfold K;rw[ajY (p:=A1 E) (x:=m) (Jf.2 h0) Fj (fm.2 hm)];congr 1;refine List.countP_congr fun x _=>?_;rw[Jf,h,cH,Jf];simp
theorem Rw{R:Nat->Nat->Prop}{a b n:Nat}(ha:a<n)(hb:b<n)(h:¬bh R a b):K (bh R) n=K (bh (qG R a b)) n+1:=by
 obtain⟨p,p1,p2,p3⟩:=Wa R a;obtain⟨q,q1,q2,q3⟩:=Wa R b;have hpq:p≠q:=fun e=>h (p1.trans (e▸q1.symm));rcases Nat.lt_or_gt_of_ne hpq with c|c
 .refine XH (m:=q) aa q2 fun x=>⟨fun hx=>⟨fun y hy=>hx y (FO.2 (.inl hy)),?_⟩,fun⟨hx,hxq⟩ y hy=>?_⟩
  .rintro rfl
   have:=hx p (FO.2 (.inr (.inr ⟨q1.symm,p1⟩)));omega
  rcases FO.1 hy with hy|⟨h1,h2⟩|⟨h1,h2⟩
  .exact hx y hy
  .have e1:=hx p (h1.trans p1);have e2:=q2 y (q1.symm.trans h2);omega
  have e1:=hx q (h1.trans q1);have e2:=q2 x (q1.symm.trans h1.symm);omega
 refine XH (m:=p) aa p2 fun x=>⟨fun hx=>⟨fun y hy=>hx y (FO.2 (.inl hy)),?_⟩,fun⟨hx,hxq⟩ y hy=>?_⟩
 .rintro rfl
  have:=hx q (FO.2 (.inr (.inl ⟨p1.symm,q1⟩)));omega
 rcases FO.1 hy with hy|⟨h1,h2⟩|⟨h1,h2⟩
 .exact hx y hy
 .have e1:=hx p (h1.trans p1);have e2:=p2 x (p1.symm.trans h1.symm);omega
 have e1:=hx q (h1.trans q1);have e2:=p2 y (p1.symm.trans h2);omega
theorem XI{R:Nat->Nat->Prop}{α:Type}{f:Nat->α}(h:∀a b,R a b->f a=f b){n:Nat}{reps:List Nat}(hr:∀x∈reps,x<n)(hn:(reps.map f).Nodup):reps.length<=K (bh R) n:=by
 have key:∀reps:List Nat,(∀x∈reps,x<n)->(reps.map f).Nodup->∃L:List Nat,L.length=reps.length/\L.Nodup/\(∀m∈L,m<n/\ld (bh R) m)/\ ∀m∈L,f m∈reps.map f:=by
  intro reps
  induction reps with
  |nil=>intro _ _;exact⟨[],rfl,w7,af,af⟩
  |cons a r ih=>
   intro hr hn;rw[dG,sa] at hn;obtain⟨L,l1,l2,l3,l4⟩:=ih (fun x hx=>hr x (by simp[hx])) hn.2;obtain⟨m,m1,m2,m3⟩:=Wa R a;have hfm:f m=f a:=(m1.inv h).symm;have ha:=hr a af;refine⟨m::L,by simp[l1],sa.2 ⟨fun hm=>hn.1 (hfm▸l4 m hm),l2⟩,fun x hx=>?_,fun x hx=>?_⟩
   .rcases cM.1 hx with rfl|hx
    .exact⟨aa,m2⟩
    exact l3 x hx
   rcases cM.1 hx with rfl|hx
   .rw[hfm];simp
   rw[dG];exact w6 _ (l4 x hx)
 obtain⟨L,l1,l2,l3,_⟩:=key reps hr hn;rw[<- l1];unfold K;rw[Kp];have sub:∀(L M:List Nat),L.Nodup->(∀x∈L,x∈M)->L.length<=M.length:=by
  intro L
  induction L with
  |nil=>intro M _ _;exact bd _
  |cons a L ih=>intro M hn hs;obtain⟨h1,h2⟩:=sa.1 hn;have ha:=hs a af;have:=ih (M.erase a) h2 fun x hx=>(List.mem_erase_of_ne (by rintro rfl;exact h1 hx)).2 (hs x (by simp[hx]));rw[List.length_erase_of_mem ha] at this;have:0<M.length:=NU ha;simp only[cq];omega
 exact sub L _ l2 fun x hx=>uM.2 ⟨fm.2 (l3 x hx).1,Jf.2 (l3 x hx).2⟩
theorem ahy{R:Nat->Nat->Prop}{n:Nat}(h:∀x,x<n->bh R x 0):K (bh R) n<=1:=by
 unfold K;have hz:∀x∈List.range n,A1 (bh R) x=true->x=0:=fun x hx hl=>by have:=Jf.1 hl 0 (h x (fm.1 hx));omega
 have:∀l:List Nat,l.Nodup->(∀x∈l,A1 (bh R) x=true->x=0)->l.countP (A1 (bh R))<=1:=by
  intro l
  induction l with
  |nil=>intro _ _;simp
  |cons a l ih=>
   intro hn hl;obtain⟨h1,h2⟩:=sa.1 hn;rw[wZ];by_cases c:A1 (bh R) a=true
   .have ha:=hl a af c;subst ha;have:l.countP (A1 (bh R))=0:=Hf.2 fun x hx vk=>h1 (by have:=hl x (by simp[hx]) vk;subst this;exact hx);simp[c,this]
   have:=ih h2 fun x hx=>hl x (by simp[hx]);simp[c,this]
 exact this _ Fj hz
structure Perm (n:Nat) (p:Nat->Nat):Prop where
 lt:∀x,x<n->p x<n
 inj:∀x y,x<n->y<n->p x=p y->x=y
abbrev gr(n:Nat)(p:Nat->Nat)(x y:Nat):Prop:=x<n/\y=p x
def tr (p:Nat->Nat)(t:Nat×Nat)(x:Nat):Nat:=if x=t.1 then p t.2 else if x=t.2 then p t.1 else p x
theorem Ra(p:Nat->Nat)(a b x:Nat):tr p (a,b) x=p (if x=a then b else if x=b then a else x):=by
 unfold tr;simp only;split
 .rfl
 split<;>rfl
theorem Perm.tr{n:Nat}{p:Nat->Nat}(h:Perm n p){a b:Nat}(ha:a<n)(hb:b<n):Perm n (tr p (a,b)):=by
 have hs:∀x,x<n->(if x=a then b else if x=b then a else x)<n:=fun x hx=>by split<;>(try split)<;>assumption
 refine⟨fun x hx=>by rw[Ra];exact h.lt _ (hs x hx),fun x y hx hy e=>?_⟩;rw[Ra,Ra] at e;have e:=h.inj _ _ (hs x hx) (hs y hy) e;by_cases x1:x=a
 .rw[if_pos x1] at e;by_cases y1:y=a
  .omega
  rw[if_neg y1] at e;split at e<;>omega
 rw[if_neg x1] at e;by_cases y1:y=a
 .rw[if_pos y1] at e;split at e<;>omega
 rw[if_neg y1] at e;split at e<;>split at e<;>omega
def it (p:Nat->Nat):Nat->Nat->Nat
 |0,x=>x
 |k+1,x=>p (it p k x)
theorem Perm.Gy{n:Nat}{p:Nat->Nat}(h:Perm n p)(hx:x<n):∀k,it p k x<n:=by
 intro k
 induction k with
 |zero=>exact hx
 |succ k ih=>exact h.lt _ ih
theorem Perm.back{n:Nat}{p:Nat->Nat}(h:Perm n p)(hx:x<n):∀i j,it p (i+j) x=it p i x->it p j x=x:=by
 intro i
 induction i with
 |zero=>intro j e;rw[iD] at e;exact e
 |succ i ih=>intro j e;rw[show i+1+j=(i+j)+1 by omega] at e;exact ih j (h.inj _ _ (h.Gy hx _) (h.Gy hx _) e)
theorem JV:∀(L M:List Nat),L.Nodup->(∀x∈L,x∈M)->L.length<=M.length:=by
 intro L
 induction L with
 |nil=>intro M _ _;exact bd _
 |cons a L ih=>intro M hn hs;obtain⟨h1,h2⟩:=sa.1 hn;have ha:=hs a af;have:=ih (M.erase a) h2 fun x hx=>(List.mem_erase_of_ne (by rintro rfl;exact h1 hx)).2 (hs x (by simp[hx]));rw[List.length_erase_of_mem ha] at this;have:0<M.length:=NU ha;simp only[cq];omega
theorem Perm.Zy{n:Nat}{p:Nat->Nat}(h:Perm n p)(hx:x<n):∃m,it p (m+1) x=x:=by
 apply Classical.byContradiction;intro dz;have key:∀k,((List.range k).map fun i=>it p i x).Nodup:=by
  intro k
  induction k with
  |zero=>simp
  |succ k ih=>rw[w8,km,Hn];refine⟨ih,af,fun a ha b hb=>?_⟩;obtain⟨i,hi,rfl⟩:=dq.1 ha;have hi:=fm.1 hi;simp only[dG,kE,mR] at hb;subst hb;intro e;have:=h.back hx i (k-i) (by rw[show i+(k-i)=k by omega];exact e.symm);exact dz ⟨k-i-1,by rw[show k-i-1+1=k-i by omega];exact this⟩
 have:=JV _ (List.range n) (key (n+1)) fun y hy=>by obtain⟨i,_,rfl⟩:=dq.1 hy;exact fm.2 (h.Gy hx i)
 rw[cF,Dx,Dx] at this;omega
theorem acW(p:Nat->Nat)(x:Nat):∀k,it p (k+1) x=it p k (p x):=by
 intro k
 induction k with
 |zero=>rfl
 |succ k ih=>show p (it p (k+1) x)=p (it p k (p x));rw[ih]
theorem ag0{n:Nat}{p:Nat->Nat}(h:Perm n p){a b:Nat}(ha:a<n)(hb:b<n)(iR:¬bh (gr n p) a b):bh (gr n (tr p (a,b))) a b:=by
 obtain⟨m,hm⟩:=h.Zy hb;have e0:tr p (a,b) a=p b:=by unfold tr;rw[if_pos rfl]
 have bQ:∀k,bh (gr n p) b (it p k b):=by
  intro k
  induction k with
  |zero=>exact .refl _
  |succ k ih=>exact ih.trans (.rel ⟨h.Gy hb k,rfl⟩)
 have key:∀k,bh (gr n (tr p (a,b))) a b\/bh (gr n (tr p (a,b))) a (it p k (p b)):=by
  intro k
  induction k with
  |zero=>exact .inr (.rel ⟨ha,e0.symm⟩)
  |succ k ih=>
   rcases ih with ih|ih
   .exact .inl ih
   by_cases c:it p k (p b)=b
   .rw[c] at ih;exact .inl ih
   refine .inr (ih.trans (.rel ⟨h.Gy (h.lt _ hb) k,?_⟩));have na:it p k (p b)≠a:=fun e=>iR (by have:=bQ (k+1);rw[acW,e] at this;exact this.symm)
   unfold tr;rw[if_neg na,if_neg c];rfl
 rcases key m with k|k
 .exact k
 rw[<- acW,hm] at k;exact k
theorem R6{n:Nat}{p:Nat->Nat}{a b:Nat}(ha:a<n)(hb:b<n){S:Nat->Nat->Prop}{x y:Nat}:bh (qG (fun x y=>gr n (tr p (a,b)) x y\/S x y) a b) x y↔bh (qG (fun x y=>gr n p x y\/S x y) a b) x y:=by
 have ab:∀R:Nat->Nat->Prop,bh (qG R a b) a b:=fun R=>.rel (.inr ⟨rfl,rfl⟩);constructor
 .refine bh.mono fun u v r=>?_;rcases r with (⟨hu,rfl⟩|s)|⟨rfl,rfl⟩
  .unfold tr;simp only;by_cases c:u=a
   .subst c;rw[if_pos rfl];exact(ab _).trans (.rel (.inl (.inl ⟨hb,rfl⟩)))
   rw[if_neg c];by_cases d:u=b
   .subst d;rw[if_pos rfl];exact(ab _).symm.trans (.rel (.inl (.inl ⟨ha,rfl⟩)))
   rw[if_neg d];exact .rel (.inl (.inl ⟨hu,rfl⟩))
  .exact .rel (.inl (.inr s))
  exact ab _
 refine bh.mono fun u v r=>?_;rcases r with (⟨hu,rfl⟩|s)|⟨rfl,rfl⟩
 .by_cases c:u=a
  .subst c;refine(ab _).trans (.rel (.inl (.inl ⟨hb,?_⟩)));unfold tr;simp only;by_cases d:b=u
   .rw[if_pos d,d]
   rw[if_neg d];simp
  by_cases d:u=b
  .subst d;refine(ab _).symm.trans (.rel (.inl (.inl ⟨ha,?_⟩)));unfold tr;rw[if_pos rfl]
  refine .rel (.inl (.inl ⟨hu,?_⟩));unfold tr;rw[if_neg c,if_neg d]
 .exact .rel (.inl (.inr s))
 exact ab _
abbrev inT(ts:List (Nat×Nat))(x y:Nat):Prop:=(x,y)∈ts
abbrev xC(n:Nat)(p:Nat->Nat)(ts:List (Nat×Nat))(x y:Nat):Prop:=gr n p x y\/inT ts x y
theorem akS{n:Nat}:∀(ts:List (Nat×Nat)) (p:Nat->Nat),Perm n p->(∀t∈ts,t.1<n/\t.2<n)->
  K (bh (gr n (ts.foldl tr p))) n+K (bh (gr n p)) n<=2*K (bh (xC n p ts)) n+ts.length:=by
 intro ts
 induction ts with
 |nil=>
  intro p _ _;have:K (bh (xC n p [])) n=K (bh (gr n p)) n:=Hs (fun x y=>⟨bh.mono (R:=xC n p []) (R':=gr n p) (fun u v r=>by
   rcases r with r|r
   .exact .rel r
   cases r),bh.mono (R:=gr n p) (R':=xC n p []) (fun u v r=>.rel (.inl r))⟩) n
  rw[this];simp only[List.foldl_nil,dN];omega
 |cons t ts ih=>
  intro p hp ht;obtain⟨a,b⟩:=t;obtain⟨ha,hb⟩:=ht (a,b) af
  replace ha:a<n:=ha
  replace hb:b<n:=hb
  have ih:=ih (tr p (a,b)) (hp.tr ha hb) fun t h=>ht t (by simp[h]);have all:∀x y,bh (xC n p ((a,b)::ts)) x y↔bh (qG (xC n (tr p (a,b)) ts) a b) x y:=fun x y=>by
   refine Iff.trans ⟨bh.mono fun u v r=>?_,bh.mono fun u v r=>?_⟩ (R6 (S:=inT ts) ha hb).symm
   .rcases r with r|r
    .exact .rel (.inl (.inl r))
    rcases cM.1 r with r|r
    .cases r;exact .rel (.inr ⟨rfl,rfl⟩)
    exact .rel (.inl (.inr r))
   rcases r with (r|r)|⟨rfl,rfl⟩
   .exact .rel (.inl r)
   .exact .rel (.inr (w6 _ r))
   exact .rel (.inr (Hl ..))
  have one:∀x y,bh (qG (gr n (tr p (a,b))) a b) x y↔bh (qG (gr n p) a b) x y:=fun x y=>by have h:=R6 (p:=p) (S:=fun _ _=>False) ha hb (x:=x) (y:=y);have e:∀q:Nat->Nat,(fun x y=>gr n q x y\/False)=gr n q:=fun q=>funext fun x=>funext fun y=>propext af;rw[e,e] at h;exact h
  rw[Hs all];simp only[zZ,cq];have kj:K (bh (qG (gr n (tr p (a,b))) a b)) n=K (bh (qG (gr n p) a b)) n:=Hs one n;have sm:∀R:Nat->Nat->Prop,bh R a b->K (bh (qG R a b)) n=K (bh R) n:=fun R h=>Rx h n;have jn:∀R:Nat->Nat->Prop,¬bh R a b->K (bh R) n=K (bh (qG R a b)) n+1:=fun R h=>Rw ha hb h;rcases Classical.em (bh (gr n p) a b) with c|c
  .have k1:=sm _ c;rcases Classical.em (bh (gr n (tr p (a,b))) a b) with d|d
   .have k2:=sm _ d;have k3:=sm _ (d.mono (R':=xC n (tr p (a,b)) ts) fun u v r=>.rel (.inl r));omega
   have k2:=jn _ d;rcases Classical.em (bh (xC n (tr p (a,b)) ts) a b) with d2|d2
   .have k3:=sm _ d2;omega
   have k3:=jn _ d2;omega
  have k1:=jn _ c;have d:=ag0 hp ha hb c;have k2:=sm _ d;have k3:=sm _ (d.mono (R':=xC n (tr p (a,b)) ts) fun u v r=>.rel (.inl r));omega
def rv (x:Nat):Nat:=if x%2=0 then x+1 else x-1
theorem vv(k:Nat):rv (2*k)=2*k+1:=by unfold rv;rw[if_pos aa]
theorem Bh(k:Nat):rv (2*k+1)=2*k:=by unfold rv;rw[if_neg aa];rfl
theorem Bj(x:Nat):rv (rv x)=x:=by
 rcases xf x with h|h
 .rw[show x=2*(x/2) by omega,vv,Bh]
 rw[show x=2*(x/2)+1 by omega,Bh,vv]
theorem Bi{m:Nat}(h:x<2*m):rv x<2*m:=by unfold rv;split<;>omega
theorem Df(n v:Nat)(g:Bool):rv (dD n v g)=iX n v (!g):=by
 cases g with
 |true=>exact vv _
 |false=>exact Bh _
theorem ar5(n v:Nat)(g:Bool):rv (iX n v g)=dD n v (!g):=by
 cases g with
 |true=>exact vv _
 |false=>exact Bh _
theorem BM{n v:Nat}(hv:v<n)(g:Bool):iX n v g<2*n:=by have:=dQ (v+n-1) (show 0<n by omega);unfold iX;split<;>omega
theorem Of{n:Nat}(hx:x<2*n):x=iX n (if x%2=0 then (x/2+1)%n else x/2) (x%2==0):=by
 unfold iX;rcases xf x with h|h
 .simp only[h,beq_self_eq_true,if_true];rw[EO aa];omega
 simp only[h,show((1:Nat)==0)=false from rfl,dx,if_false,Nat.one_ne_zero];omega
section
variable {F:Nat} {ls:List Let}
theorem ag4{v:Nat}{l:Let}(hl:ls[v]?=some l)(fw:Bool):aT ls (iX ls.length v fw)=if l.kind==2 then dD ls.length (ib ls v) (fw==(l.over==(l.sign==1)))
   else if dn ls v==fw then 2*ls.length+2*(aE ls).idxOf v else 2*ls.length+2*(((aE ls).idxOf v+(aE ls).length-1)%(aE ls).length)+1:=by
 have hv:=(aS.1 hl).1;have aw:=BM hv fw;refine ag3 aa ?_ ?_ hl
 .unfold iX;cases fw<;>simp
 unfold iX;cases fw with
 |true=>simp only[if_true];rw[show 2*((v+ls.length-1)%ls.length)/2=(v+ls.length-1)%ls.length by omega,wP hv]
 |false=>simp only[dx,if_false];omega
theorem Br{v:Nat}{l:Let}(hl:ls[v]?=some l)(hc:l.aC=true)(fw:Bool):aT ls (iX ls.length v fw)=dD ls.length (ib ls v) (fw==(l.over==(l.sign==1))):=by rw[ag4 hl];unfold Let.aC at hc;rw[if_pos hc]
theorem NI{v:Nat}{l:Let}(hl:ls[v]?=some l)(hp:l.aA=true)(fw:Bool):aT ls (iX ls.length v fw)=if dn ls v==fw then 2*ls.length+2*(aE ls).idxOf v else 2*ls.length+2*(((aE ls).idxOf v+(aE ls).length-1)%(aE ls).length)+1:=by have:=n9 hp;unfold Let.aC at this;rw[ag4 hl,if_neg (by rw[this];decide)]
theorem Kb(k:Nat):aT ls (2*ls.length+2*k)=dD ls.length ((aE ls).getD ((k+1)%(aE ls).length) 0) (!dn ls ((aE ls).getD ((k+1)%(aE ls).length) 0)):=by show nE _ _ _=_;unfold nE;rw[if_pos aa,if_pos aa,show(2*ls.length+2*k-2*ls.length)/2=k by omega]
theorem Ka(k:Nat):aT ls (2*ls.length+2*k+1)=dD ls.length ((aE ls).getD k 0) (dn ls ((aE ls).getD k 0)):=by show nE _ _ _=_;unfold nE;rw[if_pos aa,if_neg aa,show(2*ls.length+2*k+1-2*ls.length)/2=k by omega]
theorem Fy{k:Nat}(hk:k<(aE ls).length):∃l,ls[(aE ls).getD k 0]?=some l/\l.aA=true:=by obtain⟨v,hv⟩:=aK hk;rw[de,hv,mS];exact uS.1 (aU hv)
theorem KB{v:Nat}{l:Let}(ok:eS F ls)(hl:ls[v]?=some l)(hp:l.aA=true):(aE ls).idxOf v<(aE ls).length/\(aE ls).getD ((aE ls).idxOf v) 0=v:=by have h1:=Oh ok.ax hl hp;rw[HC ok.ax hl hp];exact⟨(aS.1 h1).1,by rw[de,h1];rfl⟩
theorem agQ(ok:eS F ls){v:Nat}(hv:v<ls.length)(fw:Bool):aT ls (rv (aT ls (iX ls.length v fw)))=dD ls.length v fw:=by
 obtain⟨l,hl⟩:=aK hv;rcases ok.kinds l (aU hl) with hp|hc
 .obtain⟨h1,h2⟩:=KB ok hl hp;rw[NI hl hp];by_cases c:(dn ls v==fw)=true
  .rw[if_pos c,show 2*ls.length+2*(aE ls).idxOf v=2*(ls.length+(aE ls).idxOf v) by omega,vv,show 2*(ls.length+(aE ls).idxOf v)+1=2*ls.length+2*(aE ls).idxOf v+1 by omega,Ka,h2];rw[eq_of_beq c]
  rw[if_neg c];have c:dn ls v= !fw:=by revert c;cases dn ls v<;>cases fw<;>simp
  have hm:=dQ ((aE ls).idxOf v+(aE ls).length-1) (show 0<(aE ls).length by omega);rw[show 2*ls.length+2*(((aE ls).idxOf v+(aE ls).length-1)%(aE ls).length)+1=2*(ls.length+((aE ls).idxOf v+(aE ls).length-1)%(aE ls).length)+1 by omega,Bh,
   show 2*(ls.length+((aE ls).idxOf v+(aE ls).length-1)%(aE ls).length)=2*ls.length+2*(((aE ls).idxOf v+(aE ls).length-1)%(aE ls).length) by omega,Kb,wP h1,h2,c,Bool.not_not]
 obtain⟨h1,m,hm,mc,mi,mo,ms⟩:=rl ok.cr hl hc;rw[Br hl hc,Df,Br hm mc,h1,mo,ms];cases fw<;>cases l.over<;>cases (l.sign==1)<;>rfl
def xP(ls:List Let)(x:Nat):Nat:=
 if 2*ls.length<=x then (if x%2=0 then (aE ls).getD (((x-2*ls.length)/2+1)%(aE ls).length) 0 else (aE ls).getD ((x-2*ls.length)/2) 0)
 else if x%2=0 then (x/2+1)%ls.length else x/2
def acL(ls:List Let)(x:Nat):Bool:=decide (2*ls.length<=x)||(match ls[xP ls x]? with|some l=>l.aC&&l.over|none=>false)
def kS(ls:List Let)(i:Nat):Int×Int:=match ls[i]? with|some l=>if l.aC then (1,l.id) else (0,i)|none=>(2,0)
theorem Ma{v:Nat}(hv:v<ls.length)(fw:Bool):xP ls (iX ls.length v fw)=v:=by
 have aw:=BM hv fw;unfold xP;rw[if_neg aa];unfold iX;cases fw with
 |true=>simp only[if_true];rw[if_pos aa,show 2*((v+ls.length-1)%ls.length)/2=(v+ls.length-1)%ls.length by omega,wP hv]
 |false=>simp only[dx,if_false];rw[if_neg aa];omega
theorem RZ{v:Nat}{l:Let}(hl:ls[v]?=some l)(fw:Bool):acL ls (iX ls.length v fw)=(l.aC&&l.over):=by have hv:=(aS.1 hl).1;have aw:=BM hv fw;unfold acL;rw[Ma hv,hl];have:¬2*ls.length<=iX ls.length v fw:=aa;simp[this]
theorem ab9(k:Nat):xP ls (2*ls.length+2*k)=(aE ls).getD ((k+1)%(aE ls).length) 0:=by unfold xP;rw[if_pos aa,if_pos aa,show(2*ls.length+2*k-2*ls.length)/2=k by omega]
theorem ab8(k:Nat):xP ls (2*ls.length+2*k+1)=(aE ls).getD k 0:=by unfold xP;rw[if_pos aa,if_neg aa,show(2*ls.length+2*k+1-2*ls.length)/2=k by omega]
theorem R0(h:2*ls.length<=x):acL ls x=true:=by unfold acL;simp[h]
theorem aui(ok:eS F ls)(hx:x<nD ls):kS ls (xP ls (rv (aT ls x)))=kS ls (xP ls x)/\acL ls (rv (aT ls x))= !acL ls x:=by
 unfold nD at hx;rcases Nat.lt_or_ge x (2*ls.length) with c|c
 .have hv:(if x%2=0 then (x/2+1)%ls.length else x/2)<ls.length:=by
   have:=dQ (x/2+1) (show 0<ls.length by omega);split<;>omega
  rw[Of c];generalize (if x%2=0 then (x/2+1)%ls.length else x/2)=v at hv;generalize (x%2==0)=fw;obtain⟨l,hl⟩:=aK hv;rw[Ma hv,RZ hl];rcases ok.kinds l (aU hl) with hp|hc
  .obtain⟨h1,h2⟩:=KB ok hl hp;rw[n9 hp,NI hl hp];by_cases d:(dn ls v==fw)=true
   .rw[if_pos d,show 2*ls.length+2*(aE ls).idxOf v=2*(ls.length+(aE ls).idxOf v) by omega,vv,show 2*(ls.length+(aE ls).idxOf v)+1=2*ls.length+2*(aE ls).idxOf v+1 by omega,ab8,h2,R0 aa];exact⟨rfl,rfl⟩
   rw[if_neg d,show 2*ls.length+2*(((aE ls).idxOf v+(aE ls).length-1)%(aE ls).length)+1=2*(ls.length+((aE ls).idxOf v+(aE ls).length-1)%(aE ls).length)+1 by omega,Bh,
    show 2*(ls.length+((aE ls).idxOf v+(aE ls).length-1)%(aE ls).length)=2*ls.length+2*(((aE ls).idxOf v+(aE ls).length-1)%(aE ls).length) by omega,ab9,wP h1,h2,R0 aa]
   exact⟨rfl,rfl⟩
  obtain⟨h1,m,hm,mc,mi,mo,ms⟩:=rl ok.cr hl hc;have hw:=(aS.1 hm).1;rw[Br hl hc,Df,Ma hw,RZ hm];unfold kS;simp[hl,hm,hc,mc,mi,mo]
 rw[R0 c];have key:∀k,k<(aE ls).length->∀g,kS ls (xP ls (rv (dD ls.length ((aE ls).getD k 0) g)))=kS ls ((aE ls).getD k 0)/\acL ls (rv (dD ls.length ((aE ls).getD k 0) g))= !true:=fun k hk g=>by obtain⟨l,hl,hp⟩:=Fy hk;rw[Df,Ma (aS.1 hl).1,RZ hl,n9 hp];exact⟨rfl,rfl⟩
 rcases xf x with d|d
 .rw[show x=2*ls.length+2*((x-2*ls.length)/2) by omega,Kb,ab9];exact key _ (dQ _ aa) _
 rw[show x=2*ls.length+2*((x-2*ls.length)/2)+1 by omega,Ka,ab8];exact key _ aa _
end
theorem auv{next:Nat->Nat}{N:Nat}{R:Nat->Nat->Prop}(aw:∀x,x<N->next x<N)(h:∀x,x<N->bh R x (next x)):∀(k x:Nat) (S:List Bool),x<N->∀y∈(fQ next k x S).1,bh R x y:=by
 intro k
 induction k with
 |zero=>intro x S _ y hy;simp[fQ] at hy
 |succ k ih=>
  intro x S hx y hy;unfold fQ at hy;split at hy
  .simp at hy
  rcases cM.1 hy with rfl|hy
  .exact .refl _
  exact(h x hx).trans (ih (next x) _ (aw x hx) y hy)
theorem auD{next:Nat->Nat}{N:Nat}(m:yJ next n2 N){R:Nat->Nat->Prop}(h:∀x,x<N->bh R x (next x)):∀k,k<=N->∀w∈(dR next N k).1,∀x∈w,∀y∈w,bh R x y:=by
 intro k
 induction k with
 |zero=>intro _ w hw;simp[dR] at hw
 |succ k ih=>
  intro hk w hw x hx y hy;rw[Bv] at hw;unfold yD at hw;split at hw
  .exact ih aa w hw x hx y hy
  rcases eF.1 hw with hw|hw
  .exact ih aa w hw x hx y hy
  simp only[mR] at hw;subst hw;have hj:=auv (R:=R) m.lt h ((dR next N k).2.length+1) k (dR next N k).2 aa;exact(hj x hx).symm.trans (hj y hy)
theorem auG{next:Nat->Nat}{N:Nat}(m:yJ next n2 N):∀k,k<=n2->∀w∈(dR next N k).1,∀x∈w,next x∈w:=by
 intro k
 induction k with
 |zero=>intro _ w hw;simp[dR] at hw
 |succ k ih=>
  intro hk w hw x hx;obtain⟨c0,_⟩:=Ri m k aa;obtain⟨c1,_⟩:=Ri m (k+1) hk;rw[Bv] at hw c1;unfold yD at hw c1;cases hs:(dR next N k).2.getD k true with
  |true=>rw[hs,if_pos rfl] at hw;exact ih aa w hw x hx
  |false=>
   rw[hs,if_neg ae] at hw c1;rcases eF.1 hw with hw|hw
   .exact ih aa w hw x hx
   simp only[mR] at hw;subst hw;obtain⟨g1,g2,g3⟩:=ahe next ((dR next N k).2.length+1) k (dR next N k).2;have AW:x<N:=by have:=QW (g1 x hx);have:=Kg next N k;omega
   have e0:=c0 x AW;have e1:=c1 x AW;rw[g3,g3,g1 x hx] at e1;rw[g1 x hx] at e0;simp only[Bw,hx,decide_true,<- e0] at e1;exact of_decide_eq_true e1.symm
theorem Fe{next:Nat->Nat}{N:Nat}(m:yJ next n2 N){w:List Nat}(hw:w∈js next N)(hx:x∈w):next x∈w:=by unfold js at hw;rw[Xu m N m.le (aX _)] at hw;exact auG m n2 (aX _) w hw x hx
theorem Xw{next:Nat->Nat}{N:Nat}(m:yJ next n2 N){R:Nat->Nat->Prop}(h:∀x,x<N->bh R x (next x)){w:List Nat}(hw:w∈js next N){x y:Nat}(hx:x∈w)(hy:y∈w):bh R x y:=auD m h N (aX _) w hw x hx y hy
def Dp(L:List (List Nat))(x:Nat):Nat:=L.findIdx fun w=>w.contains x
theorem NO{L:List (List Nat)}(h:L.flatten.Nodup){i:Nat}{w:List Nat}(hi:L[i]?=some w)(hx:x∈w):Dp L x=i:=by
 have hm:w.contains x=true:=by simpa using hx
 have aw:L.findIdx (fun w=>w.contains x)<L.length:=List.findIdx_lt_length_of_exists ⟨w,aU hi,hm⟩;have hp:=List.findIdx_getElem (w:=aw);have hj:L[L.findIdx fun w=>w.contains x]?=some (L[L.findIdx fun w=>w.contains x]'aw):=nG aw;exact aeL h hj hi (by simpa using hp) hx
theorem anH:∀ {L:List (List Nat)},L.flatten.Nodup->(∀w∈L,w≠[])->((L.map (·.headD 0)).map (Dp L))=List.range L.length:=by
 intro L h aF;apply vF;intro i;rw[fR,fR];by_cases hi:i<L.length
 .have e:=nG hi;rw[e,te hi];simp only[jZ];have hw:=aF _ (aU e);rw[NO h e (x:=L[i].headD 0) (by
   cases hL:L[i] with
   |nil=>exact absurd hL hw
   |cons a r=>simp)]
 rw[lS aa,lS (by simp;omega)];rfl
def fx (b:Bool)(s:Nat):Nat:=if b then 1-s else s
theorem OY{b:Bool}{s:Nat}(h:s<2):fx b s<2:=by unfold fx;split<;>omega
theorem aby{b:Bool}{s:Nat}(h:s<2):fx b (fx b s)=s:=by unfold fx;cases b<;>simp;omega
def tk(p:Nat->Bool)(y:Nat):Nat:=2*rv (y/2)+fx (p (y/2)) (y%2)
def sgC(p:Nat->Bool)(nx:Nat->Nat)(y:Nat):Nat:=2*nx (rv (y/2))+fx (p (y/2)) (y%2)
def tsC(p:Nat->Bool)(k:Nat):List (Nat×Nat):=(List.range k).flatMap fun e=>[(4*e,tk p (4*e)),(4*e+1,tk p (4*e+1))]
theorem R7(p:Nat->Bool)(e:Nat):tk p (4*e)=if p (2*e) then 4*e+3 else 4*e+2:=by unfold tk fx;rw[show 4*e/2=2*e by omega,vv,show 4*e%2=0 by omega];split<;>omega
theorem R8(p:Nat->Bool)(e:Nat):tk p (4*e+1)=if p (2*e) then 4*e+2 else 4*e+3:=by unfold tk fx;rw[show(4*e+1)/2=2*e by omega,vv,show(4*e+1)%2=1 by omega];split<;>omega
theorem ah6{p:Nat->Bool}(hp:∀x,p (rv x)=p x)(e:Nat):tk p (4*e+2)=if p (2*e) then 4*e+1 else 4*e:=by unfold tk fx;rw[show(4*e+2)/2=2*e+1 by omega,Bh,show(4*e+2)%2=0 by omega,<- hp (2*e),vv];split<;>omega
theorem ah7{p:Nat->Bool}(hp:∀x,p (rv x)=p x)(e:Nat):tk p (4*e+3)=if p (2*e) then 4*e else 4*e+1:=by unfold tk fx;rw[show(4*e+3)/2=2*e+1 by omega,Bh,show(4*e+3)%2=1 by omega,<- hp (2*e),vv];split<;>omega
theorem auf(p:Nat->Bool){k e:Nat}(h:e<k):(4*e,tk p (4*e))∈tsC p k/\(4*e+1,tk p (4*e+1))∈tsC p k:=
 ⟨List.mem_flatMap.2 ⟨e,fm.2 h,af⟩,List.mem_flatMap.2 ⟨e,fm.2 h,af⟩⟩
theorem ad8{α β:Type}{P:α->β->Prop}{f:β->α}(hf:∀a b,P a b->f b=a):∀ {L:List α},(∀a∈L,∃b,P a b)->∃M:List β,M.map f=L/\ ∀b∈M,∃a∈L,P a b:=by
 intro L
 induction L with
 |nil=>intro _;exact⟨[],rfl,af⟩
 |cons a L ih=>
  intro h;obtain⟨b,hb⟩:=h a af;obtain⟨M,h1,h2⟩:=ih fun x hx=>h x (by simp[hx]);refine⟨b::M,by rw[dG,h1,hf a b hb],fun x hx=>?_⟩;rcases cM.1 hx with rfl|hx
  .exact⟨a,af,hb⟩
  obtain⟨c,hc,hp⟩:=h2 x hx;exact⟨c,by simp[hc],hp⟩
section
variable {F:Nat} {ls:List Let}
theorem aiL(ok:eS F ls):(aE ls).Nodup:=by have:=Ym ok.ax ls.length (aX _);refine List.Pairwise.imp (fun {a b} h e=>?_) this;subst e;exact absurd h (Nat.lt_irrefl _)
theorem ad5(ok:eS F ls):ls.length=ay Let.aA ls+ay Let.aC ls:=by
 have:∀l:List Let,(∀x∈l,x.aA=true\/x.aC=true)->l.length=ay Let.aA l+ay Let.aC l:=by
  intro l
  induction l with
  |nil=>intro _;rfl
  |cons a l ih=>
   intro h;have ih:=ih fun x hx=>h x (by simp[hx]);unfold ay at ih ⊢;rw[wZ,wZ,cq,ih];rcases h a af with c|c
   .rw[c,n9 c];simp;omega
   have:a.aA=false:=by cases hp:a.aA;rfl;rw[n9 hp] at c;cases c
   rw[c,this];simp;omega
 exact this ls ok.kinds
theorem aum(ok:eS F ls):∃L:List Nat,L.length=ay Let.aA ls+ay Let.aC ls/2/\(∀j∈L,j<ls.length)/\(L.map (kS ls)).Nodup:=by
 have hc:=ok.cr;unfold kW at hc;simp only[cH,beq_iff_eq] at hc;have hid:=hc.2
 let ids:List (Int×Int):=(eE ls ls.length).map fun id=>(1,id)
 have amx:∀a∈ids,∃j,(kS ls j=a/\j<ls.length):=by intro a ha;obtain⟨id,hi,rfl⟩:=dq.1 ha;obtain⟨j,o,hj,hh⟩:=(Gv (aX _)).1 hi;obtain⟨m,hm,mc,mi,_⟩:=Ay hh;refine⟨j,?_,hj⟩;unfold kS;rw[hm];simp[mc,mi]
 obtain⟨M,m1,m2⟩:=ad8 (P:=fun a j=>kS ls j=a/\j<ls.length) (f:=kS ls) (fun a b h=>h.1) amx;have nL:∀i∈aE ls,i<ls.length/\kS ls i=(0,(i:Int)):=fun i hi=>by obtain⟨l,hl,hp⟩:=uS.1 hi;refine⟨(aS.1 hl).1,?_⟩;unfold kS;rw[hl];simp[n9 hp]
 refine⟨aE ls++M,?_,fun j hj=>?_,?_⟩
 .have:M.length=(eE ls ls.length).length:=by
   have:=congrArg List.length m1
   simpa [ids] using this
  rw[dX,this,hid,HB]
 .rcases eF.1 hj with hj|hj
  .exact(nL j hj).1
  obtain⟨_,_,h⟩:=m2 j hj;exact h.2
 rw[km,m1,Hn];refine⟨?_,?_,?_⟩
 .have:(aE ls).map (kS ls)=(aE ls).map fun i:Nat=>((0:Int),(i:Int)):=vH fun i hi=>(nL i hi).2;rw[this];refine yG.2 (List.Pairwise.imp (fun {a b} h e=>h ?_) (aiL ok));have:=congrArg Prod.snd e;simp only at this;omega
 .refine yG.2 (List.Pairwise.imp (fun {a b} h e=>h ?_) (PB ls ls.length));exact congrArg Prod.snd e
 intro a ha b hb e;obtain⟨i,hi,rfl⟩:=dq.1 ha;obtain⟨id,_,rfl⟩:=dq.1 hb;rw[(nL i hi).2] at e;have:=congrArg Prod.fst e;simp at this
end
section
variable {F:Nat} {ls:List Let} {p:Nat->Bool}
abbrev cvR(ls:List Let)(p:Nat->Bool):Nat->Nat->Prop:=xC (2*nD ls) (sgC p (aT ls)) (tsC p (ls.length+(aE ls).length))
theorem GH(ls:List Let):nD ls=2*(ls.length+(aE ls).length):=by unfold nD;omega
theorem aj6(hp:∀x,p (rv x)=p x){y:Nat}(hy:y<2*nD ls):bh (cvR ls p) y (tk p y):=by
 have hN:=GH ls;obtain⟨h1,h2⟩:=auf p (k:=ls.length+(aE ls).length) (e:=y/4) aa;have r1:bh (cvR ls p) (4*(y/4)) (tk p (4*(y/4))):=.rel (.inr h1);have r2:bh (cvR ls p) (4*(y/4)+1) (tk p (4*(y/4)+1)):=.rel (.inr h2);have a2:=ah6 hp (y/4);have a3:=ah7 hp (y/4);rcases(by omega:y=4*(y/4)\/y=4*(y/4)+1\/y=4*(y/4)+2\/y=4*(y/4)+3) with e|e|e|e
 .rw[<- e] at r1;exact r1
 .rw[<- e] at r2;exact r2
 .rw[<- e] at a2;rw[a2];rw[R7] at r1;rw[R8] at r2;by_cases c:p (2*(y/4))=true
  .rw[if_pos c] at r2 ⊢;rw[<- e] at r2;exact r2.symm
  rw[if_neg c] at r1 ⊢;rw[<- e] at r1;exact r1.symm
 rw[<- e] at a3;rw[a3];rw[R7] at r1;rw[R8] at r2;by_cases c:p (2*(y/4))=true
 .rw[if_pos c] at r1 ⊢;rw[<- e] at r1;exact r1.symm
 rw[if_neg c] at r2 ⊢;rw[<- e] at r2;exact r2.symm
theorem Zx(hp:∀x,p (rv x)=p x){x s:Nat}(hx:x<nD ls)(hs:s<2):bh (cvR ls p) (2*x+s) (2*rv x+fx (p x) s):=by have:=aj6 (ls:=ls) hp (y:=2*x+s) aa;unfold tk at this;rwa[show(2*x+s)/2=x by omega,show(2*x+s)%2=s by omega] at this
theorem Zw(hp:∀x,p (rv x)=p x){x s:Nat}(hx:x<nD ls)(hs:s<2):bh (cvR ls p) (2*x+s) (2*aT ls x+s):=by
 have hN:=GH ls;have hf:fx (p x) s<2:=OY hs;refine(Zx hp hx hs).trans (.rel (.inl ⟨?_,?_⟩))
 .have:rv x<nD ls:=by rw[hN];exact Bi aa
  omega
 unfold sgC;rw[show(2*rv x+fx (p x) s)/2=rv x by omega,show(2*rv x+fx (p x) s)%2=fx (p x) s by omega,Bj,hp,aby hs]
def Ap(ls:List Let)(p:Nat->Bool)(x:Nat):Prop:= ∃b,∀s,s<2->bh (cvR ls p) (2*x+s) (fx b s)
theorem al7(ls:List Let)(p:Nat->Bool):Ap ls p 0:=⟨false,fun s _=>by rw[show 2*0+s=s by omega];exact .refl _⟩
theorem alR(a b:Bool){s:Nat}(h:s<2):fx a (fx b s)=fx (a !=b) s:=by unfold fx;cases a<;>cases b<;>simp;omega
theorem abP(hp:∀x,p (rv x)=p x){x:Nat}(hx:x<nD ls)(h:Ap ls p x):Ap ls p (rv x):=by obtain⟨b,h⟩:=h;refine⟨b !=p x,fun s hs=>?_⟩;have h1:=(Zx hp hx (s:=fx (p x) s) (OY hs)).symm.trans (h (fx (p x) s) (OY hs));rwa[aby hs,alR _ _ hs] at h1
theorem abO(hp:∀x,p (rv x)=p x){x:Nat}(hx:x<nD ls)(h:Ap ls p x):Ap ls p (aT ls x):=by obtain⟨t,h⟩:=h;exact⟨t,fun s hs=>(Zw hp hx hs).symm.trans (h s hs)⟩
theorem al6(hp:∀x,p (rv x)=p x){x:Nat}(hx:x<nD ls)(h:Ap ls p (aT ls x)):Ap ls p x:=by obtain⟨t,h⟩:=h;exact⟨t,fun s hs=>(Zw hp hx hs).trans (h s hs)⟩
theorem al5(hp:∀x,p (rv x)=p x)(ok:eS F ls){x:Nat}(hx:x<nD ls):Ap ls p x:=by
 have m:=maps ok;have hN:=GH ls;have IX:∀y,y<nD ls->rv y<nD ls:=fun y hy=>by rw[hN] at hy ⊢;exact Bi hy
 have fwd:∀i,i<ls.length->Ap ls p (2*i):=by
  intro i
  induction i with
  |zero=>intro _;exact al7 ls p
  |succ i ih=>
   intro hi;have h0:=ih aa;have h2:2*i<nD ls:=aa;have h3:=abO hp h2 h0;have h4:=m.lt _ h2;have h5:=abO hp (IX _ h4) (abP hp h4 h3);have e:2*i=iX ls.length (i+1) true:=by unfold iX;rw[if_pos rfl,show i+1+ls.length-1=i+ls.length by omega,w9,gD aa]
   rw[e,agQ ok hi] at h5;exact h5
 have str:∀y,y<2*ls.length->Ap ls p y:=fun y hy=>by
  rcases xf y with c|c
  .rw[show y=2*(y/2) by omega];exact fwd _ aa
  have:=abP hp (x:=2*(y/2)) aa (fwd (y/2) aa);rw[vv] at this;rw[show y=2*(y/2)+1 by omega];exact this
 rcases Nat.lt_or_ge x (2*ls.length) with c|c
 .exact str x c
 exact al6 hp hx (str _ (m.ax x hx c))
end
section
variable {F:Nat} {ls:List Let}
end
theorem auF{next:Nat->Nat}{N:Nat}(m:yJ next n2 N){α:Type}{φ:Nat->α}(hφ:∀x,x<N->φ (next x)=φ x){reps:List Nat}(hr:∀x∈reps,x<N)(hn:(reps.map φ).Nodup):reps.length<=(js next N).length:=by
 have MG:=Kh next N;have nh:∀x,x<N->∃(i:Nat) (w:List Nat),(js next N)[i]?=some w/\x∈w/\Dp (js next N) x=i:=fun x hx=>by obtain⟨w,hw,EC⟩:=Hm.1 (MG.2 x hx);obtain⟨i,hi⟩:=jD hw;exact⟨i,w,hi,EC,NO MG.1 hi EC⟩
 have amz:∀a b,bh (fun x y=>x<N/\y=next x) a b->φ a=φ b:=fun a b h=>by
  induction h with
  |rel h=>rw[h.2,hφ _ h.1]
  |refl _=>rfl
  |symm _ ih=>exact ih.symm
  |trans _ _ h1 h2=>exact h1.trans h2
 have AU:∀x,x<N->∀y,y<N->Dp (js next N) x=Dp (js next N) y->φ x=φ y:=fun x hx y hy e=>by obtain⟨i,w,hi,EC,e1⟩:=nh x hx;obtain⟨j,v,hj,hyv,e2⟩:=nh y hy;rw[e1,e2] at e;subst e;rw[hi] at hj;cases hj;exact amz x y (Xw m (R:=fun x y=>x<N/\y=next x) (fun z hz=>.rel ⟨hz,rfl⟩) (aU hi) EC hyv)
 have h1:(reps.map (Dp (js next N))).Nodup:=by unfold List.Nodup at hn ⊢;rw[yG] at hn ⊢;refine hn.imp_of_mem fun {x y} hx hy h e=>?_;exact h (AU x (hr x hx) y (hr y hy) e)
 have h2:∀i∈reps.map (Dp (js next N)),i∈List.range (js next N).length:=fun i hi=>by obtain⟨x,hx,rfl⟩:=dq.1 hi;obtain⟨i,w,hi,_,e⟩:=nh x (hr x hx);rw[e];exact fm.2 (aS.1 hi).1
 have:=JV _ _ h1 h2;rwa[cF,Dx] at this
end
end Go.Abs
