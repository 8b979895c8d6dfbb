/-
  Walks around faces; a bound on the number of faces.
-/
import Derived.Test.YtkfngecllhhooaaGreatDoorWs
set_option linter.all false
set_option maxHeartbeats 16000000
namespace Go.Abs
section
variable{n2 x:Nat}
theorem JH{S:List Bool}(h:sn S x=false):x<S.length:=by
 rcases Nat.lt_or_ge x S.length with h1|h1
 .exact h1
 rw[sn,aaC,abS h1] at h;cases h
theorem xH(next:Nat->Nat):∀(k x:Nat) (S:List Bool),(∀y∈(cS next k x S).1,sn S y=false)/\(cS next k x S).1.Nodup/\ ∀y,sn (cS next k x S).2 y=(sn S y||decide (y∈(cS next k x S).1)):=by
 intro k
 induction k with
 |zero=>intro x S;simp[cS]
 |succ k ih=>
  intro x S;unfold cS;cases hx:S.getD x true with
  |true=>simp
  |false=>
   have hl:=JH (S:=S) (x:=x) hx;obtain⟨h1,h2,h3⟩:=ih (next x) (S.set x true);simp only[aaE,if_false];have aaH:∀y,sn (S.set x true) y=if y=x then true else sn S y:=fun y=>xX hl;refine⟨fun y hy=>?_,?_,fun y=>?_⟩
   .rcases aat.1 hy with rfl|hy
    .exact hx
    have:=h1 y hy;rw[aaH] at this;split at this
    .cases this
    exact this
   .refine abQ.2 ⟨fun hm=>?_,h2⟩;have:=h1 x hm;rw[aaH,if_pos rfl] at this;cases this
   rw[h3,aaH];by_cases e:y=x
   .subst e;simp
   rw[if_neg e];have:decide (y∈x::(cS next k (next x) (S.set x true)).1)=decide (y∈(cS next k (next x) (S.set x true)).1):=by simp[e]
   rw[this]
theorem EI(next:Nat->Nat)(N:Nat):∀k,(aL next N k).1.flatten.Nodup/\(∀y,y<N->sn (aL next N k).2 y=decide (y∈(aL next N k).1.flatten))/\(∀y∈(aL next N k).1.flatten,y<N)/\ ∀x,x<k->x<N->sn (aL next N k).2 x=true:=by
 intro k
 induction k with
 |zero=>refine⟨by simp[aL],fun y hy=>?_,by simp[aL],fun x hx=>absurd hx (abW x)⟩;have:(aL next N 0).2=List.replicate N false:=rfl;rw[this,HD hy];simp[aL]
 |succ k ih=>
  obtain⟨h1,h2,h4,h3⟩:=ih;rw[eh];unfold fP;have hlen:=jw next N k;cases hk:(aL next N k).2.getD k true with
  |true=>
   rw[if_pos rfl];refine⟨h1,h2,h4,fun x hx hxN=>?_⟩;rcases abC.1 hx with h|rfl
   .exact h3 x h hxN
   exact hk
  |false=>
   rw[if_neg (by decide)];have hkN:k<N:=by have:=JH (S:=(aL next N k).2) hk;omega
   obtain⟨g1,g2,g3⟩:=xH next ((aL next N k).2.length+1) k (aL next N k).2;have aeM:=vX next ((aL next N k).2.length+1) k (aL next N k).2 (by have:=m9 (aL next N k).2;omega);refine⟨?_,fun y hy=>?_,?_,fun x hx hxN=>?_⟩
   .rw[ac8,adi];refine⟨h1,by simpa using g2,fun y hy z hz=>?_⟩;rintro rfl
    have e1:=g1 y (by simpa using hz);have hyN:=h4 y hy;rw[h2 y hyN] at e1;simp[hy] at e1
   .rw[g3,h2 y hy,ac8,Bool.eq_iff_iff];simp
   .intro y hy;rw[ac8,aaR] at hy;rcases hy with hy|hy
    .exact h4 y hy
    have:=JH (g1 y (by simpa using hy));omega
   rcases abC.1 hx with h|rfl
   .rw[g3,h3 x h hxN];rfl
   exact aeM
theorem iQ(next:Nat->Nat)(N:Nat):(cP next N).flatten.Nodup/\ ∀y,y<N->y∈(cP next N).flatten:=by obtain⟨h1,h2,_,h3⟩:=EI next N N;refine⟨h1,fun y hy=>?_⟩;have:=h3 y hy hy;rw[h2 y hy] at this;exact of_decide_eq_true this
theorem BH{L:List (List Nat)}(h:L.flatten.Nodup){i j:Nat}{a b:List Nat}(hi:L[i]?=some a)(hj:L[j]?=some b)(ha:x∈a)(hb:x∈b):i=j:=by
 induction L generalizing i j with
 |nil=>simp at hi
 |cons l L ih=>
  rw[abt,adi] at h;obtain⟨_,h2,h3⟩:=h;cases i with
  |zero=>
   simp at hi;subst hi;cases j with
   |zero=>rfl
   |succ j=>simp at hj;exact absurd rfl (h3 x ha x (adf.2 ⟨b,aae hj,hb⟩))
  |succ i=>
   simp at hi;cases j with
   |zero=>simp at hj;subst hj;exact absurd rfl (h3 x hb x (adf.2 ⟨a,aae hi,ha⟩))
   |succ j=>simp at hj;rw[ih h2 hi hj]
section
variable {F:Nat} {ls:List Let}
theorem Cn{j:Nat}{f:Fc}(h:(aW F ls)[j]?=some f):∃w,(cP (cq ls) (nD ls))[j]?=some w/\f=gI F ls w:=by
 unfold aW at h;rw[aa0] at h;cases hw:(cP (cq ls) (nD ls))[j]? with
 |none=>rw[hw] at h;cases h
 |some w=>rw[hw] at h;cases h;exact⟨w,rfl,rfl⟩
theorem QS{i j:Nat}{a b:Fc}{d:Nat}(hi:(aW F ls)[i]?=some a)(hj:(aW F ls)[j]?=some b)(ha:d∈a.aap)(hb:d∈b.aap):i=j:=by obtain⟨v,hv,rfl⟩:=Cn hi;obtain⟨w,hw,rfl⟩:=Cn hj;rw[nG] at ha hb;exact BH (iQ _ _).1 hv hw (ab4.1 ha).1 (ab4.1 hb).1
theorem UA{d:Nat}(hd:d<2*ls.length):∃(j:Nat) (f:Fc),(aW F ls)[j]?=some f/\d∈f.aap:=by
 have:=(iQ (cq ls) (nD ls)).2 d (by unfold nD;omega);obtain⟨w,hw,hdw⟩:=adf.1 this;obtain⟨j,hj⟩:=abb hw;have hj2:(aW F ls)[j]?=some (gI F ls w):=by unfold aW;rw[aa0,hj];rfl
 refine⟨j,gI F ls w,hj2,?_⟩;rw[nG];exact ab4.2 ⟨hdw,by simpa using hd⟩
theorem ya{ds:List Nat}{v:Nat}{d:Nat}:∀ {L:List Nat},d<L.length->(eO L ds v)[d]?=if d∈ds then some v else L[d]? :=by
 induction ds with
 |nil=>intro L _;simp[eO]
 |cons e ds ih=>
  intro L hd;show(eO (L.set e v) ds v)[d]?=_;rw[ih (by simpa using hd),abI];by_cases h1:d∈ds
  .simp[h1]
  by_cases h2:e=d
  .subst h2;simp[hd]
  have:d≠e:=fun h=>h2 h.symm;simp[h1,h2,this]
theorem PO{d:Nat}:∀ {fs:List Fc} {j:Nat} {L:List Nat},d<L.length->(∀f∈fs,d∉f.aap)->(iS fs j L)[d]?=L[d]? :=by
 intro fs
 induction fs with
 |nil=>intro j L _ _;rfl
 |cons f fs ih=>intro j L hd h;show(iS fs (j+1) (eO L f.aap j))[d]?=_;rw[ih (by rw[lN];exact hd) fun g hg=>h g (by simp[hg]),ya hd,if_neg (h f (by simp))]
theorem PQ{d:Nat}:∀ {fs:List Fc} {j i:Nat} {L:List Nat} {f:Fc},d<L.length->fs[i]?=some f->d∈f.aap->(∀i' f',fs[i']?=some f'->d∈f'.aap->i'=i)->(iS fs j L)[d]?=some (j+i):=by
 intro fs
 induction fs with
 |nil=>intro j i L f _ h;simp at h
 |cons g fs ih=>
  intro j i L f hd hi hf hu;show(iS fs (j+1) (eO L g.aap j))[d]?=_;cases i with
  |zero=>
   simp at hi;subst hi;rw[PO (by rw[lN];exact hd),ya hd,if_pos hf]
   .rfl
   intro f' hf' hd';obtain⟨i',hi'⟩:=abb hf';have:=hu (i'+1) f' (by simpa using hi') hd';omega
  |succ i=>simp at hi;rw[ih (by rw[lN];exact hd) hi hf fun i' f' h1 h2=>by have:=hu (i'+1) f' (by simpa using h1) h2;omega];congr 1;omega
theorem left_at{d j:Nat}{f:Fc}(hd:d<2*ls.length)(hf:(aW F ls)[j]?=some f)(hm:d∈f.aap):(gG F ls)[d]?=some j:=by unfold gG;rw[PQ (by simpa using hd) hf hm fun i' f' h1 h2=>QS h1 hf h2 hm];congr 1;omega
theorem zA{d:Nat}(hd:d<2*ls.length):∃j,(aW F ls)[j]?=some (ik F ls d)/\d∈(ik F ls d).aap/\(gG F ls)[d]?=some j:=by
 obtain⟨j,f,hf,hm⟩:=UA (F:=F) hd;have hl:=left_at hd hf hm;have e:ik F ls d=f:=by unfold ik;rw[aaC (l:=gG F ls),hl,abv,aaC,hf,abv]
 exact⟨j,e▸hf,e▸hm,hl⟩
theorem zy{d:Nat}(hd:d<2*ls.length):ik F ls d∈aW F ls:=by obtain⟨j,h1,_⟩:=zA (F:=F) hd;exact aae h1
end
inductive dk (R:Nat->Nat->Prop):Nat->Nat->Prop
 |rel {a b:Nat}:R a b->dk R a b
 |refl (a:Nat):dk R a a
 |symm {a b:Nat}:dk R a b->dk R b a
 |trans {a b c:Nat}:dk R a b->dk R b c->dk R a c
theorem dk.mono{R R':Nat->Nat->Prop}(h:∀a b,R a b->dk R' a b){y:Nat}(e:dk R x y):dk R' x y:=by
 induction e with
 |rel r=>exact h _ _ r
 |refl a=>exact .refl a
 |symm _ ih=>exact .symm ih
 |trans _ _ i1 i2=>exact .trans i1 i2
theorem dk.inv{R:Nat->Nat->Prop}{α:Type}{f:Nat->α}(h:∀a b,R a b->f a=f b){y:Nat}(e:dk R x y):f x=f y:=by
 induction e with
 |rel r=>exact h _ _ r
 |refl a=>rfl
 |symm _ ih=>exact ih.symm
 |trans _ _ i1 i2=>exact i1.trans i2
def ld (E:Nat->Nat->Prop)(x:Nat):Prop:=∀y,E x y->x<=y
noncomputable def Sk (E:Nat->Nat->Prop) (x:Nat):Bool:= @decide (ld E x) (Classical.propDecidable _)
theorem rS{E:Nat->Nat->Prop}:Sk E x=true↔ld E x:=by unfold Sk;exact @decide_eq_true_iff _ (Classical.propDecidable _)
noncomputable def K (E:Nat->Nat->Prop) (n:Nat):Nat:=(List.range n).countP (Sk E)
theorem sB{E E':Nat->Nat->Prop}(h:∀x y,E x y↔E' x y)(n:Nat):K E n=K E' n:=by have:E=E':=funext fun x=>funext fun y=>propext (h x y);rw[this]
theorem uA{p:Nat->Prop}:∀n,p n->∃m,p m/\ ∀k,p k->m<=k:=by
 intro n
 induction n using Nat.strongRecOn with
 |ind n ih=>
  intro h;rcases Classical.em (∃k,k<n/\p k) with ⟨k,hk,hp⟩|hno
  .exact ih k hk hp
  exact⟨n,h,fun k hk=>Nat.le_of_not_lt fun hlt=>hno ⟨k,hlt,hk⟩⟩
theorem Io(R:Nat->Nat->Prop)(x:Nat):∃m,dk R x m/\ld (dk R) m/\m<=x:=by obtain⟨m,h1,h2⟩:=uA (p:=fun y=>dk R x y) x (.refl x);exact⟨m,h1,fun y hy=>h2 y (h1.trans hy),h2 x (.refl x)⟩
theorem GG{p:Nat->Bool}(hp:p x=true):∀ {l:List Nat},l.Nodup->x∈l->l.countP p=l.countP (fun y=>p y&&y !=x)+1:=by
 intro l
 induction l with
 |nil=>intro _ h;cases h
 |cons a l ih=>
  intro hn hm;obtain⟨h1,h2⟩:=abQ.1 hn;rw[acl,acl];by_cases e:a=x
  .subst e;have hc:l.countP p=l.countP (fun y=>p y&&y !=a):=List.countP_congr fun y hy=>by
    have:(y !=a)=true:=by simp;rintro rfl;exact h1 hy
    simp[this]
   simp[hp,hc]
  have hx:x∈l:=by rcases aat.1 hm with h|h;exact absurd h.symm e;exact h
  rw[ih h2 hx];have:(a !=x)=true:=by simp[e]
  simp only[this,aci];omega
abbrev pQ(R:Nat->Nat->Prop)(a b:Nat)(x y:Nat):Prop:=R x y\/(x=a/\y=b)
theorem oZ{R:Nat->Nat->Prop}{a b y:Nat}:dk (pQ R a b) x y↔dk R x y\/(dk R x a/\dk R b y)\/(dk R x b/\dk R a y):=by
 constructor
 .intro h
  induction h with
  |rel r=>
   rcases r with r|⟨rfl,rfl⟩
   .exact .inl (.rel r)
   exact .inr (.inl ⟨.refl _,.refl _⟩)
  |refl a=>exact .inl (.refl a)
  |symm _ ih=>
   rcases ih with h|⟨h1,h2⟩|⟨h1,h2⟩
   .exact .inl h.symm
   .exact .inr (.inr ⟨h2.symm,h1.symm⟩)
   exact .inr (.inl ⟨h2.symm,h1.symm⟩)
  |trans _ _ i1 i2=>
   rcases i1 with h|⟨h1,h2⟩|⟨h1,h2⟩<;>rcases i2 with k|⟨k1,k2⟩|⟨k1,k2⟩
   .exact .inl (h.trans k)
   .exact .inr (.inl ⟨h.trans k1,k2⟩)
   .exact .inr (.inr ⟨h.trans k1,k2⟩)
   .exact .inr (.inl ⟨h1,h2.trans k⟩)
   .exact .inr (.inl ⟨h1,k2⟩)
   .exact .inl (h1.trans k2)
   .exact .inr (.inr ⟨h1,h2.trans k⟩)
   .exact .inl (h1.trans k2)
   exact .inr (.inr ⟨h1,k2⟩)
 have up:∀ {u v},dk R u v->dk (pQ R a b) u v:=fun h=>h.mono fun _ _ r=>.rel (.inl r);have ab:dk (pQ R a b) a b:=.rel (.inr ⟨rfl,rfl⟩);rintro (h|⟨h1,h2⟩|⟨h1,h2⟩)
 .exact up h
 .exact(up h1).trans (ab.trans (up h2))
 exact(up h1).trans (ab.symm.trans (up h2))
theorem Jp{R:Nat->Nat->Prop}{a b:Nat}(h:dk R a b)(n:Nat):K (dk (pQ R a b)) n=K (dk R) n:=by
 refine sB (fun x y=>?_) n;rw[oZ];constructor
 .rintro (k|⟨h1,h2⟩|⟨h1,h2⟩)
  .exact k
  .exact h1.trans (h.trans h2)
  exact h1.trans (h.symm.trans h2)
 exact .inl
theorem Sa{E E':Nat->Nat->Prop}{n m:Nat}(hm:m<n)(h0:ld E m)(h:∀x,ld E' x↔ld E x/\x≠m):K E n=K E' n+1:=by unfold K;rw[GG (p:=Sk E) (x:=m) (rS.2 h0) ac9 (aaX.2 hm)];congr 1;refine List.countP_congr fun x _=>?_;rw[rS,h,aay,rS];simp
theorem Jq{R:Nat->Nat->Prop}{a b n:Nat}(ha:a<n)(hb:b<n)(h:¬dk R a b):K (dk R) n=K (dk (pQ R a b)) n+1:=by
 obtain⟨p,p1,p2,p3⟩:=Io R a;obtain⟨q,q1,q2,q3⟩:=Io R b;have hpq:p≠q:=fun e=>h (p1.trans (e▸q1.symm));rcases Nat.lt_or_gt_of_ne hpq with c|c
 .refine Sa (m:=q) (by omega) q2 fun x=>⟨fun hx=>⟨fun y hy=>hx y (oZ.2 (.inl hy)),?_⟩,fun⟨hx,hxq⟩ y hy=>?_⟩
  .rintro rfl
   have:=hx p (oZ.2 (.inr (.inr ⟨q1.symm,p1⟩)));omega
  rcases oZ.1 hy with hy|⟨h1,h2⟩|⟨h1,h2⟩
  .exact hx y hy
  .have e1:=hx p (h1.trans p1);have e2:=q2 y (q1.symm.trans h2);omega
  have e1:=hx q (h1.trans q1);have e2:=q2 x (q1.symm.trans h1.symm);omega
 refine Sa (m:=p) (by omega) p2 fun x=>⟨fun hx=>⟨fun y hy=>hx y (oZ.2 (.inl hy)),?_⟩,fun⟨hx,hxq⟩ y hy=>?_⟩
 .rintro rfl
  have:=hx q (oZ.2 (.inr (.inl ⟨p1.symm,q1⟩)));omega
 rcases oZ.1 hy with hy|⟨h1,h2⟩|⟨h1,h2⟩
 .exact hx y hy
 .have e1:=hx p (h1.trans p1);have e2:=p2 x (p1.symm.trans h1.symm);omega
 have e1:=hx q (h1.trans q1);have e2:=p2 y (p1.symm.trans h2);omega
theorem aac{R:Nat->Nat->Prop}{α:Type}{f:Nat->α}(h:∀a b,R a b->f a=f b){n:Nat}{reps:List Nat}(hr:∀x∈reps,x<n)(hn:(reps.map f).Nodup):reps.length<=K (dk R) n:=by
 have key:∀reps:List Nat,(∀x∈reps,x<n)->(reps.map f).Nodup->∃L:List Nat,L.length=reps.length/\L.Nodup/\(∀m∈L,m<n/\ld (dk R) m)/\ ∀m∈L,f m∈reps.map f:=by
  intro reps
  induction reps with
  |nil=>intro _ _;exact⟨[],rfl,ach,by simp,by simp⟩
  |cons a r ih=>
   intro hr hn;rw[aaK,abQ] at hn;obtain⟨L,l1,l2,l3,l4⟩:=ih (fun x hx=>hr x (by simp[hx])) hn.2;obtain⟨m,m1,m2,m3⟩:=Io R a;have hfm:f m=f a:=(m1.inv h).symm;have ha:=hr a (by simp);refine⟨m::L,by simp[l1],abQ.2 ⟨fun hm=>hn.1 (hfm▸l4 m hm),l2⟩,fun x hx=>?_,fun x hx=>?_⟩
   .rcases aat.1 hx with rfl|hx
    .exact⟨by omega,m2⟩
    exact l3 x hx
   rcases aat.1 hx with rfl|hx
   .rw[hfm];simp
   rw[aaK];exact acI _ (l4 x hx)
 obtain⟨L,l1,l2,l3,_⟩:=key reps hr hn;rw[<- l1];unfold K;rw[List.countP_eq_length_filter];have sub:∀(L M:List Nat),L.Nodup->(∀x∈L,x∈M)->L.length<=M.length:=by
  intro L
  induction L with
  |nil=>intro M _ _;exact aan _
  |cons a L ih=>intro M hn hs;obtain⟨h1,h2⟩:=abQ.1 hn;have ha:=hs a (by simp);have:=ih (M.erase a) h2 fun x hx=>(List.mem_erase_of_ne (by rintro rfl;exact h1 hx)).2 (hs x (by simp[hx]));rw[List.length_erase_of_mem ha] at this;have:0<M.length:=adR ha;simp only[aaz];omega
 exact sub L _ l2 fun x hx=>ab4.2 ⟨aaX.2 (l3 x hx).1,rS.2 (l3 x hx).2⟩
theorem Z9{R:Nat->Nat->Prop}{n:Nat}(h:∀x,x<n->dk R x 0):K (dk R) n<=1:=by
 unfold K;have hz:∀x∈List.range n,Sk (dk R) x=true->x=0:=fun x hx hl=>by have:=rS.1 hl 0 (h x (aaX.1 hx));omega
 have:∀l:List Nat,l.Nodup->(∀x∈l,Sk (dk R) x=true->x=0)->l.countP (Sk (dk R))<=1:=by
  intro l
  induction l with
  |nil=>intro _ _;simp
  |cons a l ih=>
   intro hn hl;obtain⟨h1,h2⟩:=abQ.1 hn;rw[acl];by_cases c:Sk (dk R) a=true
   .have ha:=hl a (by simp) c;subst ha;have:l.countP (Sk (dk R))=0:=adh.2 fun x hx hxl=>h1 (by have:=hl x (by simp[hx]) hxl;subst this;exact hx);simp[c,this]
   have:=ih h2 fun x hx=>hl x (by simp[hx]);simp[c,this]
 exact this _ ac9 hz
structure Perm (n:Nat) (p:Nat->Nat):Prop where
 lt:∀x,x<n->p x<n
 inj:∀x y,x<n->y<n->p x=p y->x=y
abbrev gr(n:Nat)(p:Nat->Nat)(x y:Nat):Prop:=x<n/\y=p x
def tr (p:Nat->Nat)(t:Nat×Nat)(x:Nat):Nat:=if x=t.1 then p t.2 else if x=t.2 then p t.1 else p x
theorem Jx(p:Nat->Nat)(a b x:Nat):tr p (a,b) x=p (if x=a then b else if x=b then a else x):=by
 unfold tr;simp only;split
 .rfl
 split<;>rfl
theorem Perm.tr{n:Nat}{p:Nat->Nat}(h:Perm n p){a b:Nat}(ha:a<n)(hb:b<n):Perm n (tr p (a,b)):=by
 have hs:∀x,x<n->(if x=a then b else if x=b then a else x)<n:=fun x hx=>by split<;>(try split)<;>assumption
 refine⟨fun x hx=>by rw[Jx];exact h.lt _ (hs x hx),fun x y hx hy e=>?_⟩;rw[Jx,Jx] at e;have e:=h.inj _ _ (hs x hx) (hs y hy) e;by_cases x1:x=a
 .rw[if_pos x1] at e;by_cases y1:y=a
  .omega
  rw[if_neg y1] at e;split at e<;>omega
 rw[if_neg x1] at e;by_cases y1:y=a
 .rw[if_pos y1] at e;split at e<;>omega
 rw[if_neg y1] at e;split at e<;>split at e<;>omega
def it (p:Nat->Nat):Nat->Nat->Nat
 |0,x=>x
 |k+1,x=>p (it p k x)
theorem Perm.yW{n:Nat}{p:Nat->Nat}(h:Perm n p)(hx:x<n):∀k,it p k x<n:=by
 intro k
 induction k with
 |zero=>exact hx
 |succ k ih=>exact h.lt _ ih
theorem Perm.back{n:Nat}{p:Nat->Nat}(h:Perm n p)(hx:x<n):∀i j,it p (i+j) x=it p i x->it p j x=x:=by
 intro i
 induction i with
 |zero=>intro j e;rw[abd] at e;exact e
 |succ i ih=>intro j e;rw[show i+1+j=(i+j)+1 by omega] at e;exact ih j (h.inj _ _ (h.yW hx _) (h.yW hx _) e)
theorem rz:∀(L M:List Nat),L.Nodup->(∀x∈L,x∈M)->L.length<=M.length:=by
 intro L
 induction L with
 |nil=>intro M _ _;exact aan _
 |cons a L ih=>intro M hn hs;obtain⟨h1,h2⟩:=abQ.1 hn;have ha:=hs a (by simp);have:=ih (M.erase a) h2 fun x hx=>(List.mem_erase_of_ne (by rintro rfl;exact h1 hx)).2 (hs x (by simp[hx]));rw[List.length_erase_of_mem ha] at this;have:0<M.length:=adR ha;simp only[aaz];omega
theorem Perm.Wb{n:Nat}{p:Nat->Nat}(h:Perm n p)(hx:x<n):∃m,it p (m+1) x=x:=by
 apply Classical.byContradiction;intro hno;have key:∀k,((List.range k).map fun i=>it p i x).Nodup:=by
  intro k
  induction k with
  |zero=>simp
  |succ k ih=>rw[ack,abq,adi];refine⟨ih,by simp,fun a ha b hb=>?_⟩;obtain⟨i,hi,rfl⟩:=aaF.1 ha;have hi:=aaX.1 hi;simp only[aaK,abi,abJ] at hb;subst hb;intro e;have:=h.back hx i (k-i) (by rw[show i+(k-i)=k by omega];exact e.symm);exact hno ⟨k-i-1,by rw[show k-i-1+1=k-i by omega];exact this⟩
 have:=rz _ (List.range n) (key (n+1)) fun y hy=>by obtain⟨i,_,rfl⟩:=aaF.1 hy;exact aaX.2 (h.yW hx i)
 rw[aau,ac3,ac3] at this;omega
theorem FX(p:Nat->Nat)(x:Nat):∀k,it p (k+1) x=it p k (p x):=by
 intro k
 induction k with
 |zero=>rfl
 |succ k ih=>show p (it p (k+1) x)=p (it p k (p x));rw[ih]
theorem Jw{n:Nat}{p:Nat->Nat}(h:Perm n p){a b:Nat}(ha:a<n)(hb:b<n)(hab:¬dk (gr n p) a b):dk (gr n (tr p (a,b))) a b:=by
 obtain⟨m,hm⟩:=h.Wb hb;have e0:tr p (a,b) a=p b:=by unfold tr;rw[if_pos rfl]
 have hcl:∀k,dk (gr n p) b (it p k b):=by
  intro k
  induction k with
  |zero=>exact .refl _
  |succ k ih=>exact ih.trans (.rel ⟨h.yW hb k,rfl⟩)
 have key:∀k,dk (gr n (tr p (a,b))) a b\/dk (gr n (tr p (a,b))) a (it p k (p b)):=by
  intro k
  induction k with
  |zero=>exact .inr (.rel ⟨ha,e0.symm⟩)
  |succ k ih=>
   rcases ih with ih|ih
   .exact .inl ih
   by_cases c:it p k (p b)=b
   .rw[c] at ih;exact .inl ih
   refine .inr (ih.trans (.rel ⟨h.yW (h.lt _ hb) k,?_⟩));have na:it p k (p b)≠a:=fun e=>hab (by have:=hcl (k+1);rw[FX,e] at this;exact this.symm)
   unfold tr;rw[if_neg na,if_neg c];rfl
 rcases key m with k|k
 .exact k
 rw[<- FX,hm] at k;exact k
theorem Jh{n:Nat}{p:Nat->Nat}{a b:Nat}(ha:a<n)(hb:b<n){S:Nat->Nat->Prop}{x y:Nat}:dk (pQ (fun x y=>gr n (tr p (a,b)) x y\/S x y) a b) x y↔dk (pQ (fun x y=>gr n p x y\/S x y) a b) x y:=by
 have ab:∀R:Nat->Nat->Prop,dk (pQ R a b) a b:=fun R=>.rel (.inr ⟨rfl,rfl⟩);constructor
 .refine dk.mono fun u v r=>?_;rcases r with (⟨hu,rfl⟩|s)|⟨rfl,rfl⟩
  .unfold tr;simp only;by_cases c:u=a
   .subst c;rw[if_pos rfl];exact(ab _).trans (.rel (.inl (.inl ⟨hb,rfl⟩)))
   rw[if_neg c];by_cases d:u=b
   .subst d;rw[if_pos rfl];exact(ab _).symm.trans (.rel (.inl (.inl ⟨ha,rfl⟩)))
   rw[if_neg d];exact .rel (.inl (.inl ⟨hu,rfl⟩))
  .exact .rel (.inl (.inr s))
  exact ab _
 refine dk.mono fun u v r=>?_;rcases r with (⟨hu,rfl⟩|s)|⟨rfl,rfl⟩
 .by_cases c:u=a
  .subst c;refine(ab _).trans (.rel (.inl (.inl ⟨hb,?_⟩)));unfold tr;simp only;by_cases d:b=u
   .rw[if_pos d,d]
   rw[if_neg d];simp
  by_cases d:u=b
  .subst d;refine(ab _).symm.trans (.rel (.inl (.inl ⟨ha,?_⟩)));unfold tr;rw[if_pos rfl]
  refine .rel (.inl (.inl ⟨hu,?_⟩));unfold tr;rw[if_neg c,if_neg d]
 .exact .rel (.inl (.inr s))
 exact ab _
abbrev inT(ts:List (Nat×Nat))(x y:Nat):Prop:=(x,y)∈ts
abbrev ND(n:Nat)(p:Nat->Nat)(ts:List (Nat×Nat))(x y:Nat):Prop:=gr n p x y\/inT ts x y
theorem ZF{n:Nat}:∀(ts:List (Nat×Nat)) (p:Nat->Nat),Perm n p->(∀t∈ts,t.1<n/\t.2<n)->
  K (dk (gr n (ts.foldl tr p))) n+K (dk (gr n p)) n<=2*K (dk (ND n p ts)) n+ts.length:=by
 intro ts
 induction ts with
 |nil=>
  intro p _ _;have:K (dk (ND n p [])) n=K (dk (gr n p)) n:=sB (fun x y=>⟨dk.mono (R:=ND n p []) (R':=gr n p) (fun u v r=>by
   rcases r with r|r
   .exact .rel r
   cases r),dk.mono (R:=gr n p) (R':=ND n p []) (fun u v r=>.rel (.inl r))⟩) n
  rw[this];simp only[List.foldl_nil,aaL];omega
 |cons t ts ih=>
  intro p hp ht;obtain⟨a,b⟩:=t;obtain⟨ha,hb⟩:=ht (a,b) (by simp)
  replace ha:a<n:=ha
  replace hb:b<n:=hb
  have ih:=ih (tr p (a,b)) (hp.tr ha hb) fun t h=>ht t (by simp[h]);have all:∀x y,dk (ND n p ((a,b)::ts)) x y↔dk (pQ (ND n (tr p (a,b)) ts) a b) x y:=fun x y=>by
   refine Iff.trans ⟨dk.mono fun u v r=>?_,dk.mono fun u v r=>?_⟩ (Jh (S:=inT ts) ha hb).symm
   .rcases r with r|r
    .exact .rel (.inl (.inl r))
    rcases aat.1 r with r|r
    .cases r;exact .rel (.inr ⟨rfl,rfl⟩)
    exact .rel (.inl (.inr r))
   rcases r with (r|r)|⟨rfl,rfl⟩
   .exact .rel (.inl r)
   .exact .rel (.inr (acI _ r))
   exact .rel (.inr (adQ ..))
  have one:∀x y,dk (pQ (gr n (tr p (a,b))) a b) x y↔dk (pQ (gr n p) a b) x y:=fun x y=>by have h:=Jh (p:=p) (S:=fun _ _=>False) ha hb (x:=x) (y:=y);have e:∀q:Nat->Nat,(fun x y=>gr n q x y\/False)=gr n q:=fun q=>funext fun x=>funext fun y=>propext (by simp);rw[e,e] at h;exact h
  rw[sB all];simp only[acT,aaz];have kj:K (dk (pQ (gr n (tr p (a,b))) a b)) n=K (dk (pQ (gr n p) a b)) n:=sB one n;have sm:∀R:Nat->Nat->Prop,dk R a b->K (dk (pQ R a b)) n=K (dk R) n:=fun R h=>Jp h n;have jn:∀R:Nat->Nat->Prop,¬dk R a b->K (dk R) n=K (dk (pQ R a b)) n+1:=fun R h=>Jq ha hb h;rcases Classical.em (dk (gr n p) a b) with c|c
  .have k1:=sm _ c;rcases Classical.em (dk (gr n (tr p (a,b))) a b) with d|d
   .have k2:=sm _ d;have k3:=sm _ (d.mono (R':=ND n (tr p (a,b)) ts) fun u v r=>.rel (.inl r));omega
   have k2:=jn _ d;rcases Classical.em (dk (ND n (tr p (a,b)) ts) a b) with d2|d2
   .have k3:=sm _ d2;omega
   have k3:=jn _ d2;omega
  have k1:=jn _ c;have d:=Jw hp ha hb c;have k2:=sm _ d;have k3:=sm _ (d.mono (R':=ND n (tr p (a,b)) ts) fun u v r=>.rel (.inl r));omega
def rv (x:Nat):Nat:=if x%2=0 then x+1 else x-1
theorem JO(k:Nat):rv (2*k)=2*k+1:=by unfold rv;rw[if_pos (by omega)]
theorem Sd(k:Nat):rv (2*k+1)=2*k:=by unfold rv;rw[if_neg (by omega)];rfl
theorem sJ(x:Nat):rv (rv x)=x:=by
 rcases acs x with h|h
 .rw[show x=2*(x/2) by omega,JO,Sd]
 rw[show x=2*(x/2)+1 by omega,Sd,JO]
theorem sK{m:Nat}(h:x<2*m):rv x<2*m:=by unfold rv;split<;>omega
theorem jf(n v:Nat)(g:Bool):rv (aI n v g)=gJ n v (!g):=by
 cases g with
 |true=>exact JO _
 |false=>exact Sd _
theorem WF(n v:Nat)(g:Bool):rv (gJ n v g)=aI n v (!g):=by
 cases g with
 |true=>exact JO _
 |false=>exact Sd _
theorem pM{n v:Nat}(hv:v<n)(g:Bool):gJ n v g<2*n:=by have:=aaN (v+n-1) (show 0<n by omega);unfold gJ;split<;>omega
theorem Er{n:Nat}(hx:x<2*n):x=gJ n (if x%2=0 then (x/2+1)%n else x/2) (x%2==0):=by
 unfold gJ;rcases acs x with h|h
 .simp only[h,beq_self_eq_true,if_true];rw[jX (by omega)];omega
 simp only[h,show((1:Nat)==0)=false from rfl,aaE,if_false,Nat.one_ne_zero];omega
section
variable {F:Nat} {ls:List Let}
theorem EL{v:Nat}{l:Let}(hl:ls[v]?=some l)(fw:Bool):cq ls (gJ ls.length v fw)=if l.kind==2 then aI ls.length (bN ls v) (fw==(l.over==(l.sign==1)))
   else if dn ls v==fw then 2*ls.length+2*(ae ls).idxOf v else 2*ls.length+2*(((ae ls).idxOf v+(ae ls).length-1)%(ae ls).length)+1:=by
 have hv:=(aai.1 hl).1;have hlt:=pM hv fw;refine A7 (by omega) ?_ ?_ hl
 .unfold gJ;cases fw<;>simp
 unfold gJ;cases fw with
 |true=>simp only[if_true];rw[show 2*((v+ls.length-1)%ls.length)/2=(v+ls.length-1)%ls.length by omega,ft hv]
 |false=>simp only[aaE,if_false];omega
theorem mN{v:Nat}{l:Let}(hl:ls[v]?=some l)(hc:l.aD=true)(fw:Bool):cq ls (gJ ls.length v fw)=aI ls.length (bN ls v) (fw==(l.over==(l.sign==1))):=by rw[EL hl];unfold Let.aD at hc;rw[if_pos hc]
theorem xL{v:Nat}{l:Let}(hl:ls[v]?=some l)(hp:l.aH=true)(fw:Bool):cq ls (gJ ls.length v fw)=if dn ls v==fw then 2*ls.length+2*(ae ls).idxOf v else 2*ls.length+2*(((ae ls).idxOf v+(ae ls).length-1)%(ae ls).length)+1:=by have:=dL hp;unfold Let.aD at this;rw[EL hl,if_neg (by rw[this];decide)]
theorem uV(k:Nat):cq ls (2*ls.length+2*k)=aI ls.length ((ae ls).getD ((k+1)%(ae ls).length) 0) (!dn ls ((ae ls).getD ((k+1)%(ae ls).length) 0)):=by show gC _ _ _=_;unfold gC;rw[if_pos (by omega),if_pos (by omega),show(2*ls.length+2*k-2*ls.length)/2=k by omega]
theorem uW(k:Nat):cq ls (2*ls.length+2*k+1)=aI ls.length ((ae ls).getD k 0) (dn ls ((ae ls).getD k 0)):=by show gC _ _ _=_;unfold gC;rw[if_pos (by omega),if_neg (by omega),show(2*ls.length+2*k+1-2*ls.length)/2=k by omega]
theorem tE{k:Nat}(hk:k<(ae ls).length):∃l,ls[(ae ls).getD k 0]?=some l/\l.aH=true:=by obtain⟨v,hv⟩:=ao hk;rw[aaC,hv,abv];exact dT.1 (aae hv)
theorem Ai{v:Nat}{l:Let}(ok:dS F ls)(hl:ls[v]?=some l)(hp:l.aH=true):(ae ls).idxOf v<(ae ls).length/\(ae ls).getD ((ae ls).idxOf v) 0=v:=by have h1:=pK ok.ax hl hp;rw[nN ok.ax hl hp];exact⟨(aai.1 h1).1,by rw[aaC,h1];rfl⟩
theorem EQ(ok:dS F ls){v:Nat}(hv:v<ls.length)(fw:Bool):cq ls (rv (cq ls (gJ ls.length v fw)))=aI ls.length v fw:=by
 obtain⟨l,hl⟩:=ao hv;rcases ok.kinds l (aae hl) with hp|hc
 .obtain⟨h1,h2⟩:=Ai ok hl hp;rw[xL hl hp];by_cases c:(dn ls v==fw)=true
  .rw[if_pos c,show 2*ls.length+2*(ae ls).idxOf v=2*(ls.length+(ae ls).idxOf v) by omega,JO,show 2*(ls.length+(ae ls).idxOf v)+1=2*ls.length+2*(ae ls).idxOf v+1 by omega,uW,h2];rw[eq_of_beq c]
  rw[if_neg c];have c:dn ls v= !fw:=by revert c;cases dn ls v<;>cases fw<;>simp
  have hm:=aaN ((ae ls).idxOf v+(ae ls).length-1) (show 0<(ae ls).length by omega);rw[show 2*ls.length+2*(((ae ls).idxOf v+(ae ls).length-1)%(ae ls).length)+1=2*(ls.length+((ae ls).idxOf v+(ae ls).length-1)%(ae ls).length)+1 by omega,Sd,
   show 2*(ls.length+((ae ls).idxOf v+(ae ls).length-1)%(ae ls).length)=2*ls.length+2*(((ae ls).idxOf v+(ae ls).length-1)%(ae ls).length) by omega,uV,ft h1,h2,c,Bool.not_not]
 obtain⟨h1,m,hm,mc,mi,mo,ms⟩:=bt ok.cr hl hc;rw[mN hl hc,jf,mN hm mc,h1,mo,ms];cases fw<;>cases l.over<;>cases (l.sign==1)<;>rfl
def pS(ls:List Let)(x:Nat):Nat:=
 if 2*ls.length<=x then (if x%2=0 then (ae ls).getD (((x-2*ls.length)/2+1)%(ae ls).length) 0 else (ae ls).getD ((x-2*ls.length)/2) 0)
 else if x%2=0 then (x/2+1)%ls.length else x/2
def XV(ls:List Let)(x:Nat):Bool:=decide (2*ls.length<=x)||(match ls[pS ls x]? with|some l=>l.aD&&l.over|none=>false)
def uS(ls:List Let)(i:Nat):Int×Int:=match ls[i]? with|some l=>if l.aD then (1,l.id) else (0,i)|none=>(2,0)
theorem qO{v:Nat}(hv:v<ls.length)(fw:Bool):pS ls (gJ ls.length v fw)=v:=by
 have hlt:=pM hv fw;unfold pS;rw[if_neg (by omega)];unfold gJ;cases fw with
 |true=>simp only[if_true];rw[if_pos (by omega),show 2*((v+ls.length-1)%ls.length)/2=(v+ls.length-1)%ls.length by omega,ft hv]
 |false=>simp only[aaE,if_false];rw[if_neg (by omega)];omega
theorem Jj{v:Nat}{l:Let}(hl:ls[v]?=some l)(fw:Bool):XV ls (gJ ls.length v fw)=(l.aD&&l.over):=by
 have hv:=(aai.1 hl).1;have hlt:=pM hv fw;unfold XV;rw[qO hv,hl];have:¬2*ls.length<=gJ ls.length v fw:=by omega
 simp[this]
theorem Qn(k:Nat):pS ls (2*ls.length+2*k)=(ae ls).getD ((k+1)%(ae ls).length) 0:=by unfold pS;rw[if_pos (by omega),if_pos (by omega),show(2*ls.length+2*k-2*ls.length)/2=k by omega]
theorem Qo(k:Nat):pS ls (2*ls.length+2*k+1)=(ae ls).getD k 0:=by unfold pS;rw[if_pos (by omega),if_neg (by omega),show(2*ls.length+2*k+1-2*ls.length)/2=k by omega]
theorem RO(h:2*ls.length<=x):XV ls x=true:=by unfold XV;simp[h]
theorem NP(ok:dS F ls)(hx:x<nD ls):uS ls (pS ls (rv (cq ls x)))=uS ls (pS ls x)/\XV ls (rv (cq ls x))= !XV ls x:=by
 unfold nD at hx;rcases Nat.lt_or_ge x (2*ls.length) with c|c
 .have hv:(if x%2=0 then (x/2+1)%ls.length else x/2)<ls.length:=by
   have:=aaN (x/2+1) (show 0<ls.length by omega);split<;>omega
  rw[Er c];generalize (if x%2=0 then (x/2+1)%ls.length else x/2)=v at hv;generalize (x%2==0)=fw;obtain⟨l,hl⟩:=ao hv;rw[qO hv,Jj hl];rcases ok.kinds l (aae hl) with hp|hc
  .obtain⟨h1,h2⟩:=Ai ok hl hp;rw[dL hp,xL hl hp];by_cases d:(dn ls v==fw)=true
   .rw[if_pos d,show 2*ls.length+2*(ae ls).idxOf v=2*(ls.length+(ae ls).idxOf v) by omega,JO,show 2*(ls.length+(ae ls).idxOf v)+1=2*ls.length+2*(ae ls).idxOf v+1 by omega,Qo,h2,RO (by omega)];exact⟨rfl,rfl⟩
   rw[if_neg d,show 2*ls.length+2*(((ae ls).idxOf v+(ae ls).length-1)%(ae ls).length)+1=2*(ls.length+((ae ls).idxOf v+(ae ls).length-1)%(ae ls).length)+1 by omega,Sd,
    show 2*(ls.length+((ae ls).idxOf v+(ae ls).length-1)%(ae ls).length)=2*ls.length+2*(((ae ls).idxOf v+(ae ls).length-1)%(ae ls).length) by omega,Qn,ft h1,h2,RO (by omega)]
   exact⟨rfl,rfl⟩
  obtain⟨h1,m,hm,mc,mi,mo,ms⟩:=bt ok.cr hl hc;have hw:=(aai.1 hm).1;rw[mN hl hc,jf,qO hw,Jj hm];unfold uS;simp[hl,hm,hc,mc,mi,mo]
 rw[RO c];have key:∀k,k<(ae ls).length->∀g,uS ls (pS ls (rv (aI ls.length ((ae ls).getD k 0) g)))=uS ls ((ae ls).getD k 0)/\XV ls (rv (aI ls.length ((ae ls).getD k 0) g))= !true:=fun k hk g=>by obtain⟨l,hl,hp⟩:=tE hk;rw[jf,qO (aai.1 hl).1,Jj hl,dL hp];exact⟨rfl,rfl⟩
 rcases acs x with d|d
 .rw[show x=2*ls.length+2*((x-2*ls.length)/2) by omega,uV,Qn];exact key _ (aaN _ (by omega)) _
 rw[show x=2*ls.length+2*((x-2*ls.length)/2)+1 by omega,uW,Qo];exact key _ (by omega) _
end
theorem CS{next:Nat->Nat}{N:Nat}{R:Nat->Nat->Prop}(hlt:∀x,x<N->next x<N)(h:∀x,x<N->dk R x (next x)):∀(k x:Nat) (S:List Bool),x<N->∀y∈(cS next k x S).1,dk R x y:=by
 intro k
 induction k with
 |zero=>intro x S _ y hy;simp[cS] at hy
 |succ k ih=>
  intro x S hx y hy;unfold cS at hy;split at hy
  .simp at hy
  rcases aat.1 hy with rfl|hy
  .exact .refl _
  exact(h x hx).trans (ih (next x) _ (hlt x hx) y hy)
theorem AP{next:Nat->Nat}{N:Nat}(m:As next n2 N){R:Nat->Nat->Prop}(h:∀x,x<N->dk R x (next x)):∀k,k<=N->∀w∈(aL next N k).1,∀x∈w,∀y∈w,dk R x y:=by
 intro k
 induction k with
 |zero=>intro _ w hw;simp[aL] at hw
 |succ k ih=>
  intro hk w hw x hx y hy;rw[eh] at hw;unfold fP at hw;split at hw
  .exact ih (by omega) w hw x hx y hy
  rcases aaR.1 hw with hw|hw
  .exact ih (by omega) w hw x hx y hy
  simp only[abJ] at hw;subst hw;have hj:=CS (R:=R) m.lt h ((aL next N k).2.length+1) k (aL next N k).2 (by omega);exact(hj x hx).symm.trans (hj y hy)
theorem Ht{next:Nat->Nat}{N:Nat}(m:As next n2 N):∀k,k<=n2->∀w∈(aL next N k).1,∀x∈w,next x∈w:=by
 intro k
 induction k with
 |zero=>intro _ w hw;simp[aL] at hw
 |succ k ih=>
  intro hk w hw x hx;obtain⟨c0,_⟩:=jK m k (by omega);obtain⟨c1,_⟩:=jK m (k+1) hk;rw[eh] at hw c1;unfold fP at hw c1;cases hs:(aL next N k).2.getD k true with
  |true=>rw[hs,if_pos rfl] at hw;exact ih (by omega) w hw x hx
  |false=>
   rw[hs,if_neg (by decide)] at hw c1;rcases aaR.1 hw with hw|hw
   .exact ih (by omega) w hw x hx
   simp only[abJ] at hw;subst hw;obtain⟨g1,g2,g3⟩:=xH next ((aL next N k).2.length+1) k (aL next N k).2;have hxN:x<N:=by have:=JH (g1 x hx);have:=jw next N k;omega
   have e0:=c0 x hxN;have e1:=c1 x hxN;rw[g3,g3,g1 x hx] at e1;rw[g1 x hx] at e0;simp only[acG,hx,decide_true,<- e0] at e1;exact of_decide_eq_true e1.symm
theorem fI{next:Nat->Nat}{N:Nat}(m:As next n2 N){w:List Nat}(hw:w∈cP next N)(hx:x∈w):next x∈w:=by unfold cP at hw;rw[sX m N m.le (aaj _)] at hw;exact Ht m n2 (aaj _) w hw x hx
theorem mL{next:Nat->Nat}{N:Nat}(m:As next n2 N){R:Nat->Nat->Prop}(h:∀x,x<N->dk R x (next x)){w:List Nat}(hw:w∈cP next N){x y:Nat}(hx:x∈w)(hy:y∈w):dk R x y:=AP m h N (aaj _) w hw x hx y hy
def CP(L:List (List Nat))(x:Nat):Nat:=L.findIdx fun w=>w.contains x
theorem tK{L:List (List Nat)}(h:L.flatten.Nodup){i:Nat}{w:List Nat}(hi:L[i]?=some w)(hx:x∈w):CP L x=i:=by
 have hm:w.contains x=true:=by simpa using hx
 have hlt:L.findIdx (fun w=>w.contains x)<L.length:=List.findIdx_lt_length_of_exists ⟨w,aae hi,hm⟩;have hp:=List.findIdx_getElem (w:=hlt);have hj:L[L.findIdx fun w=>w.contains x]?=some (L[L.findIdx fun w=>w.contains x]'hlt):=abZ hlt;exact BH h hj hi (by simpa using hp) hx
theorem MG:∀ {L:List (List Nat)},L.flatten.Nodup->(∀w∈L,w≠[])->((L.map (·.headD 0)).map (CP L))=List.range L.length:=by
 intro L h hne;apply adk;intro i;rw[aa0,aa0];by_cases hi:i<L.length
 .have e:=abZ hi;rw[e,abT hi];simp only[abx];have hw:=hne _ (aae e);rw[tK h e (x:=L[i].headD 0) (by
   cases hL:L[i] with
   |nil=>exact absurd hL hw
   |cons a r=>simp)]
 rw[abS (by omega),abS (by simp;omega)];rfl
def fx (b:Bool)(s:Nat):Nat:=if b then 1-s else s
theorem KD{b:Bool}{s:Nat}(h:s<2):fx b s<2:=by unfold fx;split<;>omega
theorem V7{b:Bool}{s:Nat}(h:s<2):fx b (fx b s)=s:=by unfold fx;cases b<;>simp;omega
def Hn(p:Nat->Bool)(y:Nat):Nat:=2*rv (y/2)+fx (p (y/2)) (y%2)
def sgC(p:Nat->Bool)(nx:Nat->Nat)(y:Nat):Nat:=2*nx (rv (y/2))+fx (p (y/2)) (y%2)
def tsC(p:Nat->Bool)(k:Nat):List (Nat×Nat):=(List.range k).flatMap fun e=>[(4*e,Hn p (4*e)),(4*e+1,Hn p (4*e+1))]
theorem Ry(p:Nat->Bool)(e:Nat):Hn p (4*e)=if p (2*e) then 4*e+3 else 4*e+2:=by unfold Hn fx;rw[show 4*e/2=2*e by omega,JO,show 4*e%2=0 by omega];split<;>omega
theorem Rx(p:Nat->Bool)(e:Nat):Hn p (4*e+1)=if p (2*e) then 4*e+2 else 4*e+3:=by unfold Hn fx;rw[show(4*e+1)/2=2*e by omega,JO,show(4*e+1)%2=1 by omega];split<;>omega
theorem ZZ{p:Nat->Bool}(hp:∀x,p (rv x)=p x)(e:Nat):Hn p (4*e+2)=if p (2*e) then 4*e+1 else 4*e:=by unfold Hn fx;rw[show(4*e+2)/2=2*e+1 by omega,Sd,show(4*e+2)%2=0 by omega,<- hp (2*e),JO];split<;>omega
theorem ZY{p:Nat->Bool}(hp:∀x,p (rv x)=p x)(e:Nat):Hn p (4*e+3)=if p (2*e) then 4*e else 4*e+1:=by unfold Hn fx;rw[show(4*e+3)/2=2*e+1 by omega,Sd,show(4*e+3)%2=1 by omega,<- hp (2*e),JO];split<;>omega
theorem SC(p:Nat->Bool){k e:Nat}(h:e<k):(4*e,Hn p (4*e))∈tsC p k/\(4*e+1,Hn p (4*e+1))∈tsC p k:=
 ⟨List.mem_flatMap.2 ⟨e,aaX.2 h,by simp⟩,List.mem_flatMap.2 ⟨e,aaX.2 h,by simp⟩⟩
theorem wx{α β:Type}{P:α->β->Prop}{f:β->α}(hf:∀a b,P a b->f b=a):∀ {L:List α},(∀a∈L,∃b,P a b)->∃M:List β,M.map f=L/\ ∀b∈M,∃a∈L,P a b:=by
 intro L
 induction L with
 |nil=>intro _;exact⟨[],rfl,by simp⟩
 |cons a L ih=>
  intro h;obtain⟨b,hb⟩:=h a (by simp);obtain⟨M,h1,h2⟩:=ih fun x hx=>h x (by simp[hx]);refine⟨b::M,by rw[aaK,h1,hf a b hb],fun x hx=>?_⟩;rcases aat.1 hx with rfl|hx
  .exact⟨a,by simp,hb⟩
  obtain⟨c,hc,hp⟩:=h2 x hx;exact⟨c,by simp[hc],hp⟩
section
variable {F:Nat} {ls:List Let}
theorem GZ(ok:dS F ls):(ae ls).Nodup:=by have:=uM ok.ax ls.length (aaj _);refine List.Pairwise.imp (fun {a b} h e=>?_) this;subst e;exact absurd h (Nat.lt_irrefl _)
theorem PM(ok:dS F ls):ls.length=aA Let.aH ls+aA Let.aD ls:=by
 have:∀l:List Let,(∀x∈l,x.aH=true\/x.aD=true)->l.length=aA Let.aH l+aA Let.aD l:=by
  intro l
  induction l with
  |nil=>intro _;rfl
  |cons a l ih=>
   intro h;have ih:=ih fun x hx=>h x (by simp[hx]);unfold aA at ih ⊢;rw[acl,acl,aaz,ih];rcases h a (by simp) with c|c
   .rw[c,dL c];simp;omega
   have:a.aH=false:=by cases hp:a.aH;rfl;rw[dL hp] at c;cases c
   rw[c,this];simp;omega
 exact this ls ok.kinds
theorem NN(ok:dS F ls):∃L:List Nat,L.length=aA Let.aH ls+aA Let.aD ls/2/\(∀j∈L,j<ls.length)/\(L.map (uS ls)).Nodup:=by
 have hc:=ok.cr;unfold dK at hc;simp only[aay,beq_iff_eq] at hc;have hid:=hc.2
 let ids:List (Int×Int):=(dI ls ls.length).map fun id=>(1,id)
 have art:∀a∈ids,∃j,(uS ls j=a/\j<ls.length):=by intro a ha;obtain⟨id,hi,rfl⟩:=aaF.1 ha;obtain⟨j,o,hj,hh⟩:=(oQ (aaj _)).1 hi;obtain⟨m,hm,mc,mi,_⟩:=iF hh;refine⟨j,?_,hj⟩;unfold uS;rw[hm];simp[mc,mi]
 obtain⟨M,m1,m2⟩:=wx (P:=fun a j=>uS ls j=a/\j<ls.length) (f:=uS ls) (fun a b h=>h.1) art;have AN:∀i∈ae ls,i<ls.length/\uS ls i=(0,(i:Int)):=fun i hi=>by obtain⟨l,hl,hp⟩:=dT.1 hi;refine⟨(aai.1 hl).1,?_⟩;unfold uS;rw[hl];simp[dL hp]
 refine⟨ae ls++M,?_,fun j hj=>?_,?_⟩
 .have:M.length=(dI ls ls.length).length:=by
   have:=congrArg List.length m1
   simpa [ids] using this
  rw[aaY,this,hid,lK]
 .rcases aaR.1 hj with hj|hj
  .exact(AN j hj).1
  obtain⟨_,_,h⟩:=m2 j hj;exact h.2
 rw[abq,m1,adi];refine⟨?_,?_,?_⟩
 .have:(ae ls).map (uS ls)=(ae ls).map fun i:Nat=>((0:Int),(i:Int)):=ac2 fun i hi=>(AN i hi).2;rw[this];refine acr.2 (List.Pairwise.imp (fun {a b} h e=>h ?_) (GZ ok));have:=congrArg Prod.snd e;simp only at this;omega
 .refine acr.2 (List.Pairwise.imp (fun {a b} h e=>h ?_) (rW ls ls.length));exact congrArg Prod.snd e
 intro a ha b hb e;obtain⟨i,hi,rfl⟩:=aaF.1 ha;obtain⟨id,_,rfl⟩:=aaF.1 hb;rw[(AN i hi).2] at e;have:=congrArg Prod.fst e;simp at this
end
section
variable {F:Nat} {ls:List Let} {p:Nat->Bool}
abbrev Yg(ls:List Let)(p:Nat->Bool):Nat->Nat->Prop:=ND (2*nD ls) (sgC p (cq ls)) (tsC p (ls.length+(ae ls).length))
theorem yF(ls:List Let):nD ls=2*(ls.length+(ae ls).length):=by unfold nD;omega
theorem ZM(hp:∀x,p (rv x)=p x){y:Nat}(hy:y<2*nD ls):dk (Yg ls p) y (Hn p y):=by
 have hN:=yF ls;obtain⟨h1,h2⟩:=SC p (k:=ls.length+(ae ls).length) (e:=y/4) (by omega);have r1:dk (Yg ls p) (4*(y/4)) (Hn p (4*(y/4))):=.rel (.inr h1);have r2:dk (Yg ls p) (4*(y/4)+1) (Hn p (4*(y/4)+1)):=.rel (.inr h2);have a2:=ZZ hp (y/4);have a3:=ZY hp (y/4);rcases(by omega:y=4*(y/4)\/y=4*(y/4)+1\/y=4*(y/4)+2\/y=4*(y/4)+3) with e|e|e|e
 .rw[<- e] at r1;exact r1
 .rw[<- e] at r2;exact r2
 .rw[<- e] at a2;rw[a2];rw[Ry] at r1;rw[Rx] at r2;by_cases c:p (2*(y/4))=true
  .rw[if_pos c] at r2 ⊢;rw[<- e] at r2;exact r2.symm
  rw[if_neg c] at r1 ⊢;rw[<- e] at r1;exact r1.symm
 rw[<- e] at a3;rw[a3];rw[Ry] at r1;rw[Rx] at r2;by_cases c:p (2*(y/4))=true
 .rw[if_pos c] at r1 ⊢;rw[<- e] at r1;exact r1.symm
 rw[if_neg c] at r2 ⊢;rw[<- e] at r2;exact r2.symm
theorem QV(hp:∀x,p (rv x)=p x){x s:Nat}(hx:x<nD ls)(hs:s<2):dk (Yg ls p) (2*x+s) (2*rv x+fx (p x) s):=by have:=ZM (ls:=ls) hp (y:=2*x+s) (by omega);unfold Hn at this;rwa[show(2*x+s)/2=x by omega,show(2*x+s)%2=s by omega] at this
theorem KT(hp:∀x,p (rv x)=p x){x s:Nat}(hx:x<nD ls)(hs:s<2):dk (Yg ls p) (2*x+s) (2*cq ls x+s):=by
 have hN:=yF ls;have hf:fx (p x) s<2:=KD hs;refine(QV hp hx hs).trans (.rel (.inl ⟨?_,?_⟩))
 .have:rv x<nD ls:=by rw[hN];exact sK (by omega)
  omega
 unfold sgC;rw[show(2*rv x+fx (p x) s)/2=rv x by omega,show(2*rv x+fx (p x) s)%2=fx (p x) s by omega,sJ,hp,V7 hs]
def Sn(ls:List Let)(p:Nat->Bool)(x:Nat):Prop:= ∃b,∀s,s<2->dk (Yg ls p) (2*x+s) (fx b s)
theorem Uf(ls:List Let)(p:Nat->Bool):Sn ls p 0:=⟨false,fun s _=>by rw[show 2*0+s=s by omega];exact .refl _⟩
theorem Uk(a b:Bool){s:Nat}(h:s<2):fx a (fx b s)=fx (a !=b) s:=by unfold fx;cases a<;>cases b<;>simp;omega
theorem Qs(hp:∀x,p (rv x)=p x){x:Nat}(hx:x<nD ls)(h:Sn ls p x):Sn ls p (rv x):=by obtain⟨b,h⟩:=h;refine⟨b !=p x,fun s hs=>?_⟩;have h1:=(QV hp hx (s:=fx (p x) s) (KD hs)).symm.trans (h (fx (p x) s) (KD hs));rwa[V7 hs,Uk _ _ hs] at h1
theorem Kw(hp:∀x,p (rv x)=p x){x:Nat}(hx:x<nD ls)(h:Sn ls p x):Sn ls p (cq ls x):=by obtain⟨t,h⟩:=h;exact⟨t,fun s hs=>(KT hp hx hs).symm.trans (h s hs)⟩
theorem Ug(hp:∀x,p (rv x)=p x){x:Nat}(hx:x<nD ls)(h:Sn ls p (cq ls x)):Sn ls p x:=by obtain⟨t,h⟩:=h;exact⟨t,fun s hs=>(KT hp hx hs).trans (h s hs)⟩
theorem Xk(hp:∀x,p (rv x)=p x)(ok:dS F ls){x:Nat}(hx:x<nD ls):Sn ls p x:=by
 have m:=maps ok;have hN:=yF ls;have hrv:∀y,y<nD ls->rv y<nD ls:=fun y hy=>by rw[hN] at hy ⊢;exact sK hy
 have fwd:∀i,i<ls.length->Sn ls p (2*i):=by
  intro i
  induction i with
  |zero=>intro _;exact Uf ls p
  |succ i ih=>
   intro hi;have h0:=ih (by omega);have h2:2*i<nD ls:=by omega
   have h3:=Kw hp h2 h0;have h4:=m.lt _ h2;have h5:=Kw hp (hrv _ h4) (Qs hp h4 h3);have e:2*i=gJ ls.length (i+1) true:=by unfold gJ;rw[if_pos rfl,show i+1+ls.length-1=i+ls.length by omega,acn,aa7 (by omega)]
   rw[e,EQ ok hi] at h5;exact h5
 have str:∀y,y<2*ls.length->Sn ls p y:=fun y hy=>by
  rcases acs y with c|c
  .rw[show y=2*(y/2) by omega];exact fwd _ (by omega)
  have:=Qs hp (x:=2*(y/2)) (by omega) (fwd (y/2) (by omega));rw[JO] at this;rw[show y=2*(y/2)+1 by omega];exact this
 rcases Nat.lt_or_ge x (2*ls.length) with c|c
 .exact str x c
 exact Ug hp hx (str _ (m.ax x hx c))
end
section
variable {F:Nat} {ls:List Let}
end
theorem NK{next:Nat->Nat}{N:Nat}(m:As next n2 N){α:Type}{φ:Nat->α}(hφ:∀x,x<N->φ (next x)=φ x){reps:List Nat}(hr:∀x∈reps,x<N)(hn:(reps.map φ).Nodup):reps.length<=(cP next N).length:=by
 have ad9:=iQ next N;have hin:∀x,x<N->∃(i:Nat) (w:List Nat),(cP next N)[i]?=some w/\x∈w/\CP (cP next N) x=i:=fun x hx=>by obtain⟨w,hw,hxw⟩:=adf.1 (ad9.2 x hx);obtain⟨i,hi⟩:=abb hw;exact⟨i,w,hi,hxw,tK ad9.1 hi hxw⟩
 have arp:∀a b,dk (fun x y=>x<N/\y=next x) a b->φ a=φ b:=fun a b h=>by
  induction h with
  |rel h=>rw[h.2,hφ _ h.1]
  |refl _=>rfl
  |symm _ ih=>exact ih.symm
  |trans _ _ h1 h2=>exact h1.trans h2
 have abU:∀x,x<N->∀y,y<N->CP (cP next N) x=CP (cP next N) y->φ x=φ y:=fun x hx y hy e=>by obtain⟨i,w,hi,hxw,e1⟩:=hin x hx;obtain⟨j,v,hj,hyv,e2⟩:=hin y hy;rw[e1,e2] at e;subst e;rw[hi] at hj;cases hj;exact arp x y (mL m (R:=fun x y=>x<N/\y=next x) (fun z hz=>.rel ⟨hz,rfl⟩) (aae hi) hxw hyv)
 have h1:(reps.map (CP (cP next N))).Nodup:=by unfold List.Nodup at hn ⊢;rw[acr] at hn ⊢;refine hn.imp_of_mem fun {x y} hx hy h e=>?_;exact h (abU x (hr x hx) y (hr y hy) e)
 have h2:∀i∈reps.map (CP (cP next N)),i∈List.range (cP next N).length:=fun i hi=>by obtain⟨x,hx,rfl⟩:=aaF.1 hi;obtain⟨i,w,hi,_,e⟩:=hin x (hr x hx);rw[e];exact aaX.2 (aai.1 hi).1
 have:=rz _ _ h1 h2;rwa[aau,ac3] at this
end
end Go.Abs
