/-
  Walks around faces; a bound on the number of faces.
-/
import Derived.Test.YtfohniicngjeoaaGreatDoorWs
set_option linter.all false
set_option maxHeartbeats 16000000
namespace Go.Abs
section
variable{n2 x:Nat}
theorem Qo{S:List Bool}(h:sn S x=false):x<S.length:=by
 rcases Nat.lt_or_ge x S.length with h1|h1
 .exact h1
 rw[sn,dq,tZ h1] at h;cases h
theorem afH(next:Nat->Nat):∀(k x:Nat) (S:List Bool),(∀y∈(fe next k x S).1,sn S y=false)/\(fe next k x S).1.Nodup/\ ∀y,sn (fe next k x S).2 y=(sn S y||decide (y∈(fe next k x S).1)):=by
 intro k
 induction k with
 |zero=>intro x S;simp[fe]
 |succ k ih=>
  intro x S;unfold fe;cases hx:S.getD x true with
  |true=>simp
  |false=>
   have hl:=Qo (S:=S) (x:=x) hx;obtain⟨h1,h2,h3⟩:=ih (next x) (S.set x true);simp only[dL,if_false];have ia:∀y,sn (S.set x true) y=if y=x then true else sn S y:=fun y=>Nb hl;refine⟨fun y hy=>?_,?_,fun y=>?_⟩
   .rcases cP.1 hy with rfl|hy
    .exact hx
    have:=h1 y hy;rw[ia] at this;split at this
    .cases this
    exact this
   .refine r6.2 ⟨fun hm=>?_,h2⟩;have:=h1 x hm;rw[ia,if_pos rfl] at this;cases this
   rw[h3,ia];by_cases e:y=x
   .subst e;simp
   rw[if_neg e];have:decide (y∈x::(fe next k (next x) (S.set x true)).1)=decide (y∈(fe next k (next x) (S.set x true)).1):=by simp[e]
   rw[this]
theorem ar9(next:Nat->Nat)(N:Nat):∀k,(dG next N k).1.flatten.Nodup/\(∀y,y<N->sn (dG next N k).2 y=decide (y∈(dG next N k).1.flatten))/\(∀y∈(dG next N k).1.flatten,y<N)/\ ∀x,x<k->x<N->sn (dG next N k).2 x=true:=by
 intro k
 induction k with
 |zero=>refine⟨by simp[dG],fun y hy=>?_,by simp[dG],fun x hx=>absurd hx (qY x)⟩;have:(dG next N 0).2=List.replicate N false:=rfl;rw[this,Wc hy];simp[dG]
 |succ k ih=>
  obtain⟨h1,h2,h4,h3⟩:=ih;rw[ya];unfold uL;have hlen:=GU next N k;cases hk:(dG next N k).2.getD k true with
  |true=>
   rw[if_pos rfl];refine⟨h1,h2,h4,fun x hx Ax=>?_⟩;rcases mY.1 hx with h|rfl
   .exact h3 x h Ax
   exact hk
  |false=>
   rw[if_neg ae];have hkN:k<N:=by have:=Qo (S:=(dG next N k).2) hk;omega
   obtain⟨g1,g2,g3⟩:=afH next ((dG next N k).2.length+1) k (dG next N k).2;have UB:=afG next ((dG next N k).2.length+1) k (dG next N k).2 (by have:=JQ (dG next N k).2;omega);refine⟨?_,fun y hy=>?_,?_,fun x hx Ax=>?_⟩
   .rw[EZ,Hf];refine⟨h1,by simpa using g2,fun y hy z hz=>?_⟩;rintro rfl
    have e1:=g1 y (by simpa using hz);have hyN:=h4 y hy;rw[h2 y hyN] at e1;simp[hy] at e1
   .rw[g3,h2 y hy,EZ,Bool.eq_iff_iff];simp
   .intro y hy;rw[EZ,fg] at hy;rcases hy with hy|hy
    .exact h4 y hy
    have:=Qo (g1 y (by simpa using hy));omega
   rcases mY.1 hx with h|rfl
   .rw[g3,h3 x h Ax];rfl
   exact UB
theorem JU(next:Nat->Nat)(N:Nat):(iJ next N).flatten.Nodup/\ ∀y,y<N->y∈(iJ next N).flatten:=by obtain⟨h1,h2,_,h3⟩:=ar9 next N N;refine⟨h1,fun y hy=>?_⟩;have:=h3 y hy hy;rw[h2 y hy] at this;exact of_decide_eq_true this
theorem ads{L:List (List Nat)}(h:L.flatten.Nodup){i j:Nat}{a b:List Nat}(hi:L[i]?=some a)(hj:L[j]?=some b)(ha:x∈a)(hb:x∈b):i=j:=by
 induction L generalizing i j with
 |nil=>simp at hi
 |cons l L ih=>
  rw[l8,Hf] at h;obtain⟨_,h2,h3⟩:=h;cases i with
  |zero=>
   simp at hi;subst hi;cases j with
   |zero=>rfl
   |succ j=>simp at hj;exact absurd rfl (h3 x ha x (Hd.2 ⟨b,aU hj,hb⟩))
  |succ i=>
   simp at hi;cases j with
   |zero=>simp at hj;subst hj;exact absurd rfl (h3 x hb x (Hd.2 ⟨a,aU hi,ha⟩))
   |succ j=>simp at hj;rw[ih h2 hi hj]
section
variable {F:Nat} {ls:List Let}
theorem ZX{j:Nat}{f:Fc}(h:(eV F ls)[j]?=some f):∃w,(iJ (aV ls) (nD ls))[j]?=some w/\f=nv F ls w:=by
 unfold eV at h;rw[fZ] at h;cases hw:(iJ (aV ls) (nD ls))[j]? with
 |none=>rw[hw] at h;cases h
 |some w=>rw[hw] at h;cases h;exact⟨w,rfl,rfl⟩
theorem aio{i j:Nat}{a b:Fc}{d:Nat}(hi:(eV F ls)[i]?=some a)(hj:(eV F ls)[j]?=some b)(ha:d∈a.dp)(hb:d∈b.dp):i=j:=by obtain⟨v,hv,rfl⟩:=ZX hi;obtain⟨w,hw,rfl⟩:=ZX hj;rw[HY] at ha hb;exact ads (JU _ _).1 hv hw (vG.1 ha).1 (vG.1 hb).1
theorem aip{d:Nat}(hd:d<2*ls.length):∃(j:Nat) (f:Fc),(eV F ls)[j]?=some f/\d∈f.dp:=by
 have:=(JU (aV ls) (nD ls)).2 d (by unfold nD;omega);obtain⟨w,hw,hdw⟩:=Hd.1 this;obtain⟨j,hj⟩:=jZ hw;have mM:(eV F ls)[j]?=some (nv F ls w):=by unfold eV;rw[fZ,hj];rfl
 refine⟨j,nv F ls w,mM,?_⟩;rw[HY];exact vG.2 ⟨hdw,by simpa using hd⟩
theorem aeP{ds:List Nat}{v:Nat}{d:Nat}:∀ {L:List Nat},d<L.length->(oF L ds v)[d]?=if d∈ds then some v else L[d]? :=by
 induction ds with
 |nil=>intro L _;simp[oF]
 |cons e ds ih=>
  intro L hd;show(oF (L.set e v) ds v)[d]?=_;rw[ih (by simpa using hd),pN];by_cases h1:d∈ds
  .simp[h1]
  by_cases h2:e=d
  .subst h2;simp[hd]
  have:d≠e:=fun h=>h2 h.symm;simp[h1,h2,this]
theorem amv{d:Nat}:∀ {fs:List Fc} {j:Nat} {L:List Nat},d<L.length->(∀f∈fs,d∉f.dp)->(qm fs j L)[d]?=L[d]? :=by
 intro fs
 induction fs with
 |nil=>intro j L _ _;rfl
 |cons f fs ih=>intro j L hd h;show(qm fs (j+1) (oF L f.dp j))[d]?=_;rw[ih (by rw[M8];exact hd) fun g hg=>h g (by simp[hg]),aeP hd,if_neg (h f af)]
theorem amu{d:Nat}:∀ {fs:List Fc} {j i:Nat} {L:List Nat} {f:Fc},d<L.length->fs[i]?=some f->d∈f.dp->(∀i' f',fs[i']?=some f'->d∈f'.dp->i'=i)->(qm fs j L)[d]?=some (j+i):=by
 intro fs
 induction fs with
 |nil=>intro j i L f _ h;simp at h
 |cons g fs ih=>
  intro j i L f hd hi hf hu;show(qm fs (j+1) (oF L g.dp j))[d]?=_;cases i with
  |zero=>
   simp at hi;subst hi;rw[amv (by rw[M8];exact hd),aeP hd,if_pos hf]
   .rfl
   intro f' hf' FV;obtain⟨i',yX⟩:=jZ hf';have:=hu (i'+1) f' (by simpa using yX) FV;omega
  |succ i=>simp at hi;rw[ih (by rw[M8];exact hd) hi hf fun i' f' h1 h2=>by have:=hu (i'+1) f' (by simpa using h1) h2;omega];congr 1;omega
theorem left_at{d j:Nat}{f:Fc}(hd:d<2*ls.length)(hf:(eV F ls)[j]?=some f)(hm:d∈f.dp):(ow F ls)[d]?=some j:=by unfold ow;rw[amu (by simpa using hd) hf hm fun i' f' h1 h2=>aio h1 hf h2 hm];congr 1;omega
theorem ZV{d:Nat}(hd:d<2*ls.length):∃j,(eV F ls)[j]?=some (tv F ls d)/\d∈(tv F ls d).dp/\(ow F ls)[d]?=some j:=by
 obtain⟨j,f,hf,hm⟩:=aip (F:=F) hd;have hl:=left_at hd hf hm;have e:tv F ls d=f:=by unfold tv;rw[dq (l:=ow F ls),hl,nc,dq,hf,nc]
 exact⟨j,e▸hf,e▸hm,hl⟩
theorem ZW{d:Nat}(hd:d<2*ls.length):tv F ls d∈eV F ls:=by obtain⟨j,h1,_⟩:=ZV (F:=F) hd;exact aU h1
end
inductive bl (R:Nat->Nat->Prop):Nat->Nat->Prop
 |rel {a b:Nat}:R a b->bl R a b
 |refl (a:Nat):bl R a a
 |symm {a b:Nat}:bl R a b->bl R b a
 |trans {a b c:Nat}:bl R a b->bl R b c->bl R a c
theorem bl.mono{R R':Nat->Nat->Prop}(h:∀a b,R a b->bl R' a b){y:Nat}(e:bl R x y):bl R' x y:=by
 induction e with
 |rel r=>exact h _ _ r
 |refl a=>exact .refl a
 |symm _ ih=>exact .symm ih
 |trans _ _ i1 i2=>exact .trans i1 i2
theorem bl.inv{R:Nat->Nat->Prop}{α:Type}{f:Nat->α}(h:∀a b,R a b->f a=f b){y:Nat}(e:bl R x y):f x=f y:=by
 induction e with
 |rel r=>exact h _ _ r
 |refl a=>rfl
 |symm _ ih=>exact ih.symm
 |trans _ _ i1 i2=>exact i1.trans i2
def ld (E:Nat->Nat->Prop)(x:Nat):Prop:=∀y,E x y->x<=y
noncomputable def AP (E:Nat->Nat->Prop) (x:Nat):Bool:= @decide (ld E x) (Classical.propDecidable _)
theorem I4{E:Nat->Nat->Prop}:AP E x=true↔ld E x:=by unfold AP;exact @decide_eq_true_iff _ (Classical.propDecidable _)
noncomputable def K (E:Nat->Nat->Prop) (n:Nat):Nat:=(List.range n).countP (AP E)
theorem Hm{E E':Nat->Nat->Prop}(h:∀x y,E x y↔E' x y)(n:Nat):K E n=K E' n:=by have:E=E':=funext fun x=>funext fun y=>propext (h x y);rw[this]
theorem YR{p:Nat->Prop}:∀n,p n->∃m,p m/\ ∀k,p k->m<=k:=by
 intro n
 induction n using Nat.strongRecOn with
 |ind n ih=>
  intro h;rcases Classical.em (∃k,k<n/\p k) with ⟨k,hk,hp⟩|dD
  .exact ih k hk hp
  exact⟨n,h,fun k hk=>Nat.le_of_not_lt fun ay=>dD ⟨k,ay,hk⟩⟩
theorem Vp(R:Nat->Nat->Prop)(x:Nat):∃m,bl R x m/\ld (bl R) m/\m<=x:=by obtain⟨m,h1,h2⟩:=YR (p:=fun y=>bl R x y) x (.refl x);exact⟨m,h1,fun y hy=>h2 y (h1.trans hy),h2 x (.refl x)⟩
theorem ah9{p:Nat->Bool}(hp:p x=true):∀ {l:List Nat},l.Nodup->x∈l->l.countP p=l.countP (fun y=>p y&&y !=x)+1:=by
 intro l
 induction l with
 |nil=>intro _ h;cases h
 |cons a l ih=>
  intro hn hm;obtain⟨h1,h2⟩:=r6.1 hn;rw[wP,wP];by_cases e:a=x
  .subst e;have hc:l.countP p=l.countP (fun y=>p y&&y !=a):=List.countP_congr fun y hy=>by
    have:(y !=a)=true:=by simp;rintro rfl;exact h1 hy
    simp[this]
   simp[hp,hc]
  have hx:x∈l:=by rcases cP.1 hm with h|h;exact absurd h.symm e;exact h
  rw[ih h2 hx];have:(a !=x)=true:=by simp[e]
  simp only[this,wO];omega
abbrev qx(R:Nat->Nat->Prop)(a b:Nat)(x y:Nat):Prop:=R x y\/(x=a/\y=b)
theorem FD{R:Nat->Nat->Prop}{a b y:Nat}:bl (qx R a b) x y↔bl R x y\/(bl R x a/\bl R b y)\/(bl R x b/\bl R a y):=by
 constructor
 .intro h
  induction h with
  |rel r=>
   rcases r with r|⟨rfl,rfl⟩
   .exact .inl (.rel r)
   exact .inr (.inl ⟨.refl _,.refl _⟩)
  |refl a=>exact .inl (.refl a)
  |symm _ ih=>
   rcases ih with h|⟨h1,h2⟩|⟨h1,h2⟩
   .exact .inl h.symm
   .exact .inr (.inr ⟨h2.symm,h1.symm⟩)
   exact .inr (.inl ⟨h2.symm,h1.symm⟩)
  |trans _ _ i1 i2=>
   rcases i1 with h|⟨h1,h2⟩|⟨h1,h2⟩<;>rcases i2 with k|⟨k1,k2⟩|⟨k1,k2⟩
   .exact .inl (h.trans k)
   .exact .inr (.inl ⟨h.trans k1,k2⟩)
   .exact .inr (.inr ⟨h.trans k1,k2⟩)
   .exact .inr (.inl ⟨h1,h2.trans k⟩)
   .exact .inr (.inl ⟨h1,k2⟩)
   .exact .inl (h1.trans k2)
   .exact .inr (.inr ⟨h1,h2.trans k⟩)
   .exact .inl (h1.trans k2)
   exact .inr (.inr ⟨h1,k2⟩)
 have up:∀ {u v},bl R u v->bl (qx R a b) u v:=fun h=>h.mono fun _ _ r=>.rel (.inl r);have ab:bl (qx R a b) a b:=.rel (.inr ⟨rfl,rfl⟩);rintro (h|⟨h1,h2⟩|⟨h1,h2⟩)
 .exact up h
 .exact(up h1).trans (ab.trans (up h2))
 exact(up h1).trans (ab.symm.trans (up h2))
theorem QS{R:Nat->Nat->Prop}{a b:Nat}(h:bl R a b)(n:Nat):K (bl (qx R a b)) n=K (bl R) n:=by
 refine Hm (fun x y=>?_) n;rw[FD];constructor
 .rintro (k|⟨h1,h2⟩|⟨h1,h2⟩)
  .exact k
  .exact h1.trans (h.trans h2)
  exact h1.trans (h.symm.trans h2)
 exact .inl
theorem WH{E E':Nat->Nat->Prop}{n m:Nat}(hm:m<n)(h0:ld E m)(h:∀x,ld E' x↔ld E x/\x≠m):K E n=K E' n+1:=by unfold K;rw[ah9 (p:=AP E) (x:=m) (I4.2 h0) E6 (gj.2 hm)];congr 1;refine List.countP_congr fun x _=>?_;rw[I4,h,cX,I4];simp
theorem QR{R:Nat->Nat->Prop}{a b n:Nat}(ha:a<n)(hb:b<n)(h:¬bl R a b):K (bl R) n=K (bl (qx R a b)) n+1:=by
 obtain⟨p,p1,p2,p3⟩:=Vp R a;obtain⟨q,q1,q2,q3⟩:=Vp R b;have hpq:p≠q:=fun e=>h (p1.trans (e▸q1.symm));rcases Nat.lt_or_gt_of_ne hpq with c|c
 .refine WH (m:=q) aa q2 fun x=>⟨fun hx=>⟨fun y hy=>hx y (FD.2 (.inl hy)),?_⟩,fun⟨hx,hxq⟩ y hy=>?_⟩
  .rintro rfl
   have:=hx p (FD.2 (.inr (.inr ⟨q1.symm,p1⟩)));omega
  rcases FD.1 hy with hy|⟨h1,h2⟩|⟨h1,h2⟩
  .exact hx y hy
  .have e1:=hx p (h1.trans p1);have e2:=q2 y (q1.symm.trans h2);omega
  have e1:=hx q (h1.trans q1);have e2:=q2 x (q1.symm.trans h1.symm);omega
 refine WH (m:=p) aa p2 fun x=>⟨fun hx=>⟨fun y hy=>hx y (FD.2 (.inl hy)),?_⟩,fun⟨hx,hxq⟩ y hy=>?_⟩
 .rintro rfl
  have:=hx q (FD.2 (.inr (.inl ⟨p1.symm,q1⟩)));omega
 rcases FD.1 hy with hy|⟨h1,h2⟩|⟨h1,h2⟩
 .exact hx y hy
 .have e1:=hx p (h1.trans p1);have e2:=p2 x (p1.symm.trans h1.symm);omega
 have e1:=hx q (h1.trans q1);have e2:=p2 y (p1.symm.trans h2);omega
theorem WI{R:Nat->Nat->Prop}{α:Type}{f:Nat->α}(h:∀a b,R a b->f a=f b){n:Nat}{reps:List Nat}(hr:∀x∈reps,x<n)(hn:(reps.map f).Nodup):reps.length<=K (bl R) n:=by
 have key:∀reps:List Nat,(∀x∈reps,x<n)->(reps.map f).Nodup->∃L:List Nat,L.length=reps.length/\L.Nodup/\(∀m∈L,m<n/\ld (bl R) m)/\ ∀m∈L,f m∈reps.map f:=by
  intro reps
  induction reps with
  |nil=>intro _ _;exact⟨[],rfl,wS,af,af⟩
  |cons a r ih=>
   intro hr hn;rw[dS,r6] at hn;obtain⟨L,l1,l2,l3,l4⟩:=ih (fun x hx=>hr x (by simp[hx])) hn.2;obtain⟨m,m1,m2,m3⟩:=Vp R a;have hfm:f m=f a:=(m1.inv h).symm;have ha:=hr a af;refine⟨m::L,by simp[l1],r6.2 ⟨fun hm=>hn.1 (hfm▸l4 m hm),l2⟩,fun x hx=>?_,fun x hx=>?_⟩
   .rcases cP.1 hx with rfl|hx
    .exact⟨aa,m2⟩
    exact l3 x hx
   rcases cP.1 hx with rfl|hx
   .rw[hfm];simp
   rw[dS];exact Bv _ (l4 x hx)
 obtain⟨L,l1,l2,l3,_⟩:=key reps hr hn;rw[<- l1];unfold K;rw[List.countP_eq_length_filter];have sub:∀(L M:List Nat),L.Nodup->(∀x∈L,x∈M)->L.length<=M.length:=by
  intro L
  induction L with
  |nil=>intro M _ _;exact bG _
  |cons a L ih=>intro M hn hs;obtain⟨h1,h2⟩:=r6.1 hn;have ha:=hs a af;have:=ih (M.erase a) h2 fun x hx=>(List.mem_erase_of_ne (by rintro rfl;exact h1 hx)).2 (hs x (by simp[hx]));rw[List.length_erase_of_mem ha] at this;have:0<M.length:=Nw ha;simp only[dh];omega
 exact sub L _ l2 fun x hx=>vG.2 ⟨gj.2 (l3 x hx).1,I4.2 (l3 x hx).2⟩
theorem afT{R:Nat->Nat->Prop}{n:Nat}(h:∀x,x<n->bl R x 0):K (bl R) n<=1:=by
 unfold K;have hz:∀x∈List.range n,AP (bl R) x=true->x=0:=fun x hx hl=>by have:=I4.1 hl 0 (h x (gj.1 hx));omega
 have:∀l:List Nat,l.Nodup->(∀x∈l,AP (bl R) x=true->x=0)->l.countP (AP (bl R))<=1:=by
  intro l
  induction l with
  |nil=>intro _ _;simp
  |cons a l ih=>
   intro hn hl;obtain⟨h1,h2⟩:=r6.1 hn;rw[wP];by_cases c:AP (bl R) a=true
   .have ha:=hl a af c;subst ha;have:l.countP (AP (bl R))=0:=JZ.2 fun x hx vk=>h1 (by have:=hl x (by simp[hx]) vk;subst this;exact hx);simp[c,this]
   have:=ih h2 fun x hx=>hl x (by simp[hx]);simp[c,this]
 exact this _ E6 hz
structure Perm (n:Nat) (p:Nat->Nat):Prop where
 lt:∀x,x<n->p x<n
 inj:∀x y,x<n->y<n->p x=p y->x=y
abbrev gr(n:Nat)(p:Nat->Nat)(x y:Nat):Prop:=x<n/\y=p x
def tr (p:Nat->Nat)(t:Nat×Nat)(x:Nat):Nat:=if x=t.1 then p t.2 else if x=t.2 then p t.1 else p x
theorem QC(p:Nat->Nat)(a b x:Nat):tr p (a,b) x=p (if x=a then b else if x=b then a else x):=by
 unfold tr;simp only;split
 .rfl
 split<;>rfl
theorem Perm.tr{n:Nat}{p:Nat->Nat}(h:Perm n p){a b:Nat}(ha:a<n)(hb:b<n):Perm n (tr p (a,b)):=by
 have hs:∀x,x<n->(if x=a then b else if x=b then a else x)<n:=fun x hx=>by split<;>(try split)<;>assumption
 refine⟨fun x hx=>by rw[QC];exact h.lt _ (hs x hx),fun x y hx hy e=>?_⟩;rw[QC,QC] at e;have e:=h.inj _ _ (hs x hx) (hs y hy) e;by_cases x1:x=a
 .rw[if_pos x1] at e;by_cases y1:y=a
  .omega
  rw[if_neg y1] at e;split at e<;>omega
 rw[if_neg x1] at e;by_cases y1:y=a
 .rw[if_pos y1] at e;split at e<;>omega
 rw[if_neg y1] at e;split at e<;>split at e<;>omega
def it (p:Nat->Nat):Nat->Nat->Nat
 |0,x=>x
 |k+1,x=>p (it p k x)
theorem Perm.Gp{n:Nat}{p:Nat->Nat}(h:Perm n p)(hx:x<n):∀k,it p k x<n:=by
 intro k
 induction k with
 |zero=>exact hx
 |succ k ih=>exact h.lt _ ih
theorem Perm.back{n:Nat}{p:Nat->Nat}(h:Perm n p)(hx:x<n):∀i j,it p (i+j) x=it p i x->it p j x=x:=by
 intro i
 induction i with
 |zero=>intro j e;rw[kU] at e;exact e
 |succ i ih=>intro j e;rw[show i+1+j=(i+j)+1 by omega] at e;exact ih j (h.inj _ _ (h.Gp hx _) (h.Gp hx _) e)
theorem JG:∀(L M:List Nat),L.Nodup->(∀x∈L,x∈M)->L.length<=M.length:=by
 intro L
 induction L with
 |nil=>intro M _ _;exact bG _
 |cons a L ih=>intro M hn hs;obtain⟨h1,h2⟩:=r6.1 hn;have ha:=hs a af;have:=ih (M.erase a) h2 fun x hx=>(List.mem_erase_of_ne (by rintro rfl;exact h1 hx)).2 (hs x (by simp[hx]));rw[List.length_erase_of_mem ha] at this;have:0<M.length:=Nw ha;simp only[dh];omega
theorem Perm.Yn{n:Nat}{p:Nat->Nat}(h:Perm n p)(hx:x<n):∃m,it p (m+1) x=x:=by
 apply Classical.byContradiction;intro dD;have key:∀k,((List.range k).map fun i=>it p i x).Nodup:=by
  intro k
  induction k with
  |zero=>simp
  |succ k ih=>rw[wT,ll,Hf];refine⟨ih,af,fun a ha b hb=>?_⟩;obtain⟨i,hi,rfl⟩:=dQ.1 ha;have hi:=gj.1 hi;simp only[dS,kQ,pO] at hb;subst hb;intro e;have:=h.back hx i (k-i) (by rw[show i+(k-i)=k by omega];exact e.symm);exact dD ⟨k-i-1,by rw[show k-i-1+1=k-i by omega];exact this⟩
 have:=JG _ (List.range n) (key (n+1)) fun y hy=>by obtain⟨i,_,rfl⟩:=dQ.1 hy;exact gj.2 (h.Gp hx i)
 rw[cM,Dg,Dg] at this;omega
theorem abH(p:Nat->Nat)(x:Nat):∀k,it p (k+1) x=it p k (p x):=by
 intro k
 induction k with
 |zero=>rfl
 |succ k ih=>show p (it p (k+1) x)=p (it p k (p x));rw[ih]
theorem afv{n:Nat}{p:Nat->Nat}(h:Perm n p){a b:Nat}(ha:a<n)(hb:b<n)(iQ:¬bl (gr n p) a b):bl (gr n (tr p (a,b))) a b:=by
 obtain⟨m,hm⟩:=h.Yn hb;have e0:tr p (a,b) a=p b:=by unfold tr;rw[if_pos rfl]
 have cq:∀k,bl (gr n p) b (it p k b):=by
  intro k
  induction k with
  |zero=>exact .refl _
  |succ k ih=>exact ih.trans (.rel ⟨h.Gp hb k,rfl⟩)
 have key:∀k,bl (gr n (tr p (a,b))) a b\/bl (gr n (tr p (a,b))) a (it p k (p b)):=by
  intro k
  induction k with
  |zero=>exact .inr (.rel ⟨ha,e0.symm⟩)
  |succ k ih=>
   rcases ih with ih|ih
   .exact .inl ih
   by_cases c:it p k (p b)=b
   .rw[c] at ih;exact .inl ih
   refine .inr (ih.trans (.rel ⟨h.Gp (h.lt _ hb) k,?_⟩));have na:it p k (p b)≠a:=fun e=>iQ (by have:=cq (k+1);rw[abH,e] at this;exact this.symm)
   unfold tr;rw[if_neg na,if_neg c];rfl
 rcases key m with k|k
 .exact k
 rw[<- abH,hm] at k;exact k
theorem Q0{n:Nat}{p:Nat->Nat}{a b:Nat}(ha:a<n)(hb:b<n){S:Nat->Nat->Prop}{x y:Nat}:bl (qx (fun x y=>gr n (tr p (a,b)) x y\/S x y) a b) x y↔bl (qx (fun x y=>gr n p x y\/S x y) a b) x y:=by
 have ab:∀R:Nat->Nat->Prop,bl (qx R a b) a b:=fun R=>.rel (.inr ⟨rfl,rfl⟩);constructor
 .refine bl.mono fun u v r=>?_;rcases r with (⟨hu,rfl⟩|s)|⟨rfl,rfl⟩
  .unfold tr;simp only;by_cases c:u=a
   .subst c;rw[if_pos rfl];exact(ab _).trans (.rel (.inl (.inl ⟨hb,rfl⟩)))
   rw[if_neg c];by_cases d:u=b
   .subst d;rw[if_pos rfl];exact(ab _).symm.trans (.rel (.inl (.inl ⟨ha,rfl⟩)))
   rw[if_neg d];exact .rel (.inl (.inl ⟨hu,rfl⟩))
  .exact .rel (.inl (.inr s))
  exact ab _
 refine bl.mono fun u v r=>?_;rcases r with (⟨hu,rfl⟩|s)|⟨rfl,rfl⟩
 .by_cases c:u=a
  .subst c;refine(ab _).trans (.rel (.inl (.inl ⟨hb,?_⟩)));unfold tr;simp only;by_cases d:b=u
   .rw[if_pos d,d]
   rw[if_neg d];simp
  by_cases d:u=b
  .subst d;refine(ab _).symm.trans (.rel (.inl (.inl ⟨ha,?_⟩)));unfold tr;rw[if_pos rfl]
  refine .rel (.inl (.inl ⟨hu,?_⟩));unfold tr;rw[if_neg c,if_neg d]
 .exact .rel (.inl (.inr s))
 exact ab _
abbrev inT(ts:List (Nat×Nat))(x y:Nat):Prop:=(x,y)∈ts
abbrev xm(n:Nat)(p:Nat->Nat)(ts:List (Nat×Nat))(x y:Nat):Prop:=gr n p x y\/inT ts x y
theorem aiY{n:Nat}:∀(ts:List (Nat×Nat)) (p:Nat->Nat),Perm n p->(∀t∈ts,t.1<n/\t.2<n)->
  K (bl (gr n (ts.foldl tr p))) n+K (bl (gr n p)) n<=2*K (bl (xm n p ts)) n+ts.length:=by
 intro ts
 induction ts with
 |nil=>
  intro p _ _;have:K (bl (xm n p [])) n=K (bl (gr n p)) n:=Hm (fun x y=>⟨bl.mono (R:=xm n p []) (R':=gr n p) (fun u v r=>by
   rcases r with r|r
   .exact .rel r
   cases r),bl.mono (R:=gr n p) (R':=xm n p []) (fun u v r=>.rel (.inl r))⟩) n
  rw[this];simp only[List.foldl_nil,ff];omega
 |cons t ts ih=>
  intro p hp ht;obtain⟨a,b⟩:=t;obtain⟨ha,hb⟩:=ht (a,b) af
  replace ha:a<n:=ha
  replace hb:b<n:=hb
  have ih:=ih (tr p (a,b)) (hp.tr ha hb) fun t h=>ht t (by simp[h]);have all:∀x y,bl (xm n p ((a,b)::ts)) x y↔bl (qx (xm n (tr p (a,b)) ts) a b) x y:=fun x y=>by
   refine Iff.trans ⟨bl.mono fun u v r=>?_,bl.mono fun u v r=>?_⟩ (Q0 (S:=inT ts) ha hb).symm
   .rcases r with r|r
    .exact .rel (.inl (.inl r))
    rcases cP.1 r with r|r
    .cases r;exact .rel (.inr ⟨rfl,rfl⟩)
    exact .rel (.inl (.inr r))
   rcases r with (r|r)|⟨rfl,rfl⟩
   .exact .rel (.inl r)
   .exact .rel (.inr (Bv _ r))
   exact .rel (.inr (Nx ..))
  have one:∀x y,bl (qx (gr n (tr p (a,b))) a b) x y↔bl (qx (gr n p) a b) x y:=fun x y=>by have h:=Q0 (p:=p) (S:=fun _ _=>False) ha hb (x:=x) (y:=y);have e:∀q:Nat->Nat,(fun x y=>gr n q x y\/False)=gr n q:=fun q=>funext fun x=>funext fun y=>propext af;rw[e,e] at h;exact h
  rw[Hm all];simp only[Dd,dh];have kj:K (bl (qx (gr n (tr p (a,b))) a b)) n=K (bl (qx (gr n p) a b)) n:=Hm one n;have sm:∀R:Nat->Nat->Prop,bl R a b->K (bl (qx R a b)) n=K (bl R) n:=fun R h=>QS h n;have jn:∀R:Nat->Nat->Prop,¬bl R a b->K (bl R) n=K (bl (qx R a b)) n+1:=fun R h=>QR ha hb h;rcases Classical.em (bl (gr n p) a b) with c|c
  .have k1:=sm _ c;rcases Classical.em (bl (gr n (tr p (a,b))) a b) with d|d
   .have k2:=sm _ d;have k3:=sm _ (d.mono (R':=xm n (tr p (a,b)) ts) fun u v r=>.rel (.inl r));omega
   have k2:=jn _ d;rcases Classical.em (bl (xm n (tr p (a,b)) ts) a b) with d2|d2
   .have k3:=sm _ d2;omega
   have k3:=jn _ d2;omega
  have k1:=jn _ c;have d:=afv hp ha hb c;have k2:=sm _ d;have k3:=sm _ (d.mono (R':=xm n (tr p (a,b)) ts) fun u v r=>.rel (.inl r));omega
def rv (x:Nat):Nat:=if x%2=0 then x+1 else x-1
theorem vx(k:Nat):rv (2*k)=2*k+1:=by unfold rv;rw[if_pos aa]
theorem Ba(k:Nat):rv (2*k+1)=2*k:=by unfold rv;rw[if_neg aa];rfl
theorem Bc(x:Nat):rv (rv x)=x:=by
 rcases ym x with h|h
 .rw[show x=2*(x/2) by omega,vx,Ba]
 rw[show x=2*(x/2)+1 by omega,Ba,vx]
theorem Bb{m:Nat}(h:x<2*m):rv x<2*m:=by unfold rv;split<;>omega
theorem CT(n v:Nat)(g:Bool):rv (dJ n v g)=jd n v (!g):=by
 cases g with
 |true=>exact vx _
 |false=>exact Ba _
theorem apM(n v:Nat)(g:Bool):rv (jd n v g)=dJ n v (!g):=by
 cases g with
 |true=>exact vx _
 |false=>exact Ba _
theorem BC{n v:Nat}(hv:v<n)(g:Bool):jd n v g<2*n:=by have:=eH (v+n-1) (show 0<n by omega);unfold jd;split<;>omega
theorem NK{n:Nat}(hx:x<2*n):x=jd n (if x%2=0 then (x/2+1)%n else x/2) (x%2==0):=by
 unfold jd;rcases ym x with h|h
 .simp only[h,beq_self_eq_true,if_true];rw[EG aa];omega
 simp only[h,show((1:Nat)==0)=false from rfl,dL,if_false,Nat.one_ne_zero];omega
section
variable {F:Nat} {ls:List Let}
theorem afz{v:Nat}{l:Let}(hl:ls[v]?=some l)(fw:Bool):aV ls (jd ls.length v fw)=if l.kind==2 then dJ ls.length (fN ls v) (fw==(l.over==(l.sign==1)))
   else if dn ls v==fw then 2*ls.length+2*(aF ls).idxOf v else 2*ls.length+2*(((aF ls).idxOf v+(aF ls).length-1)%(aF ls).length)+1:=by
 have hv:=(aW.1 hl).1;have ay:=BC hv fw;refine afy aa ?_ ?_ hl
 .unfold jd;cases fw<;>simp
 unfold jd;cases fw with
 |true=>simp only[if_true];rw[show 2*((v+ls.length-1)%ls.length)/2=(v+ls.length-1)%ls.length by omega,wE hv]
 |false=>simp only[dL,if_false];omega
theorem Bk{v:Nat}{l:Let}(hl:ls[v]?=some l)(hc:l.aB=true)(fw:Bool):aV ls (jd ls.length v fw)=dJ ls.length (fN ls v) (fw==(l.over==(l.sign==1))):=by rw[afz hl];unfold Let.aB at hc;rw[if_pos hc]
theorem Nh{v:Nat}{l:Let}(hl:ls[v]?=some l)(hp:l.aE=true)(fw:Bool):aV ls (jd ls.length v fw)=if dn ls v==fw then 2*ls.length+2*(aF ls).idxOf v else 2*ls.length+2*(((aF ls).idxOf v+(aF ls).length-1)%(aF ls).length)+1:=by have:=pI hp;unfold Let.aB at this;rw[afz hl,if_neg (by rw[this];decide)]
theorem JM(k:Nat):aV ls (2*ls.length+2*k)=dJ ls.length ((aF ls).getD ((k+1)%(aF ls).length) 0) (!dn ls ((aF ls).getD ((k+1)%(aF ls).length) 0)):=by show gQ _ _ _=_;unfold gQ;rw[if_pos aa,if_pos aa,show(2*ls.length+2*k-2*ls.length)/2=k by omega]
theorem JL(k:Nat):aV ls (2*ls.length+2*k+1)=dJ ls.length ((aF ls).getD k 0) (dn ls ((aF ls).getD k 0)):=by show gQ _ _ _=_;unfold gQ;rw[if_pos aa,if_neg aa,show(2*ls.length+2*k+1-2*ls.length)/2=k by omega]
theorem Fp{k:Nat}(hk:k<(aF ls).length):∃l,ls[(aF ls).getD k 0]?=some l/\l.aE=true:=by obtain⟨v,hv⟩:=aL hk;rw[dq,hv,nc];exact tg.1 (aU hv)
theorem Kq{v:Nat}{l:Let}(ok:fj F ls)(hl:ls[v]?=some l)(hp:l.aE=true):(aF ls).idxOf v<(aF ls).length/\(aF ls).getD ((aF ls).idxOf v) 0=v:=by have h1:=Rg ok.ax hl hp;rw[Ks ok.ax hl hp];exact⟨(aW.1 h1).1,by rw[dq,h1];rfl⟩
theorem afk(ok:fj F ls){v:Nat}(hv:v<ls.length)(fw:Bool):aV ls (rv (aV ls (jd ls.length v fw)))=dJ ls.length v fw:=by
 obtain⟨l,hl⟩:=aL hv;rcases ok.kinds l (aU hl) with hp|hc
 .obtain⟨h1,h2⟩:=Kq ok hl hp;rw[Nh hl hp];by_cases c:(dn ls v==fw)=true
  .rw[if_pos c,show 2*ls.length+2*(aF ls).idxOf v=2*(ls.length+(aF ls).idxOf v) by omega,vx,show 2*(ls.length+(aF ls).idxOf v)+1=2*ls.length+2*(aF ls).idxOf v+1 by omega,JL,h2];rw[eq_of_beq c]
  rw[if_neg c];have c:dn ls v= !fw:=by revert c;cases dn ls v<;>cases fw<;>simp
  have hm:=eH ((aF ls).idxOf v+(aF ls).length-1) (show 0<(aF ls).length by omega);rw[show 2*ls.length+2*(((aF ls).idxOf v+(aF ls).length-1)%(aF ls).length)+1=2*(ls.length+((aF ls).idxOf v+(aF ls).length-1)%(aF ls).length)+1 by omega,Ba,
   show 2*(ls.length+((aF ls).idxOf v+(aF ls).length-1)%(aF ls).length)=2*ls.length+2*(((aF ls).idxOf v+(aF ls).length-1)%(aF ls).length) by omega,JM,wE h1,h2,c,Bool.not_not]
 obtain⟨h1,m,hm,mc,mi,mo,ms⟩:=qS ok.cr hl hc;rw[Bk hl hc,CT,Bk hm mc,h1,mo,ms];cases fw<;>cases l.over<;>cases (l.sign==1)<;>rfl
def xB(ls:List Let)(x:Nat):Nat:=
 if 2*ls.length<=x then (if x%2=0 then (aF ls).getD (((x-2*ls.length)/2+1)%(aF ls).length) 0 else (aF ls).getD ((x-2*ls.length)/2) 0)
 else if x%2=0 then (x/2+1)%ls.length else x/2
def Fl(ls:List Let)(x:Nat):Bool:=decide (2*ls.length<=x)||(match ls[xB ls x]? with|some l=>l.aB&&l.over|none=>false)
def lk(ls:List Let)(i:Nat):Int×Int:=match ls[i]? with|some l=>if l.aB then (1,l.id) else (0,i)|none=>(2,0)
theorem LR{v:Nat}(hv:v<ls.length)(fw:Bool):xB ls (jd ls.length v fw)=v:=by
 have ay:=BC hv fw;unfold xB;rw[if_neg aa];unfold jd;cases fw with
 |true=>simp only[if_true];rw[if_pos aa,show 2*((v+ls.length-1)%ls.length)/2=(v+ls.length-1)%ls.length by omega,wE hv]
 |false=>simp only[dL,if_false];rw[if_neg aa];omega
theorem QX{v:Nat}{l:Let}(hl:ls[v]?=some l)(fw:Bool):Fl ls (jd ls.length v fw)=(l.aB&&l.over):=by have hv:=(aW.1 hl).1;have ay:=BC hv fw;unfold Fl;rw[LR hv,hl];have:¬2*ls.length<=jd ls.length v fw:=aa;simp[this]
theorem aaX(k:Nat):xB ls (2*ls.length+2*k)=(aF ls).getD ((k+1)%(aF ls).length) 0:=by unfold xB;rw[if_pos aa,if_pos aa,show(2*ls.length+2*k-2*ls.length)/2=k by omega]
theorem aaW(k:Nat):xB ls (2*ls.length+2*k+1)=(aF ls).getD k 0:=by unfold xB;rw[if_pos aa,if_neg aa,show(2*ls.length+2*k+1-2*ls.length)/2=k by omega]
theorem QY(h:2*ls.length<=x):Fl ls x=true:=by unfold Fl;simp[h]
theorem arR(ok:fj F ls)(hx:x<nD ls):lk ls (xB ls (rv (aV ls x)))=lk ls (xB ls x)/\Fl ls (rv (aV ls x))= !Fl ls x:=by
 unfold nD at hx;rcases Nat.lt_or_ge x (2*ls.length) with c|c
 .have hv:(if x%2=0 then (x/2+1)%ls.length else x/2)<ls.length:=by
   have:=eH (x/2+1) (show 0<ls.length by omega);split<;>omega
  rw[NK c];generalize (if x%2=0 then (x/2+1)%ls.length else x/2)=v at hv;generalize (x%2==0)=fw;obtain⟨l,hl⟩:=aL hv;rw[LR hv,QX hl];rcases ok.kinds l (aU hl) with hp|hc
  .obtain⟨h1,h2⟩:=Kq ok hl hp;rw[pI hp,Nh hl hp];by_cases d:(dn ls v==fw)=true
   .rw[if_pos d,show 2*ls.length+2*(aF ls).idxOf v=2*(ls.length+(aF ls).idxOf v) by omega,vx,show 2*(ls.length+(aF ls).idxOf v)+1=2*ls.length+2*(aF ls).idxOf v+1 by omega,aaW,h2,QY aa];exact⟨rfl,rfl⟩
   rw[if_neg d,show 2*ls.length+2*(((aF ls).idxOf v+(aF ls).length-1)%(aF ls).length)+1=2*(ls.length+((aF ls).idxOf v+(aF ls).length-1)%(aF ls).length)+1 by omega,Ba,
    show 2*(ls.length+((aF ls).idxOf v+(aF ls).length-1)%(aF ls).length)=2*ls.length+2*(((aF ls).idxOf v+(aF ls).length-1)%(aF ls).length) by omega,aaX,wE h1,h2,QY aa]
   exact⟨rfl,rfl⟩
  obtain⟨h1,m,hm,mc,mi,mo,ms⟩:=qS ok.cr hl hc;have hw:=(aW.1 hm).1;rw[Bk hl hc,CT,LR hw,QX hm];unfold lk;simp[hl,hm,hc,mc,mi,mo]
 rw[QY c];have key:∀k,k<(aF ls).length->∀g,lk ls (xB ls (rv (dJ ls.length ((aF ls).getD k 0) g)))=lk ls ((aF ls).getD k 0)/\Fl ls (rv (dJ ls.length ((aF ls).getD k 0) g))= !true:=fun k hk g=>by obtain⟨l,hl,hp⟩:=Fp hk;rw[CT,LR (aW.1 hl).1,QX hl,pI hp];exact⟨rfl,rfl⟩
 rcases ym x with d|d
 .rw[show x=2*ls.length+2*((x-2*ls.length)/2) by omega,JM,aaX];exact key _ (eH _ aa) _
 rw[show x=2*ls.length+2*((x-2*ls.length)/2)+1 by omega,JL,aaW];exact key _ aa _
end
theorem arZ{next:Nat->Nat}{N:Nat}{R:Nat->Nat->Prop}(ay:∀x,x<N->next x<N)(h:∀x,x<N->bl R x (next x)):∀(k x:Nat) (S:List Bool),x<N->∀y∈(fe next k x S).1,bl R x y:=by
 intro k
 induction k with
 |zero=>intro x S _ y hy;simp[fe] at hy
 |succ k ih=>
  intro x S hx y hy;unfold fe at hy;split at hy
  .simp at hy
  rcases cP.1 hy with rfl|hy
  .exact .refl _
  exact(h x hx).trans (ih (next x) _ (ay x hx) y hy)
theorem ar7{next:Nat->Nat}{N:Nat}(m:yr next n2 N){R:Nat->Nat->Prop}(h:∀x,x<N->bl R x (next x)):∀k,k<=N->∀w∈(dG next N k).1,∀x∈w,∀y∈w,bl R x y:=by
 intro k
 induction k with
 |zero=>intro _ w hw;simp[dG] at hw
 |succ k ih=>
  intro hk w hw x hx y hy;rw[ya] at hw;unfold uL at hw;split at hw
  .exact ih aa w hw x hx y hy
  rcases fg.1 hw with hw|hw
  .exact ih aa w hw x hx y hy
  simp only[pO] at hw;subst hw;have hj:=arZ (R:=R) m.lt h ((dG next N k).2.length+1) k (dG next N k).2 aa;exact(hj x hx).symm.trans (hj y hy)
theorem asb{next:Nat->Nat}{N:Nat}(m:yr next n2 N):∀k,k<=n2->∀w∈(dG next N k).1,∀x∈w,next x∈w:=by
 intro k
 induction k with
 |zero=>intro _ w hw;simp[dG] at hw
 |succ k ih=>
  intro hk w hw x hx;obtain⟨c0,_⟩:=QH m k aa;obtain⟨c1,_⟩:=QH m (k+1) hk;rw[ya] at hw c1;unfold uL at hw c1;cases hs:(dG next N k).2.getD k true with
  |true=>rw[hs,if_pos rfl] at hw;exact ih aa w hw x hx
  |false=>
   rw[hs,if_neg ae] at hw c1;rcases fg.1 hw with hw|hw
   .exact ih aa w hw x hx
   simp only[pO] at hw;subst hw;obtain⟨g1,g2,g3⟩:=afH next ((dG next N k).2.length+1) k (dG next N k).2;have Ax:x<N:=by have:=Qo (g1 x hx);have:=GU next N k;omega
   have e0:=c0 x Ax;have e1:=c1 x Ax;rw[g3,g3,g1 x hx] at e1;rw[g1 x hx] at e0;simp only[Da,hx,decide_true,<- e0] at e1;exact of_decide_eq_true e1.symm
theorem EX{next:Nat->Nat}{N:Nat}(m:yr next n2 N){w:List Nat}(hw:w∈iJ next N)(hx:x∈w):next x∈w:=by unfold iJ at hw;rw[Ww m N m.le (bN _)] at hw;exact asb m n2 (bN _) w hw x hx
theorem Wx{next:Nat->Nat}{N:Nat}(m:yr next n2 N){R:Nat->Nat->Prop}(h:∀x,x<N->bl R x (next x)){w:List Nat}(hw:w∈iJ next N){x y:Nat}(hx:x∈w)(hy:y∈w):bl R x y:=ar7 m h N (bN _) w hw x hx y hy
def C0(L:List (List Nat))(x:Nat):Nat:=L.findIdx fun w=>w.contains x
theorem Np{L:List (List Nat)}(h:L.flatten.Nodup){i:Nat}{w:List Nat}(hi:L[i]?=some w)(hx:x∈w):C0 L x=i:=by
 have hm:w.contains x=true:=by simpa using hx
 have ay:L.findIdx (fun w=>w.contains x)<L.length:=List.findIdx_lt_length_of_exists ⟨w,aU hi,hm⟩;have hp:=List.findIdx_getElem (w:=ay);have hj:L[L.findIdx fun w=>w.contains x]?=some (L[L.findIdx fun w=>w.contains x]'ay):=s0 ay;exact ads h hj hi (by simpa using hp) hx
theorem alJ:∀ {L:List (List Nat)},L.flatten.Nodup->(∀w∈L,w≠[])->((L.map (·.headD 0)).map (C0 L))=List.range L.length:=by
 intro L h aH;apply Kb;intro i;rw[fZ,fZ];by_cases hi:i<L.length
 .have e:=s0 hi;rw[e,r4 hi];simp only[ng];have hw:=aH _ (aU e);rw[Np h e (x:=L[i].headD 0) (by
   cases hL:L[i] with
   |nil=>exact absurd hL hw
   |cons a r=>simp)]
 rw[tZ aa,tZ (by simp;omega)];rfl
def fx (b:Bool)(s:Nat):Nat:=if b then 1-s else s
theorem Ox{b:Bool}{s:Nat}(h:s<2):fx b s<2:=by unfold fx;split<;>omega
theorem aaq{b:Bool}{s:Nat}(h:s<2):fx b (fx b s)=s:=by unfold fx;cases b<;>simp;omega
def te(p:Nat->Bool)(y:Nat):Nat:=2*rv (y/2)+fx (p (y/2)) (y%2)
def sgC(p:Nat->Bool)(nx:Nat->Nat)(y:Nat):Nat:=2*nx (rv (y/2))+fx (p (y/2)) (y%2)
def tsC(p:Nat->Bool)(k:Nat):List (Nat×Nat):=(List.range k).flatMap fun e=>[(4*e,te p (4*e)),(4*e+1,te p (4*e+1))]
theorem Q1(p:Nat->Bool)(e:Nat):te p (4*e)=if p (2*e) then 4*e+3 else 4*e+2:=by unfold te fx;rw[show 4*e/2=2*e by omega,vx,show 4*e%2=0 by omega];split<;>omega
theorem Q3(p:Nat->Bool)(e:Nat):te p (4*e+1)=if p (2*e) then 4*e+2 else 4*e+3:=by unfold te fx;rw[show(4*e+1)/2=2*e by omega,vx,show(4*e+1)%2=1 by omega];split<;>omega
theorem ago{p:Nat->Bool}(hp:∀x,p (rv x)=p x)(e:Nat):te p (4*e+2)=if p (2*e) then 4*e+1 else 4*e:=by unfold te fx;rw[show(4*e+2)/2=2*e+1 by omega,Ba,show(4*e+2)%2=0 by omega,<- hp (2*e),vx];split<;>omega
theorem agp{p:Nat->Bool}(hp:∀x,p (rv x)=p x)(e:Nat):te p (4*e+3)=if p (2*e) then 4*e else 4*e+1:=by unfold te fx;rw[show(4*e+3)/2=2*e+1 by omega,Ba,show(4*e+3)%2=1 by omega,<- hp (2*e),vx];split<;>omega
theorem arO(p:Nat->Bool){k e:Nat}(h:e<k):(4*e,te p (4*e))∈tsC p k/\(4*e+1,te p (4*e+1))∈tsC p k:=
 ⟨List.mem_flatMap.2 ⟨e,gj.2 h,af⟩,List.mem_flatMap.2 ⟨e,gj.2 h,af⟩⟩
theorem acO{α β:Type}{P:α->β->Prop}{f:β->α}(hf:∀a b,P a b->f b=a):∀ {L:List α},(∀a∈L,∃b,P a b)->∃M:List β,M.map f=L/\ ∀b∈M,∃a∈L,P a b:=by
 intro L
 induction L with
 |nil=>intro _;exact⟨[],rfl,af⟩
 |cons a L ih=>
  intro h;obtain⟨b,hb⟩:=h a af;obtain⟨M,h1,h2⟩:=ih fun x hx=>h x (by simp[hx]);refine⟨b::M,by rw[dS,h1,hf a b hb],fun x hx=>?_⟩;rcases cP.1 hx with rfl|hx
  .exact⟨a,af,hb⟩
  obtain⟨c,hc,hp⟩:=h2 x hx;exact⟨c,by simp[hc],hp⟩
section
variable {F:Nat} {ls:List Let}
theorem agY(ok:fj F ls):(aF ls).Nodup:=by have:=Xn ok.ax ls.length (bN _);refine List.Pairwise.imp (fun {a b} h e=>?_) this;subst e;exact absurd h (Nat.lt_irrefl _)
theorem acJ(ok:fj F ls):ls.length=aw Let.aE ls+aw Let.aB ls:=by
 have:∀l:List Let,(∀x∈l,x.aE=true\/x.aB=true)->l.length=aw Let.aE l+aw Let.aB l:=by
  intro l
  induction l with
  |nil=>intro _;rfl
  |cons a l ih=>
   intro h;have ih:=ih fun x hx=>h x (by simp[hx]);unfold aw at ih ⊢;rw[wP,wP,dh,ih];rcases h a af with c|c
   .rw[c,pI c];simp;omega
   have:a.aE=false:=by cases hp:a.aE;rfl;rw[pI hp] at c;cases c
   rw[c,this];simp;omega
 exact this ls ok.kinds
theorem arV(ok:fj F ls):∃L:List Nat,L.length=aw Let.aE ls+aw Let.aB ls/2/\(∀j∈L,j<ls.length)/\(L.map (lk ls)).Nodup:=by
 have hc:=ok.cr;unfold lV at hc;simp only[cX,beq_iff_eq] at hc;have hid:=hc.2
 let ids:List (Int×Int):=(eZ ls ls.length).map fun id=>(1,id)
 have akw:∀a∈ids,∃j,(lk ls j=a/\j<ls.length):=by intro a ha;obtain⟨id,hi,rfl⟩:=dQ.1 ha;obtain⟨j,o,hj,hh⟩:=(Gl (bN _)).1 hi;obtain⟨m,hm,mc,mi,_⟩:=Ah hh;refine⟨j,?_,hj⟩;unfold lk;rw[hm];simp[mc,mi]
 obtain⟨M,m1,m2⟩:=acO (P:=fun a j=>lk ls j=a/\j<ls.length) (f:=lk ls) (fun a b h=>h.1) akw;have j6:∀i∈aF ls,i<ls.length/\lk ls i=(0,(i:Int)):=fun i hi=>by obtain⟨l,hl,hp⟩:=tg.1 hi;refine⟨(aW.1 hl).1,?_⟩;unfold lk;rw[hl];simp[pI hp]
 refine⟨aF ls++M,?_,fun j hj=>?_,?_⟩
 .have:M.length=(eZ ls ls.length).length:=by
   have:=congrArg List.length m1
   simpa [ids] using this
  rw[gh,this,hid,Kr]
 .rcases fg.1 hj with hj|hj
  .exact(j6 j hj).1
  obtain⟨_,_,h⟩:=m2 j hj;exact h.2
 rw[ll,m1,Hf];refine⟨?_,?_,?_⟩
 .have:(aF ls).map (lk ls)=(aF ls).map fun i:Nat=>((0:Int),(i:Int)):=Dh fun i hi=>(j6 i hi).2;rw[this];refine yh.2 (List.Pairwise.imp (fun {a b} h e=>h ?_) (agY ok));have:=congrArg Prod.snd e;simp only at this;omega
 .refine yh.2 (List.Pairwise.imp (fun {a b} h e=>h ?_) (O7 ls ls.length));exact congrArg Prod.snd e
 intro a ha b hb e;obtain⟨i,hi,rfl⟩:=dQ.1 ha;obtain⟨id,_,rfl⟩:=dQ.1 hb;rw[(j6 i hi).2] at e;have:=congrArg Prod.fst e;simp at this
end
section
variable {F:Nat} {ls:List Let} {p:Nat->Bool}
abbrev HN(ls:List Let)(p:Nat->Bool):Nat->Nat->Prop:=xm (2*nD ls) (sgC p (aV ls)) (tsC p (ls.length+(aF ls).length))
theorem Gz(ls:List Let):nD ls=2*(ls.length+(aF ls).length):=by unfold nD;omega
theorem aih(hp:∀x,p (rv x)=p x){y:Nat}(hy:y<2*nD ls):bl (HN ls p) y (te p y):=by
 have hN:=Gz ls;obtain⟨h1,h2⟩:=arO p (k:=ls.length+(aF ls).length) (e:=y/4) aa;have r1:bl (HN ls p) (4*(y/4)) (te p (4*(y/4))):=.rel (.inr h1);have r2:bl (HN ls p) (4*(y/4)+1) (te p (4*(y/4)+1)):=.rel (.inr h2);have a2:=ago hp (y/4);have a3:=agp hp (y/4);rcases(by omega:y=4*(y/4)\/y=4*(y/4)+1\/y=4*(y/4)+2\/y=4*(y/4)+3) with e|e|e|e
 .rw[<- e] at r1;exact r1
 .rw[<- e] at r2;exact r2
 .rw[<- e] at a2;rw[a2];rw[Q1] at r1;rw[Q3] at r2;by_cases c:p (2*(y/4))=true
  .rw[if_pos c] at r2 ⊢;rw[<- e] at r2;exact r2.symm
  rw[if_neg c] at r1 ⊢;rw[<- e] at r1;exact r1.symm
 rw[<- e] at a3;rw[a3];rw[Q1] at r1;rw[Q3] at r2;by_cases c:p (2*(y/4))=true
 .rw[if_pos c] at r1 ⊢;rw[<- e] at r1;exact r1.symm
 rw[if_neg c] at r2 ⊢;rw[<- e] at r2;exact r2.symm
theorem Ym(hp:∀x,p (rv x)=p x){x s:Nat}(hx:x<nD ls)(hs:s<2):bl (HN ls p) (2*x+s) (2*rv x+fx (p x) s):=by have:=aih (ls:=ls) hp (y:=2*x+s) aa;unfold te at this;rwa[show(2*x+s)/2=x by omega,show(2*x+s)%2=s by omega] at this
theorem Yl(hp:∀x,p (rv x)=p x){x s:Nat}(hx:x<nD ls)(hs:s<2):bl (HN ls p) (2*x+s) (2*aV ls x+s):=by
 have hN:=Gz ls;have hf:fx (p x) s<2:=Ox hs;refine(Ym hp hx hs).trans (.rel (.inl ⟨?_,?_⟩))
 .have:rv x<nD ls:=by rw[hN];exact Bb aa
  omega
 unfold sgC;rw[show(2*rv x+fx (p x) s)/2=rv x by omega,show(2*rv x+fx (p x) s)%2=fx (p x) s by omega,Bc,hp,aaq hs]
def Aa(ls:List Let)(p:Nat->Bool)(x:Nat):Prop:= ∃b,∀s,s<2->bl (HN ls p) (2*x+s) (fx b s)
theorem aj6(ls:List Let)(p:Nat->Bool):Aa ls p 0:=⟨false,fun s _=>by rw[show 2*0+s=s by omega];exact .refl _⟩
theorem ajR(a b:Bool){s:Nat}(h:s<2):fx a (fx b s)=fx (a !=b) s:=by unfold fx;cases a<;>cases b<;>simp;omega
theorem aaE(hp:∀x,p (rv x)=p x){x:Nat}(hx:x<nD ls)(h:Aa ls p x):Aa ls p (rv x):=by obtain⟨b,h⟩:=h;refine⟨b !=p x,fun s hs=>?_⟩;have h1:=(Ym hp hx (s:=fx (p x) s) (Ox hs)).symm.trans (h (fx (p x) s) (Ox hs));rwa[aaq hs,ajR _ _ hs] at h1
theorem aaD(hp:∀x,p (rv x)=p x){x:Nat}(hx:x<nD ls)(h:Aa ls p x):Aa ls p (aV ls x):=by obtain⟨t,h⟩:=h;exact⟨t,fun s hs=>(Yl hp hx hs).symm.trans (h s hs)⟩
theorem aj5(hp:∀x,p (rv x)=p x){x:Nat}(hx:x<nD ls)(h:Aa ls p (aV ls x)):Aa ls p x:=by obtain⟨t,h⟩:=h;exact⟨t,fun s hs=>(Yl hp hx hs).trans (h s hs)⟩
theorem aj4(hp:∀x,p (rv x)=p x)(ok:fj F ls){x:Nat}(hx:x<nD ls):Aa ls p x:=by
 have m:=maps ok;have hN:=Gz ls;have IL:∀y,y<nD ls->rv y<nD ls:=fun y hy=>by rw[hN] at hy ⊢;exact Bb hy
 have fwd:∀i,i<ls.length->Aa ls p (2*i):=by
  intro i
  induction i with
  |zero=>intro _;exact aj6 ls p
  |succ i ih=>
   intro hi;have h0:=ih aa;have h2:2*i<nD ls:=aa;have h3:=aaD hp h2 h0;have h4:=m.lt _ h2;have h5:=aaD hp (IL _ h4) (aaE hp h4 h3);have e:2*i=jd ls.length (i+1) true:=by unfold jd;rw[if_pos rfl,show i+1+ls.length-1=i+ls.length by omega,yj,jA aa]
   rw[e,afk ok hi] at h5;exact h5
 have str:∀y,y<2*ls.length->Aa ls p y:=fun y hy=>by
  rcases ym y with c|c
  .rw[show y=2*(y/2) by omega];exact fwd _ aa
  have:=aaE hp (x:=2*(y/2)) aa (fwd (y/2) aa);rw[vx] at this;rw[show y=2*(y/2)+1 by omega];exact this
 rcases Nat.lt_or_ge x (2*ls.length) with c|c
 .exact str x c
 exact aj5 hp hx (str _ (m.ax x hx c))
end
section
variable {F:Nat} {ls:List Let}
end
theorem asa{next:Nat->Nat}{N:Nat}(m:yr next n2 N){α:Type}{φ:Nat->α}(hφ:∀x,x<N->φ (next x)=φ x){reps:List Nat}(hr:∀x∈reps,x<N)(hn:(reps.map φ).Nodup):reps.length<=(iJ next N).length:=by
 have Mk:=JU next N;have lW:∀x,x<N->∃(i:Nat) (w:List Nat),(iJ next N)[i]?=some w/\x∈w/\C0 (iJ next N) x=i:=fun x hx=>by obtain⟨w,hw,Eu⟩:=Hd.1 (Mk.2 x hx);obtain⟨i,hi⟩:=jZ hw;exact⟨i,w,hi,Eu,Np Mk.1 hi Eu⟩
 have aky:∀a b,bl (fun x y=>x<N/\y=next x) a b->φ a=φ b:=fun a b h=>by
  induction h with
  |rel h=>rw[h.2,hφ _ h.1]
  |refl _=>rfl
  |symm _ ih=>exact ih.symm
  |trans _ _ h1 h2=>exact h1.trans h2
 have Av:∀x,x<N->∀y,y<N->C0 (iJ next N) x=C0 (iJ next N) y->φ x=φ y:=fun x hx y hy e=>by obtain⟨i,w,hi,Eu,e1⟩:=lW x hx;obtain⟨j,v,hj,hyv,e2⟩:=lW y hy;rw[e1,e2] at e;subst e;rw[hi] at hj;cases hj;exact aky x y (Wx m (R:=fun x y=>x<N/\y=next x) (fun z hz=>.rel ⟨hz,rfl⟩) (aU hi) Eu hyv)
 have h1:(reps.map (C0 (iJ next N))).Nodup:=by unfold List.Nodup at hn ⊢;rw[yh] at hn ⊢;refine hn.imp_of_mem fun {x y} hx hy h e=>?_;exact h (Av x (hr x hx) y (hr y hy) e)
 have h2:∀i∈reps.map (C0 (iJ next N)),i∈List.range (iJ next N).length:=fun i hi=>by obtain⟨x,hx,rfl⟩:=dQ.1 hi;obtain⟨i,w,hi,_,e⟩:=lW x (hr x hx);rw[e];exact gj.2 (aW.1 hi).1
 have:=JG _ _ h1 h2;rwa[cM,Dg] at this
end
end Go.Abs
