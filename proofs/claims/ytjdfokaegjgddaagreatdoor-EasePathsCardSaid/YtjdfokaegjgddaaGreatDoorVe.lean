/-
  Walks around faces; a bound on the number of faces.
-/
import Derived.Test.YtjdfokaegjgddaaGreatDoorWs
set_option linter.all false
set_option maxHeartbeats 16000000
namespace Go.Abs
section
variable{N n n2 v x y:Nat}
theorem Jv{S:List Bool}(h:sn S x=false):x<S.length:=by
 rcases Nat.lt_or_ge x S.length with h1|h1
 .exact h1
 rw[sn,aal,abz h1] at h;cases h
theorem xS(next:Nat->Nat):∀(k x:Nat) (S:List Bool),(∀y∈(cH next k x S).1,sn S y=false)/\(cH next k x S).1.Nodup/\ ∀y,sn (cH next k x S).2 y=(sn S y||decide (y∈(cH next k x S).1)):=by
 intro k
 induction k with
 |zero=>intro x S;simp[cH]
 |succ k ih=>
  intro x S;unfold cH;cases hx:S.getD x true with
  |true=>simp
  |false=>
   have hl:=Jv (S:=S) (x:=x) hx;obtain⟨h1,h2,h3⟩:=ih (next x) (S.set x true);simp only[aaq,if_false];have YA:∀y,sn (S.set x true) y=if y=x then true else sn S y:=fun y=>yq hl;refine⟨fun y hy=>?_,?_,fun y=>?_⟩
   .rcases aag.1 hy with rfl|hy
    .exact hx
    have:=h1 y hy;rw[YA] at this;split at this
    .cases this
    exact this
   .refine abk.2 ⟨fun hm=>?_,h2⟩;have:=h1 x hm;rw[YA,if_pos rfl] at this;cases this
   rw[h3,YA];by_cases e:y=x
   .subst e;simp
   rw[if_neg e];have:decide (y∈x::(cH next k (next x) (S.set x true)).1)=decide (y∈(cH next k (next x) (S.set x true)).1):=by simp[e]
   rw[this]
theorem El(next:Nat->Nat)(N:Nat):∀k,(aK next N k).1.flatten.Nodup/\(∀y,y<N->sn (aK next N k).2 y=decide (y∈(aK next N k).1.flatten))/\(∀y∈(aK next N k).1.flatten,y<N)/\ ∀x,x<k->x<N->sn (aK next N k).2 x=true:=by
 intro k
 induction k with
 |zero=>refine⟨by simp[aK],fun y hy=>?_,by simp[aK],fun x hx=>absurd hx (abB x)⟩;have:(aK next N 0).2=List.replicate N false:=rfl;rw[this,Hq hy];simp[aK]
 |succ k ih=>
  obtain⟨h1,h2,h4,h3⟩:=ih;rw[dL];unfold eV;have hlen:=iL next N k;cases hk:(aK next N k).2.getD k true with
  |true=>
   rw[if_pos rfl];refine⟨h1,h2,h4,fun x hx hxN=>?_⟩;rcases abe.1 hx with h|rfl
   .exact h3 x h hxN
   exact hk
  |false=>
   rw[if_neg (by decide)];have hkN:k<N:=by have:=Jv (S:=(aK next N k).2) hk;omega
   obtain⟨g1,g2,g3⟩:=xS next ((aK next N k).2.length+1) k (aK next N k).2;have acK:=vU next ((aK next N k).2.length+1) k (aK next N k).2 (by have:=k9 (aK next N k).2;omega);refine⟨?_,fun y hy=>?_,?_,fun x hx hxN=>?_⟩
   .rw[ac8,adc];refine⟨h1,by simpa using g2,fun y hy z hz=>?_⟩;rintro rfl
    have e1:=g1 y (by simpa using hz);have hyN:=h4 y hy;rw[h2 y hyN] at e1;simp[hy] at e1
   .rw[g3,h2 y hy,ac8,Bool.eq_iff_iff];simp
   .intro y hy;rw[ac8,aaw] at hy;rcases hy with hy|hy
    .exact h4 y hy
    have:=Jv (g1 y (by simpa using hy));omega
   rcases abe.1 hx with h|rfl
   .rw[g3,h3 x h hxN];rfl
   exact acK
theorem gH(next:Nat->Nat)(N:Nat):(bY next N).flatten.Nodup/\ ∀y,y<N->y∈(bY next N).flatten:=by obtain⟨h1,h2,_,h3⟩:=El next N N;refine⟨h1,fun y hy=>?_⟩;have:=h3 y hy hy;rw[h2 y hy] at this;exact of_decide_eq_true this
theorem BE{L:List (List Nat)}(h:L.flatten.Nodup){i j:Nat}{a b:List Nat}(hi:L[i]?=some a)(hj:L[j]?=some b)(ha:x∈a)(hb:x∈b):i=j:=by
 induction L generalizing i j with
 |nil=>simp at hi
 |cons l L ih=>
  rw[abl,adc] at h;obtain⟨_,h2,h3⟩:=h;cases i with
  |zero=>
   simp at hi;subst hi;cases j with
   |zero=>rfl
   |succ j=>simp at hj;exact absurd rfl (h3 x ha x (ac9.2 ⟨b,aab hj,hb⟩))
  |succ i=>
   simp at hi;cases j with
   |zero=>simp at hj;subst hj;exact absurd rfl (h3 x hb x (ac9.2 ⟨a,aab hi,ha⟩))
   |succ j=>simp at hj;rw[ih h2 hi hj]
section
variable {F:Nat} {ls:List Let}
theorem rT{j:Nat}{f:Fc}(h:(aT F ls)[j]?=some f):∃w,(bY (bU ls) (nD ls))[j]?=some w/\f=fH F ls w:=by
 unfold aT at h;rw[aaz] at h;cases hw:(bY (bU ls) (nD ls))[j]? with
 |none=>rw[hw] at h;cases h
 |some w=>rw[hw] at h;cases h;exact⟨w,rfl,rfl⟩
theorem Qb{i j:Nat}{a b:Fc}{d:Nat}(hi:(aT F ls)[i]?=some a)(hj:(aT F ls)[j]?=some b)(ha:d∈a.Yj)(hb:d∈b.Yj):i=j:=by obtain⟨v,hv,rfl⟩:=rT hi;obtain⟨w,hw,rfl⟩:=rT hj;rw[j9] at ha hb;exact BE (gH _ _).1 hv hw (abD.1 ha).1 (abD.1 hb).1
theorem Tj{d:Nat}(hd:d<2*ls.length):∃(j:Nat) (f:Fc),(aT F ls)[j]?=some f/\d∈f.Yj:=by
 have:=(gH (bU ls) (nD ls)).2 d (by unfold nD;omega);obtain⟨w,hw,hdw⟩:=ac9.1 this;obtain⟨j,hj⟩:=aaO hw;have hj2:(aT F ls)[j]?=some (fH F ls w):=by unfold aT;rw[aaz,hj];rfl
 refine⟨j,fH F ls w,hj2,?_⟩;rw[j9];exact abD.2 ⟨hdw,by simpa using hd⟩
theorem yv{ds:List Nat}{d:Nat}:∀ {L:List Nat},d<L.length->(fm L ds v)[d]?=if d∈ds then some v else L[d]? :=by
 induction ds with
 |nil=>intro L _;simp[fm]
 |cons e ds ih=>
  intro L hd;show(fm (L.set e v) ds v)[d]?=_;rw[ih (by simpa using hd),abj];by_cases h1:d∈ds
  .simp[h1]
  by_cases h2:e=d
  .subst h2;simp[hd]
  have:d≠e:=fun h=>h2 h.symm;simp[h1,h2,this]
theorem O0{d:Nat}:∀ {fs:List Fc} {j:Nat} {L:List Nat},d<L.length->(∀f∈fs,d∉f.Yj)->(iW fs j L)[d]?=L[d]? :=by
 intro fs
 induction fs with
 |nil=>intro j L _ _;rfl
 |cons f fs ih=>intro j L hd h;show(iW fs (j+1) (fm L f.Yj j))[d]?=_;rw[ih (by rw[lH];exact hd) fun g hg=>h g (by simp[hg]),yv hd,if_neg (h f (by simp))]
theorem O1{d:Nat}:∀ {fs:List Fc} {j i:Nat} {L:List Nat} {f:Fc},d<L.length->fs[i]?=some f->d∈f.Yj->(∀i' f',fs[i']?=some f'->d∈f'.Yj->i'=i)->(iW fs j L)[d]?=some (j+i):=by
 intro fs
 induction fs with
 |nil=>intro j i L f _ h;simp at h
 |cons g fs ih=>
  intro j i L f hd hi hf hu;show(iW fs (j+1) (fm L g.Yj j))[d]?=_;cases i with
  |zero=>
   simp at hi;subst hi;rw[O0 (by rw[lH];exact hd),yv hd,if_pos hf]
   .rfl
   intro f' hf' hd';obtain⟨i',hi'⟩:=aaO hf';have:=hu (i'+1) f' (by simpa using hi') hd';omega
  |succ i=>simp at hi;rw[ih (by rw[lH];exact hd) hi hf fun i' f' h1 h2=>by have:=hu (i'+1) f' (by simpa using h1) h2;omega];congr 1;omega
theorem left_at{d j:Nat}{f:Fc}(hd:d<2*ls.length)(hf:(aT F ls)[j]?=some f)(hm:d∈f.Yj):(dX F ls)[d]?=some j:=by unfold dX;rw[O1 (by simpa using hd) hf hm fun i' f' h1 h2=>Qb h1 hf h2 hm];congr 1;omega
theorem th{d:Nat}(hd:d<2*ls.length):∃j,(aT F ls)[j]?=some (eL F ls d)/\d∈(eL F ls d).Yj/\(dX F ls)[d]?=some j:=by
 obtain⟨j,f,hf,hm⟩:=Tj (F:=F) hd;have hl:=left_at hd hf hm;have e:eL F ls d=f:=by unfold eL;rw[aal (l:=dX F ls),hl,aaS,aal,hf,aaS]
 exact⟨j,e▸hf,e▸hm,hl⟩
theorem zI{d:Nat}(hd:d<2*ls.length):eL F ls d∈aT F ls:=by obtain⟨j,h1,_⟩:=th (F:=F) hd;exact aab h1
end
inductive cT (R:Nat->Nat->Prop):Nat->Nat->Prop
 |rel {a b:Nat}:R a b->cT R a b
 |refl (a:Nat):cT R a a
 |symm {a b:Nat}:cT R a b->cT R b a
 |trans {a b c:Nat}:cT R a b->cT R b c->cT R a c
theorem cT.mono{R R':Nat->Nat->Prop}(h:∀a b,R a b->cT R' a b)(e:cT R x y):cT R' x y:=by
 induction e with
 |rel r=>exact h _ _ r
 |refl a=>exact .refl a
 |symm _ ih=>exact .symm ih
 |trans _ _ i1 i2=>exact .trans i1 i2
theorem cT.inv{R:Nat->Nat->Prop}{α:Type}{f:Nat->α}(h:∀a b,R a b->f a=f b)(e:cT R x y):f x=f y:=by
 induction e with
 |rel r=>exact h _ _ r
 |refl a=>rfl
 |symm _ ih=>exact ih.symm
 |trans _ _ i1 i2=>exact i1.trans i2
def ld (E:Nat->Nat->Prop)(x:Nat):Prop:=∀y,E x y->x<=y
noncomputable def QZ (E:Nat->Nat->Prop) (x:Nat):Bool:= @decide (ld E x) (Classical.propDecidable _)
theorem rG{E:Nat->Nat->Prop}:QZ E x=true↔ld E x:=by unfold QZ;exact @decide_eq_true_iff _ (Classical.propDecidable _)
noncomputable def K (E:Nat->Nat->Prop) (n:Nat):Nat:=(List.range n).countP (QZ E)
theorem r5{E E':Nat->Nat->Prop}(h:∀x y,E x y↔E' x y)(n:Nat):K E n=K E' n:=by have:E=E':=funext fun x=>funext fun y=>propext (h x y);rw[this]
theorem uD{p:Nat->Prop}:∀n,p n->∃m,p m/\ ∀k,p k->m<=k:=by
 intro n
 induction n using Nat.strongRecOn with
 |ind n ih=>
  intro h;rcases Classical.em (∃k,k<n/\p k) with ⟨k,hk,hp⟩|YH
  .exact ih k hk hp
  exact⟨n,h,fun k hk=>Nat.le_of_not_lt fun Ye=>YH ⟨k,Ye,hk⟩⟩
theorem Id(R:Nat->Nat->Prop)(x:Nat):∃m,cT R x m/\ld (cT R) m/\m<=x:=by obtain⟨m,h1,h2⟩:=uD (p:=fun y=>cT R x y) x (.refl x);exact⟨m,h1,fun y hy=>h2 y (h1.trans hy),h2 x (.refl x)⟩
theorem Gs{p:Nat->Bool}(hp:p x=true):∀ {l:List Nat},l.Nodup->x∈l->l.countP p=l.countP (fun y=>p y&&y !=x)+1:=by
 intro l
 induction l with
 |nil=>intro _ h;cases h
 |cons a l ih=>
  intro hn hm;obtain⟨h1,h2⟩:=abk.1 hn;rw[abM,abM];by_cases e:a=x
  .subst e;have hc:l.countP p=l.countP (fun y=>p y&&y !=a):=adM fun y hy=>by
    have:(y !=a)=true:=by simp;rintro rfl;exact h1 hy
    simp[this]
   simp[hp,hc]
  have hx:x∈l:=by rcases aag.1 hm with h|h;exact absurd h.symm e;exact h
  rw[ih h2 hx];have:(a !=x)=true:=by simp[e]
  simp only[this,ado];omega
abbrev pJ(R:Nat->Nat->Prop)(a b:Nat)(x y:Nat):Prop:=R x y\/(x=a/\y=b)
theorem oY{R:Nat->Nat->Prop}{a b:Nat}:cT (pJ R a b) x y↔cT R x y\/(cT R x a/\cT R b y)\/(cT R x b/\cT R a y):=by
 constructor
 .intro h
  induction h with
  |rel r=>
   rcases r with r|⟨rfl,rfl⟩
   .exact .inl (.rel r)
   exact .inr (.inl ⟨.refl _,.refl _⟩)
  |refl a=>exact .inl (.refl a)
  |symm _ ih=>
   rcases ih with h|⟨h1,h2⟩|⟨h1,h2⟩
   .exact .inl h.symm
   .exact .inr (.inr ⟨h2.symm,h1.symm⟩)
   exact .inr (.inl ⟨h2.symm,h1.symm⟩)
  |trans _ _ i1 i2=>
   rcases i1 with h|⟨h1,h2⟩|⟨h1,h2⟩<;>rcases i2 with k|⟨k1,k2⟩|⟨k1,k2⟩
   .exact .inl (h.trans k)
   .exact .inr (.inl ⟨h.trans k1,k2⟩)
   .exact .inr (.inr ⟨h.trans k1,k2⟩)
   .exact .inr (.inl ⟨h1,h2.trans k⟩)
   .exact .inr (.inl ⟨h1,k2⟩)
   .exact .inl (h1.trans k2)
   .exact .inr (.inr ⟨h1,h2.trans k⟩)
   .exact .inl (h1.trans k2)
   exact .inr (.inr ⟨h1,k2⟩)
 have up:∀ {u v},cT R u v->cT (pJ R a b) u v:=fun h=>h.mono fun _ _ r=>.rel (.inl r);have ab:cT (pJ R a b) a b:=.rel (.inr ⟨rfl,rfl⟩);rintro (h|⟨h1,h2⟩|⟨h1,h2⟩)
 .exact up h
 .exact(up h1).trans (ab.trans (up h2))
 exact(up h1).trans (ab.symm.trans (up h2))
theorem Jc{R:Nat->Nat->Prop}{a b:Nat}(h:cT R a b)(n:Nat):K (cT (pJ R a b)) n=K (cT R) n:=by
 refine r5 (fun x y=>?_) n;rw[oY];constructor
 .rintro (k|⟨h1,h2⟩|⟨h1,h2⟩)
  .exact k
  .exact h1.trans (h.trans h2)
  exact h1.trans (h.symm.trans h2)
 exact .inl
theorem QU{E E':Nat->Nat->Prop}{m:Nat}(hm:m<n)(h0:ld E m)(h:∀x,ld E' x↔ld E x/\x≠m):K E n=K E' n+1:=by unfold K;rw[Gs (p:=QZ E) (x:=m) (rG.2 h0) ac6 (aav.2 hm)];congr 1;refine adM fun x _=>?_;rw[rG,h,aaf,rG];simp
theorem Jd{R:Nat->Nat->Prop}{a b:Nat}(ha:a<n)(hb:b<n)(h:¬cT R a b):K (cT R) n=K (cT (pJ R a b)) n+1:=by
 obtain⟨p,p1,p2,p3⟩:=Id R a;obtain⟨q,q1,q2,q3⟩:=Id R b;have hpq:p≠q:=fun e=>h (p1.trans (e▸q1.symm));rcases Nat.lt_or_gt_of_ne hpq with c|c
 .refine QU (m:=q) (by omega) q2 fun x=>⟨fun hx=>⟨fun y hy=>hx y (oY.2 (.inl hy)),?_⟩,fun⟨hx,hxq⟩ y hy=>?_⟩
  .rintro rfl
   have:=hx p (oY.2 (.inr (.inr ⟨q1.symm,p1⟩)));omega
  rcases oY.1 hy with hy|⟨h1,h2⟩|⟨h1,h2⟩
  .exact hx y hy
  .have e1:=hx p (h1.trans p1);have e2:=q2 y (q1.symm.trans h2);omega
  have e1:=hx q (h1.trans q1);have e2:=q2 x (q1.symm.trans h1.symm);omega
 refine QU (m:=p) (by omega) p2 fun x=>⟨fun hx=>⟨fun y hy=>hx y (oY.2 (.inl hy)),?_⟩,fun⟨hx,hxq⟩ y hy=>?_⟩
 .rintro rfl
  have:=hx q (oY.2 (.inr (.inl ⟨p1.symm,q1⟩)));omega
 rcases oY.1 hy with hy|⟨h1,h2⟩|⟨h1,h2⟩
 .exact hx y hy
 .have e1:=hx p (h1.trans p1);have e2:=p2 x (p1.symm.trans h1.symm);omega
 have e1:=hx q (h1.trans q1);have e2:=p2 y (p1.symm.trans h2);omega
theorem TS{R:Nat->Nat->Prop}{α:Type}{f:Nat->α}(h:∀a b,R a b->f a=f b){reps:List Nat}(hr:∀x∈reps,x<n)(hn:(reps.map f).Nodup):reps.length<=K (cT R) n:=by
 have key:∀reps:List Nat,(∀x∈reps,x<n)->(reps.map f).Nodup->∃L:List Nat,L.length=reps.length/\L.Nodup/\(∀m∈L,m<n/\ld (cT R) m)/\ ∀m∈L,f m∈reps.map f:=by
  intro reps
  induction reps with
  |nil=>intro _ _;exact⟨[],rfl,abr,by simp,by simp⟩
  |cons a r ih=>
   intro hr hn;rw[aar,abk] at hn;obtain⟨L,l1,l2,l3,l4⟩:=ih (fun x hx=>hr x (by simp[hx])) hn.2;obtain⟨m,m1,m2,m3⟩:=Id R a;have hfm:f m=f a:=(m1.inv h).symm;have ha:=hr a (by simp);refine⟨m::L,by simp[l1],abk.2 ⟨fun hm=>hn.1 (hfm▸l4 m hm),l2⟩,fun x hx=>?_,fun x hx=>?_⟩
   .rcases aag.1 hx with rfl|hx
    .exact⟨by omega,m2⟩
    exact l3 x hx
   rcases aag.1 hx with rfl|hx
   .rw[hfm];simp
   rw[aar];exact abv _ (l4 x hx)
 obtain⟨L,l1,l2,l3,_⟩:=key reps hr hn;rw[<- l1];unfold K;rw[List.countP_eq_length_filter];have sub:∀(L M:List Nat),L.Nodup->(∀x∈L,x∈M)->L.length<=M.length:=by
  intro L
  induction L with
  |nil=>intro M _ _;exact aae _
  |cons a L ih=>intro M hn hs;obtain⟨h1,h2⟩:=abk.1 hn;have ha:=hs a (by simp);have:=ih (M.erase a) h2 fun x hx=>(List.mem_erase_of_ne (by rintro rfl;exact h1 hx)).2 (hs x (by simp[hx]));rw[List.length_erase_of_mem ha] at this;have:0<M.length:=List.length_pos_of_mem ha;simp only[aas];omega
 exact sub L _ l2 fun x hx=>abD.2 ⟨aav.2 (l3 x hx).1,rG.2 (l3 x hx).2⟩
theorem UT{R:Nat->Nat->Prop}(h:∀x,x<n->cT R x 0):K (cT R) n<=1:=by
 unfold K;have hz:∀x∈List.range n,QZ (cT R) x=true->x=0:=fun x hx hl=>by have:=rG.1 hl 0 (h x (aav.1 hx));omega
 have:∀l:List Nat,l.Nodup->(∀x∈l,QZ (cT R) x=true->x=0)->l.countP (QZ (cT R))<=1:=by
  intro l
  induction l with
  |nil=>intro _ _;simp
  |cons a l ih=>
   intro hn hl;obtain⟨h1,h2⟩:=abk.1 hn;rw[abM];by_cases c:QZ (cT R) a=true
   .have ha:=hl a (by simp) c;subst ha;have:l.countP (QZ (cT R))=0:=adw.2 fun x hx hxl=>h1 (by have:=hl x (by simp[hx]) hxl;subst this;exact hx);simp[c,this]
   have:=ih h2 fun x hx=>hl x (by simp[hx]);simp[c,this]
 exact this _ ac6 hz
structure Perm (n:Nat) (p:Nat->Nat):Prop where
 lt:∀x,x<n->p x<n
 inj:∀x y,x<n->y<n->p x=p y->x=y
abbrev gr(n:Nat)(p:Nat->Nat)(x y:Nat):Prop:=x<n/\y=p x
def tr (p:Nat->Nat)(t:Nat×Nat)(x:Nat):Nat:=if x=t.1 then p t.2 else if x=t.2 then p t.1 else p x
theorem A8(p:Nat->Nat)(a b x:Nat):tr p (a,b) x=p (if x=a then b else if x=b then a else x):=by
 unfold tr;simp only;split
 .rfl
 split<;>rfl
theorem Perm.tr{p:Nat->Nat}(h:Perm n p){a b:Nat}(ha:a<n)(hb:b<n):Perm n (tr p (a,b)):=by
 have hs:∀x,x<n->(if x=a then b else if x=b then a else x)<n:=fun x hx=>by split<;>(try split)<;>assumption
 refine⟨fun x hx=>by rw[A8];exact h.lt _ (hs x hx),fun x y hx hy e=>?_⟩;rw[A8,A8] at e;have e:=h.inj _ _ (hs x hx) (hs y hy) e;by_cases x1:x=a
 .rw[if_pos x1] at e;by_cases y1:y=a
  .omega
  rw[if_neg y1] at e;split at e<;>omega
 rw[if_neg x1] at e;by_cases y1:y=a
 .rw[if_pos y1] at e;split at e<;>omega
 rw[if_neg y1] at e;split at e<;>split at e<;>omega
def it (p:Nat->Nat):Nat->Nat->Nat
 |0,x=>x
 |k+1,x=>p (it p k x)
theorem Perm.zb{p:Nat->Nat}(h:Perm n p)(hx:x<n):∀k,it p k x<n:=by
 intro k
 induction k with
 |zero=>exact hx
 |succ k ih=>exact h.lt _ ih
theorem Perm.back{p:Nat->Nat}(h:Perm n p)(hx:x<n):∀i j,it p (i+j) x=it p i x->it p j x=x:=by
 intro i
 induction i with
 |zero=>intro j e;rw[aa0] at e;exact e
 |succ i ih=>intro j e;rw[show i+1+j=(i+j)+1 by omega] at e;exact ih j (h.inj _ _ (h.zb hx _) (h.zb hx _) e)
theorem rh:∀(L M:List Nat),L.Nodup->(∀x∈L,x∈M)->L.length<=M.length:=by
 intro L
 induction L with
 |nil=>intro M _ _;exact aae _
 |cons a L ih=>intro M hn hs;obtain⟨h1,h2⟩:=abk.1 hn;have ha:=hs a (by simp);have:=ih (M.erase a) h2 fun x hx=>(List.mem_erase_of_ne (by rintro rfl;exact h1 hx)).2 (hs x (by simp[hx]));rw[List.length_erase_of_mem ha] at this;have:0<M.length:=List.length_pos_of_mem ha;simp only[aas];omega
theorem Perm.UJ{p:Nat->Nat}(h:Perm n p)(hx:x<n):∃m,it p (m+1) x=x:=by
 apply Classical.byContradiction;intro YH;have key:∀k,((List.range k).map fun i=>it p i x).Nodup:=by
  intro k
  induction k with
  |zero=>simp
  |succ k ih=>rw[abZ,aaN,adc];refine⟨ih,by simp,fun a ha b hb=>?_⟩;obtain⟨i,hi,rfl⟩:=aan.1 ha;have hi:=aav.1 hi;simp only[aar,abb,abm] at hb;subst hb;intro e;have:=h.back hx i (k-i) (by rw[show i+(k-i)=k by omega];exact e.symm);exact YH ⟨k-i-1,by rw[show k-i-1+1=k-i by omega];exact this⟩
 have:=rh _ (List.range n) (key (n+1)) fun y hy=>by obtain⟨i,_,rfl⟩:=aan.1 hy;exact aav.2 (h.zb hx i)
 rw[aah,acm,acm] at this;omega
theorem FL(p:Nat->Nat)(x:Nat):∀k,it p (k+1) x=it p k (p x):=by
 intro k
 induction k with
 |zero=>rfl
 |succ k ih=>show p (it p (k+1) x)=p (it p k (p x));rw[ih]
theorem Jk{p:Nat->Nat}(h:Perm n p){a b:Nat}(ha:a<n)(hb:b<n)(Zv:¬cT (gr n p) a b):cT (gr n (tr p (a,b))) a b:=by
 obtain⟨m,hm⟩:=h.UJ hb;have e0:tr p (a,b) a=p b:=by unfold tr;rw[if_pos rfl]
 have YL:∀k,cT (gr n p) b (it p k b):=by
  intro k
  induction k with
  |zero=>exact .refl _
  |succ k ih=>exact ih.trans (.rel ⟨h.zb hb k,rfl⟩)
 have key:∀k,cT (gr n (tr p (a,b))) a b\/cT (gr n (tr p (a,b))) a (it p k (p b)):=by
  intro k
  induction k with
  |zero=>exact .inr (.rel ⟨ha,e0.symm⟩)
  |succ k ih=>
   rcases ih with ih|ih
   .exact .inl ih
   by_cases c:it p k (p b)=b
   .rw[c] at ih;exact .inl ih
   refine .inr (ih.trans (.rel ⟨h.zb (h.lt _ hb) k,?_⟩));have na:it p k (p b)≠a:=fun e=>Zv (by have:=YL (k+1);rw[FL,e] at this;exact this.symm)
   unfold tr;rw[if_neg na,if_neg c];rfl
 rcases key m with k|k
 .exact k
 rw[<- FL,hm] at k;exact k
theorem I5{p:Nat->Nat}{a b:Nat}(ha:a<n)(hb:b<n){S:Nat->Nat->Prop}{x y:Nat}:cT (pJ (fun x y=>gr n (tr p (a,b)) x y\/S x y) a b) x y↔cT (pJ (fun x y=>gr n p x y\/S x y) a b) x y:=by
 have ab:∀R:Nat->Nat->Prop,cT (pJ R a b) a b:=fun R=>.rel (.inr ⟨rfl,rfl⟩);constructor
 .refine cT.mono fun u v r=>?_;rcases r with (⟨hu,rfl⟩|s)|⟨rfl,rfl⟩
  .unfold tr;simp only;by_cases c:u=a
   .subst c;rw[if_pos rfl];exact(ab _).trans (.rel (.inl (.inl ⟨hb,rfl⟩)))
   rw[if_neg c];by_cases d:u=b
   .subst d;rw[if_pos rfl];exact(ab _).symm.trans (.rel (.inl (.inl ⟨ha,rfl⟩)))
   rw[if_neg d];exact .rel (.inl (.inl ⟨hu,rfl⟩))
  .exact .rel (.inl (.inr s))
  exact ab _
 refine cT.mono fun u v r=>?_;rcases r with (⟨hu,rfl⟩|s)|⟨rfl,rfl⟩
 .by_cases c:u=a
  .subst c;refine(ab _).trans (.rel (.inl (.inl ⟨hb,?_⟩)));unfold tr;simp only;by_cases d:b=u
   .rw[if_pos d,d]
   rw[if_neg d];simp
  by_cases d:u=b
  .subst d;refine(ab _).symm.trans (.rel (.inl (.inl ⟨ha,?_⟩)));unfold tr;rw[if_pos rfl]
  refine .rel (.inl (.inl ⟨hu,?_⟩));unfold tr;rw[if_neg c,if_neg d]
 .exact .rel (.inl (.inr s))
 exact ab _
abbrev inT(ts:List (Nat×Nat))(x y:Nat):Prop:=(x,y)∈ts
abbrev Na(n:Nat)(p:Nat->Nat)(ts:List (Nat×Nat))(x y:Nat):Prop:=gr n p x y\/inT ts x y
theorem UG:∀(ts:List (Nat×Nat)) (p:Nat->Nat),Perm n p->(∀t∈ts,t.1<n/\t.2<n)->
  K (cT (gr n (ts.foldl tr p))) n+K (cT (gr n p)) n<=2*K (cT (Na n p ts)) n+ts.length:=by
 intro ts
 induction ts with
 |nil=>
  intro p _ _;have:K (cT (Na n p [])) n=K (cT (gr n p)) n:=r5 (fun x y=>⟨cT.mono (R:=Na n p []) (R':=gr n p) (fun u v r=>by
   rcases r with r|r
   .exact .rel r
   cases r),cT.mono (R:=gr n p) (R':=Na n p []) (fun u v r=>.rel (.inl r))⟩) n
  rw[this];simp only[List.foldl_nil,aaA];omega
 |cons t ts ih=>
  intro p hp ht;obtain⟨a,b⟩:=t;obtain⟨ha,hb⟩:=ht (a,b) (by simp)
  replace ha:a<n:=ha
  replace hb:b<n:=hb
  have ih:=ih (tr p (a,b)) (hp.tr ha hb) fun t h=>ht t (by simp[h]);have all:∀x y,cT (Na n p ((a,b)::ts)) x y↔cT (pJ (Na n (tr p (a,b)) ts) a b) x y:=fun x y=>by
   refine Iff.trans ⟨cT.mono fun u v r=>?_,cT.mono fun u v r=>?_⟩ (I5 (S:=inT ts) ha hb).symm
   .rcases r with r|r
    .exact .rel (.inl (.inl r))
    rcases aag.1 r with r|r
    .cases r;exact .rel (.inr ⟨rfl,rfl⟩)
    exact .rel (.inl (.inr r))
   rcases r with (r|r)|⟨rfl,rfl⟩
   .exact .rel (.inl r)
   .exact .rel (.inr (abv _ r))
   exact .rel (.inr (adN ..))
  have one:∀x y,cT (pJ (gr n (tr p (a,b))) a b) x y↔cT (pJ (gr n p) a b) x y:=fun x y=>by have h:=I5 (p:=p) (S:=fun _ _=>False) ha hb (x:=x) (y:=y);have e:∀q:Nat->Nat,(fun x y=>gr n q x y\/False)=gr n q:=fun q=>funext fun x=>funext fun y=>propext (by simp);rw[e,e] at h;exact h
  rw[r5 all];simp only[ab3,aas];have kj:K (cT (pJ (gr n (tr p (a,b))) a b)) n=K (cT (pJ (gr n p) a b)) n:=r5 one n;have sm:∀R:Nat->Nat->Prop,cT R a b->K (cT (pJ R a b)) n=K (cT R) n:=fun R h=>Jc h n;have jn:∀R:Nat->Nat->Prop,¬cT R a b->K (cT R) n=K (cT (pJ R a b)) n+1:=fun R h=>Jd ha hb h;rcases Classical.em (cT (gr n p) a b) with c|c
  .have k1:=sm _ c;rcases Classical.em (cT (gr n (tr p (a,b))) a b) with d|d
   .have k2:=sm _ d;have k3:=sm _ (d.mono (R':=Na n (tr p (a,b)) ts) fun u v r=>.rel (.inl r));omega
   have k2:=jn _ d;rcases Classical.em (cT (Na n (tr p (a,b)) ts) a b) with d2|d2
   .have k3:=sm _ d2;omega
   have k3:=jn _ d2;omega
  have k1:=jn _ c;have d:=Jk hp ha hb c;have k2:=sm _ d;have k3:=sm _ (d.mono (R':=Na n (tr p (a,b)) ts) fun u v r=>.rel (.inl r));omega
def rv (x:Nat):Nat:=if x%2=0 then x+1 else x-1
theorem ER(k:Nat):rv (2*k)=2*k+1:=by unfold rv;rw[if_pos (by omega)]
theorem N6(k:Nat):rv (2*k+1)=2*k:=by unfold rv;rw[if_neg (by omega)];rfl
theorem mq(x:Nat):rv (rv x)=x:=by
 rcases abL x with h|h
 .rw[show x=2*(x/2) by omega,ER,N6]
 rw[show x=2*(x/2)+1 by omega,N6,ER]
theorem mr{m:Nat}(h:x<2*m):rv x<2*m:=by unfold rv;split<;>omega
theorem fK(n v:Nat)(g:Bool):rv (aJ n v g)=fR n v (!g):=by
 cases g with
 |true=>exact ER _
 |false=>exact N6 _
theorem Vh(n v:Nat)(g:Bool):rv (fR n v g)=aJ n v (!g):=by
 cases g with
 |true=>exact ER _
 |false=>exact N6 _
theorem l7(hv:v<n)(g:Bool):fR n v g<2*n:=by have:=aat (v+n-1) (show 0<n by omega);unfold fR;split<;>omega
theorem Aj(hx:x<2*n):x=fR n (if x%2=0 then (x/2+1)%n else x/2) (x%2==0):=by
 unfold fR;rcases abL x with h|h
 .simp only[h,beq_self_eq_true,if_true];rw[jX (by omega)];omega
 simp only[h,show((1:Nat)==0)=false from rfl,aaq,if_false,Nat.one_ne_zero];omega
section
variable {F:Nat} {ls:List Let}
theorem Er{l:Let}(hl:ls[v]?=some l)(fw:Bool):bU ls (fR ls.length v fw)=if l.kind==2 then aJ ls.length (bQ ls v) (fw==(l.over==(l.sign==1)))
   else if dn ls v==fw then 2*ls.length+2*(aa ls).idxOf v else 2*ls.length+2*(((aa ls).idxOf v+(aa ls).length-1)%(aa ls).length)+1:=by
 have hv:=(aac.1 hl).1;have Ye:=l7 hv fw;refine A7 (by omega) ?_ ?_ hl
 .unfold fR;cases fw<;>simp
 unfold fR;cases fw with
 |true=>simp only[if_true];rw[show 2*((v+ls.length-1)%ls.length)/2=(v+ls.length-1)%ls.length by omega,fM hv]
 |false=>simp only[aaq,if_false];omega
theorem kr{l:Let}(hl:ls[v]?=some l)(hc:l.aw=true)(fw:Bool):bU ls (fR ls.length v fw)=aJ ls.length (bQ ls v) (fw==(l.over==(l.sign==1))):=by rw[Er hl];unfold Let.aw at hc;rw[if_pos hc]
theorem sM{l:Let}(hl:ls[v]?=some l)(hp:l.aA=true)(fw:Bool):bU ls (fR ls.length v fw)=if dn ls v==fw then 2*ls.length+2*(aa ls).idxOf v else 2*ls.length+2*(((aa ls).idxOf v+(aa ls).length-1)%(aa ls).length)+1:=by have:=dz hp;unfold Let.aw at this;rw[Er hl,if_neg (by rw[this];decide)]
theorem qf(k:Nat):bU ls (2*ls.length+2*k)=aJ ls.length ((aa ls).getD ((k+1)%(aa ls).length) 0) (!dn ls ((aa ls).getD ((k+1)%(aa ls).length) 0)):=by show cX _ _ _=_;unfold cX;rw[if_pos (by omega),if_pos (by omega),show(2*ls.length+2*k-2*ls.length)/2=k by omega]
theorem qh(k:Nat):bU ls (2*ls.length+2*k+1)=aJ ls.length ((aa ls).getD k 0) (dn ls ((aa ls).getD k 0)):=by show cX _ _ _=_;unfold cX;rw[if_pos (by omega),if_neg (by omega),show(2*ls.length+2*k+1-2*ls.length)/2=k by omega]
theorem l6{k:Nat}(hk:k<(aa ls).length):∃l,ls[(aa ls).getD k 0]?=some l/\l.aA=true:=by obtain⟨v,hv⟩:=ai hk;rw[aal,hv,aaS];exact dK.1 (aab hv)
theorem tB{l:Let}(ok:dT F ls)(hl:ls[v]?=some l)(hp:l.aA=true):(aa ls).idxOf v<(aa ls).length/\(aa ls).getD ((aa ls).idxOf v) 0=v:=by have h1:=tA ok.ax hl hp;rw[nT ok.ax hl hp];exact⟨(aac.1 h1).1,by rw[aal,h1];rfl⟩
theorem ya(ok:dT F ls)(hv:v<ls.length)(fw:Bool):bU ls (rv (bU ls (fR ls.length v fw)))=aJ ls.length v fw:=by
 obtain⟨l,hl⟩:=ai hv;rcases ok.kinds l (aab hl) with hp|hc
 .obtain⟨h1,h2⟩:=tB ok hl hp;rw[sM hl hp];by_cases c:(dn ls v==fw)=true
  .rw[if_pos c,show 2*ls.length+2*(aa ls).idxOf v=2*(ls.length+(aa ls).idxOf v) by omega,ER,show 2*(ls.length+(aa ls).idxOf v)+1=2*ls.length+2*(aa ls).idxOf v+1 by omega,qh,h2];rw[eq_of_beq c]
  rw[if_neg c];have c:dn ls v= !fw:=by revert c;cases dn ls v<;>cases fw<;>simp
  have hm:=aat ((aa ls).idxOf v+(aa ls).length-1) (show 0<(aa ls).length by omega);rw[show 2*ls.length+2*(((aa ls).idxOf v+(aa ls).length-1)%(aa ls).length)+1=2*(ls.length+((aa ls).idxOf v+(aa ls).length-1)%(aa ls).length)+1 by omega,N6,
   show 2*(ls.length+((aa ls).idxOf v+(aa ls).length-1)%(aa ls).length)=2*ls.length+2*(((aa ls).idxOf v+(aa ls).length-1)%(aa ls).length) by omega,qf,fM h1,h2,c,Bool.not_not]
 obtain⟨h1,m,hm,mc,mi,mo,ms⟩:=bG ok.cr hl hc;rw[kr hl hc,fK,kr hm mc,h1,mo,ms];cases fw<;>cases l.over<;>cases (l.sign==1)<;>rfl
def j6(ls:List Let)(x:Nat):Nat:=
 if 2*ls.length<=x then (if x%2=0 then (aa ls).getD (((x-2*ls.length)/2+1)%(aa ls).length) 0 else (aa ls).getD ((x-2*ls.length)/2) 0)
 else if x%2=0 then (x/2+1)%ls.length else x/2
def Wi(ls:List Let)(x:Nat):Bool:=decide (2*ls.length<=x)||(match ls[j6 ls x]? with|some l=>l.aw&&l.over|none=>false)
def ss(ls:List Let)(i:Nat):Int×Int:=match ls[i]? with|some l=>if l.aw then (1,l.id) else (0,i)|none=>(2,0)
theorem lS(hv:v<ls.length)(fw:Bool):j6 ls (fR ls.length v fw)=v:=by
 have Ye:=l7 hv fw;unfold j6;rw[if_neg (by omega)];unfold fR;cases fw with
 |true=>simp only[if_true];rw[if_pos (by omega),show 2*((v+ls.length-1)%ls.length)/2=(v+ls.length-1)%ls.length by omega,fM hv]
 |false=>simp only[aaq,if_false];rw[if_neg (by omega)];omega
theorem I6{l:Let}(hl:ls[v]?=some l)(fw:Bool):Wi ls (fR ls.length v fw)=(l.aw&&l.over):=by
 have hv:=(aac.1 hl).1;have Ye:=l7 hv fw;unfold Wi;rw[lS hv,hl];have:¬2*ls.length<=fR ls.length v fw:=by omega
 simp[this]
theorem Po(k:Nat):j6 ls (2*ls.length+2*k)=(aa ls).getD ((k+1)%(aa ls).length) 0:=by unfold j6;rw[if_pos (by omega),if_pos (by omega),show(2*ls.length+2*k-2*ls.length)/2=k by omega]
theorem Pp(k:Nat):j6 ls (2*ls.length+2*k+1)=(aa ls).getD k 0:=by unfold j6;rw[if_pos (by omega),if_neg (by omega),show(2*ls.length+2*k+1-2*ls.length)/2=k by omega]
theorem QJ(h:2*ls.length<=x):Wi ls x=true:=by unfold Wi;simp[h]
theorem Ep(ok:dT F ls)(hx:x<nD ls):ss ls (j6 ls (rv (bU ls x)))=ss ls (j6 ls x)/\Wi ls (rv (bU ls x))= !Wi ls x:=by
 unfold nD at hx;rcases Nat.lt_or_ge x (2*ls.length) with c|c
 .have hv:(if x%2=0 then (x/2+1)%ls.length else x/2)<ls.length:=by
   have:=aat (x/2+1) (show 0<ls.length by omega);split<;>omega
  rw[Aj c];generalize (if x%2=0 then (x/2+1)%ls.length else x/2)=v at hv;generalize (x%2==0)=fw;obtain⟨l,hl⟩:=ai hv;rw[lS hv,I6 hl];rcases ok.kinds l (aab hl) with hp|hc
  .obtain⟨h1,h2⟩:=tB ok hl hp;rw[dz hp,sM hl hp];by_cases d:(dn ls v==fw)=true
   .rw[if_pos d,show 2*ls.length+2*(aa ls).idxOf v=2*(ls.length+(aa ls).idxOf v) by omega,ER,show 2*(ls.length+(aa ls).idxOf v)+1=2*ls.length+2*(aa ls).idxOf v+1 by omega,Pp,h2,QJ (by omega)];exact⟨rfl,rfl⟩
   rw[if_neg d,show 2*ls.length+2*(((aa ls).idxOf v+(aa ls).length-1)%(aa ls).length)+1=2*(ls.length+((aa ls).idxOf v+(aa ls).length-1)%(aa ls).length)+1 by omega,N6,
    show 2*(ls.length+((aa ls).idxOf v+(aa ls).length-1)%(aa ls).length)=2*ls.length+2*(((aa ls).idxOf v+(aa ls).length-1)%(aa ls).length) by omega,Po,fM h1,h2,QJ (by omega)]
   exact⟨rfl,rfl⟩
  obtain⟨h1,m,hm,mc,mi,mo,ms⟩:=bG ok.cr hl hc;have hw:=(aac.1 hm).1;rw[kr hl hc,fK,lS hw,I6 hm];unfold ss;simp[hl,hm,hc,mc,mi,mo]
 rw[QJ c];have key:∀k,k<(aa ls).length->∀g,ss ls (j6 ls (rv (aJ ls.length ((aa ls).getD k 0) g)))=ss ls ((aa ls).getD k 0)/\Wi ls (rv (aJ ls.length ((aa ls).getD k 0) g))= !true:=fun k hk g=>by obtain⟨l,hl,hp⟩:=l6 hk;rw[fK,lS (aac.1 hl).1,I6 hl,dz hp];exact⟨rfl,rfl⟩
 rcases abL x with d|d
 .rw[show x=2*ls.length+2*((x-2*ls.length)/2) by omega,qf,Po];exact key _ (aat _ (by omega)) _
 rw[show x=2*ls.length+2*((x-2*ls.length)/2)+1 by omega,qh,Pp];exact key _ (by omega) _
end
theorem CA{next:Nat->Nat}{R:Nat->Nat->Prop}(Ye:∀x,x<N->next x<N)(h:∀x,x<N->cT R x (next x)):∀(k x:Nat) (S:List Bool),x<N->∀y∈(cH next k x S).1,cT R x y:=by
 intro k
 induction k with
 |zero=>intro x S _ y hy;simp[cH] at hy
 |succ k ih=>
  intro x S hx y hy;unfold cH at hy;split at hy
  .simp at hy
  rcases aag.1 hy with rfl|hy
  .exact .refl _
  exact(h x hx).trans (ih (next x) _ (Ye x hx) y hy)
theorem AM{next:Nat->Nat}(m:Av next n2 N){R:Nat->Nat->Prop}(h:∀x,x<N->cT R x (next x)):∀k,k<=N->∀w∈(aK next N k).1,∀x∈w,∀y∈w,cT R x y:=by
 intro k
 induction k with
 |zero=>intro _ w hw;simp[aK] at hw
 |succ k ih=>
  intro hk w hw x hx y hy;rw[dL] at hw;unfold eV at hw;split at hw
  .exact ih (by omega) w hw x hx y hy
  rcases aaw.1 hw with hw|hw
  .exact ih (by omega) w hw x hx y hy
  simp only[abm] at hw;subst hw;have hj:=CA (R:=R) m.lt h ((aK next N k).2.length+1) k (aK next N k).2 (by omega);exact(hj x hx).symm.trans (hj y hy)
theorem Hd{next:Nat->Nat}(m:Av next n2 N):∀k,k<=n2->∀w∈(aK next N k).1,∀x∈w,next x∈w:=by
 intro k
 induction k with
 |zero=>intro _ w hw;simp[aK] at hw
 |succ k ih=>
  intro hk w hw x hx;obtain⟨c0,_⟩:=jN m k (by omega);obtain⟨c1,_⟩:=jN m (k+1) hk;rw[dL] at hw c1;unfold eV at hw c1;cases hs:(aK next N k).2.getD k true with
  |true=>rw[hs,if_pos rfl] at hw;exact ih (by omega) w hw x hx
  |false=>
   rw[hs,if_neg (by decide)] at hw c1;rcases aaw.1 hw with hw|hw
   .exact ih (by omega) w hw x hx
   simp only[abm] at hw;subst hw;obtain⟨g1,g2,g3⟩:=xS next ((aK next N k).2.length+1) k (aK next N k).2;have hxN:x<N:=by have:=Jv (g1 x hx);have:=iL next N k;omega
   have e0:=c0 x hxN;have e1:=c1 x hxN;rw[g3,g3,g1 x hx] at e1;rw[g1 x hx] at e0;simp only[acD,hx,decide_true,<- e0] at e1;exact of_decide_eq_true e1.symm
theorem eT{next:Nat->Nat}(m:Av next n2 N){w:List Nat}(hw:w∈bY next N)(hx:x∈w):next x∈w:=by unfold bY at hw;rw[sK m N m.le (aad _)] at hw;exact Hd m n2 (aad _) w hw x hx
theorem jM{next:Nat->Nat}(m:Av next n2 N){R:Nat->Nat->Prop}(h:∀x,x<N->cT R x (next x)){w:List Nat}(hw:w∈bY next N){x:Nat}(hx:x∈w)(hy:y∈w):cT R x y:=AM m h N (aad _) w hw x hx y hy
def xP(L:List (List Nat))(x:Nat):Nat:=L.findIdx fun w=>w.contains x
theorem nZ{L:List (List Nat)}(h:L.flatten.Nodup){i:Nat}{w:List Nat}(hi:L[i]?=some w)(hx:x∈w):xP L x=i:=by
 have hm:w.contains x=true:=by simpa using hx
 have Ye:L.findIdx (fun w=>w.contains x)<L.length:=List.findIdx_lt_length_of_exists ⟨w,aab hi,hm⟩;have hp:=List.findIdx_getElem (w:=Ye);have hj:L[L.findIdx fun w=>w.contains x]?=some (L[L.findIdx fun w=>w.contains x]'Ye):=abC Ye;exact BE h hj hi (by simpa using hp) hx
theorem BZ:∀ {L:List (List Nat)},L.flatten.Nodup->(∀w∈L,w≠[])->((L.map (·.headD 0)).map (xP L))=List.range L.length:=by
 intro L h Yk;apply adx;intro i;rw[aaz,aaz];by_cases hi:i<L.length
 .have e:=abC hi;rw[e,abw hi];simp only[abf];have hw:=Yk _ (aab e);rw[nZ h e (x:=L[i].headD 0) (by
   cases hL:L[i] with
   |nil=>exact absurd hL hw
   |cons a r=>simp)]
 rw[abz (by omega),abz (by simp;omega)];rfl
theorem A6{α:Type}{f:Nat->α×Bool}{g:Nat->α}{c:Nat->Bool}(h0:∀x,f (2*x)=(g x,c x))(h1:∀x,f (2*x+1)=(g x,!c x)):∀ {L:List Nat},(L.map g).Nodup->((L.flatMap fun x=>[2*x,2*x+1]).map f).Nodup:=by
 intro L
 induction L with
 |nil=>intro _;exact abr
 |cons a L ih=>
  intro h;rw[aar,abk] at h;have ih:=ih h.2;have YH:∀b,(g a,b)∉(L.flatMap fun x=>[2*x,2*x+1]).map f:=by
   intro b hb;obtain⟨y,hy,e⟩:=aan.1 hb;obtain⟨x,hx,hy⟩:=List.mem_flatMap.1 hy;have:g x=g a:=by
    simp only[aag,aaC,or_false] at hy;rcases hy with rfl|rfl
    .rw[h0] at e;exact congrArg Prod.fst e
    rw[h1] at e;exact congrArg Prod.fst e
   exact h.1 (aan.2 ⟨x,hx,this⟩)
  rw[List.flatMap_cons,aaN,adc];refine⟨?_,ih,?_⟩
  .simp only[aar,abb,h0,h1,abk,abm,aaC,not_false_eq_true,abr,and_true];intro e;have:=congrArg Prod.snd e;revert this;cases c a<;>simp
  intro u hu v hv e;subst e;simp only[aar,abb,h0,h1,aag,aaC,or_false] at hu;rcases hu with rfl|rfl
  .exact YH _ hv
  exact YH _ hv
theorem Ji:∀L:List Nat,(L.flatMap fun x=>[2*x,2*x+1]).length=2*L.length:=by
 intro L
 induction L with
 |nil=>rfl
 |cons a L ih=>rw[List.flatMap_cons,aaF,ih];simp only[aas,aaA];omega
theorem Nm{L:List Nat}(h:∀x∈L,x<N):∀y∈(L.flatMap fun x=>[2*x,2*x+1]),y<2*N:=by intro y hy;obtain⟨x,hx,hy⟩:=List.mem_flatMap.1 hy;have:=h x hx;simp only[aag,aaC,or_false] at hy;rcases hy with rfl|rfl<;>omega
def fx (b:Bool)(s:Nat):Nat:=if b then 1-s else s
theorem qJ{b:Bool}{s:Nat}(h:s<2):fx b s<2:=by unfold fx;split<;>omega
theorem B3{b:Bool}{s:Nat}(h:s<2):fx b (fx b s)=s:=by unfold fx;cases b<;>simp;omega
def Aq(p:Nat->Bool)(y:Nat):Nat:=2*rv (y/2)+fx (p (y/2)) (y%2)
def GZ(p:Nat->Bool)(nx:Nat->Nat)(y:Nat):Nat:=2*nx (rv (y/2))+fx (p (y/2)) (y%2)
def Hi(p:Nat->Bool)(k:Nat):List (Nat×Nat):=(List.range k).flatMap fun e=>[(4*e,Aq p (4*e)),(4*e+1,Aq p (4*e+1))]
theorem Cs(p:Nat->Bool)(e:Nat):Aq p (4*e)=if p (2*e) then 4*e+3 else 4*e+2:=by unfold Aq fx;rw[show 4*e/2=2*e by omega,ER,show 4*e%2=0 by omega];split<;>omega
theorem Cr(p:Nat->Bool)(e:Nat):Aq p (4*e+1)=if p (2*e) then 4*e+2 else 4*e+3:=by unfold Aq fx;rw[show(4*e+1)/2=2*e by omega,ER,show(4*e+1)%2=1 by omega];split<;>omega
theorem UO{p:Nat->Bool}(hp:∀x,p (rv x)=p x)(e:Nat):Aq p (4*e+2)=if p (2*e) then 4*e+1 else 4*e:=by unfold Aq fx;rw[show(4*e+2)/2=2*e+1 by omega,N6,show(4*e+2)%2=0 by omega,<- hp (2*e),ER];split<;>omega
theorem UN{p:Nat->Bool}(hp:∀x,p (rv x)=p x)(e:Nat):Aq p (4*e+3)=if p (2*e) then 4*e else 4*e+1:=by unfold Aq fx;rw[show(4*e+3)/2=2*e+1 by omega,N6,show(4*e+3)%2=1 by omega,<- hp (2*e),ER];split<;>omega
theorem Es(p:Nat->Bool)(k:Nat):Hi p (k+1)=Hi p k++[(4*k,Aq p (4*k)),(4*k+1,Aq p (4*k+1))]:=by unfold Hi;rw[abZ,List.flatMap_append];simp
theorem Rc(p:Nat->Bool)(k:Nat):(Hi p k).length=2*k:=by
 induction k with
 |zero=>rfl
 |succ k ih=>rw[Es,aaF,ih];simp only[aas,aaA];omega
theorem U4(p:Nat->Bool)(k:Nat):∀t∈Hi p k,t.1<4*k/\t.2<4*k:=by intro t ht;obtain⟨e,he,h⟩:=List.mem_flatMap.1 ht;have he:=aav.1 he;simp only[aag,aaC,or_false,Cs,Cr] at h;rcases h with rfl|rfl<;>refine⟨by simp only;omega,?_⟩<;>simp only<;>split<;>omega
theorem Ra(p:Nat->Bool){k e:Nat}(h:e<k):(4*e,Aq p (4*e))∈Hi p k/\(4*e+1,Aq p (4*e+1))∈Hi p k:=
 ⟨List.mem_flatMap.2 ⟨e,aav.2 h,by simp⟩,List.mem_flatMap.2 ⟨e,aav.2 h,by simp⟩⟩
theorem Nr{p:Nat->Bool}(hp:∀x,p (rv x)=p x)(q:Nat->Nat):∀k y,(Hi p k).foldl tr q y=if y<4*k then q (Aq p y) else q y:=by
 intro k
 induction k with
 |zero=>intro y;simp[Hi]
 |succ k ih=>
  intro y;rw[Es,adp,ab3,ab3,List.foldl_nil,A8,A8,ih,Cs,Cr];by_cases c:y<4*k
  .have h1:(if y=4*k+1 then (if p (2*k) then 4*k+2 else 4*k+3) else if y=(if p (2*k) then 4*k+2 else 4*k+3) then 4*k+1 else y)=y:=by rw[if_neg (by omega),if_neg (by split<;>omega)]
   rw[h1];have h2:(if y=4*k then (if p (2*k) then 4*k+3 else 4*k+2) else if y=(if p (2*k) then 4*k+3 else 4*k+2) then 4*k else y)=y:=by rw[if_neg (by omega),if_neg (by split<;>omega)]
   rw[h2,if_pos c,if_pos (by omega)]
  have a2:=UO hp k;have a3:=UN hp k;have a0:=Cs p k;have a1:=Cr p k;cases hpk:p (2*k) with
  |true=>
   rw[hpk] at a0 a1 a2 a3;simp only[if_true] at a0 a1 a2 a3 ⊢;by_cases c0:y=4*k
   .subst c0;rw[a0,if_neg (show ¬4*k=4*k+1 by omega),if_neg (show ¬4*k=4*k+2 by omega),if_pos rfl,if_neg (by omega),if_pos (by omega)]
   by_cases c1:y=4*k+1
   .subst c1;rw[a1,if_pos rfl,if_neg (show ¬4*k+2=4*k by omega),if_neg (show ¬4*k+2=4*k+3 by omega),if_neg (by omega),if_pos (by omega)]
   by_cases c2:y=4*k+2
   .subst c2;rw[a2,if_neg (show ¬4*k+2=4*k+1 by omega),if_pos rfl,if_neg (show ¬4*k+1=4*k by omega),if_neg (show ¬4*k+1=4*k+3 by omega),if_neg (by omega),if_pos (by omega)]
   by_cases c3:y=4*k+3
   .subst c3;rw[a3,if_neg (show ¬4*k+3=4*k+1 by omega),if_neg (show ¬4*k+3=4*k+2 by omega),if_neg (show ¬4*k+3=4*k by omega),if_pos rfl,if_neg (by omega),if_pos (by omega)]
   rw[if_neg c1,if_neg c2,if_neg c0,if_neg c3,if_neg c,if_neg (by omega)]
  |false=>
   rw[hpk] at a0 a1 a2 a3;simp only[aaq,if_false] at a0 a1 a2 a3 ⊢;by_cases c0:y=4*k
   .subst c0;rw[a0,if_neg (show ¬4*k=4*k+1 by omega),if_neg (show ¬4*k=4*k+3 by omega),if_pos rfl,if_neg (by omega),if_pos (by omega)]
   by_cases c1:y=4*k+1
   .subst c1;rw[a1,if_pos rfl,if_neg (show ¬4*k+3=4*k by omega),if_neg (show ¬4*k+3=4*k+2 by omega),if_neg (by omega),if_pos (by omega)]
   by_cases c3:y=4*k+3
   .subst c3;rw[a3,if_neg (show ¬4*k+3=4*k+1 by omega),if_pos rfl,if_neg (show ¬4*k+1=4*k by omega),if_neg (show ¬4*k+1=4*k+2 by omega),if_neg (by omega),if_pos (by omega)]
   by_cases c2:y=4*k+2
   .subst c2;rw[a2,if_neg (show ¬4*k+2=4*k+1 by omega),if_neg (show ¬4*k+2=4*k+3 by omega),if_neg (show ¬4*k+2=4*k by omega),if_pos rfl,if_neg (by omega),if_pos (by omega)]
   rw[if_neg c1,if_neg c3,if_neg c0,if_neg c2,if_neg c,if_neg (by omega)]
theorem QH{p:Nat->Bool}(hp:∀x,p (rv x)=p x)(nx:Nat->Nat){k:Nat}(h:y<4*k):(Hi p k).foldl tr (GZ p nx) y=2*nx (y/2)+y%2:=by
 rw[Nr hp,if_pos h];unfold GZ;have hf:fx (p (y/2)) (y%2)<2:=qJ (by omega);have h1:Aq p y/2=rv (y/2):=by unfold Aq;omega
 have h2:Aq p y%2=fx (p (y/2)) (y%2):=by unfold Aq;omega
 rw[h1,h2,mq,hp,B3 (by omega)]
theorem wx{α β:Type}{P:α->β->Prop}{f:β->α}(hf:∀a b,P a b->f b=a):∀ {L:List α},(∀a∈L,∃b,P a b)->∃M:List β,M.map f=L/\ ∀b∈M,∃a∈L,P a b:=by
 intro L
 induction L with
 |nil=>intro _;exact⟨[],rfl,by simp⟩
 |cons a L ih=>
  intro h;obtain⟨b,hb⟩:=h a (by simp);obtain⟨M,h1,h2⟩:=ih fun x hx=>h x (by simp[hx]);refine⟨b::M,by rw[aar,h1,hf a b hb],fun x hx=>?_⟩;rcases aag.1 hx with rfl|hx
  .exact⟨a,by simp,hb⟩
  obtain⟨c,hc,hp⟩:=h2 x hx;exact⟨c,by simp[hc],hp⟩
section
variable {F:Nat} {ls:List Let}
theorem GM(ok:dT F ls):(aa ls).Nodup:=by have:=uL ok.ax ls.length (aad _);refine List.Pairwise.imp (fun {a b} h e=>?_) this;subst e;exact absurd h (Nat.lt_irrefl _)
theorem Ia(ok:dT F ls):ls.length=ao Let.aA ls+ao Let.aw ls:=by
 have:∀l:List Let,(∀x∈l,x.aA=true\/x.aw=true)->l.length=ao Let.aA l+ao Let.aw l:=by
  intro l
  induction l with
  |nil=>intro _;rfl
  |cons a l ih=>
   intro h;have ih:=ih fun x hx=>h x (by simp[hx]);unfold ao at ih ⊢;rw[abM,abM,aas,ih];rcases h a (by simp) with c|c
   .rw[c,dz c];simp;omega
   have:a.aA=false:=by cases hp:a.aA;rfl;rw[dz hp] at c;cases c
   rw[c,this];simp;omega
 exact this ls ok.kinds
theorem En(ok:dT F ls):∃L:List Nat,L.length=ao Let.aA ls+ao Let.aw ls/2/\(∀j∈L,j<ls.length)/\(L.map (ss ls)).Nodup:=by
 have hc:=ok.cr;unfold dN at hc;simp only[aaf,beq_iff_eq] at hc;have hid:=hc.2
 let ids:List (Int×Int):=(dR ls ls.length).map fun id=>(1,id)
 have aoU:∀a∈ids,∃j,(ss ls j=a/\j<ls.length):=by intro a ha;obtain⟨id,hi,rfl⟩:=aan.1 ha;obtain⟨j,o,hj,hh⟩:=(oO (aad _)).1 hi;obtain⟨m,hm,mc,mi,_⟩:=iJ hh;refine⟨j,?_,hj⟩;unfold ss;rw[hm];simp[mc,mi]
 obtain⟨M,m1,m2⟩:=wx (P:=fun a j=>ss ls j=a/\j<ls.length) (f:=ss ls) (fun a b h=>h.1) aoU;have sE:∀i∈aa ls,i<ls.length/\ss ls i=(0,(i:Int)):=fun i hi=>by obtain⟨l,hl,hp⟩:=dK.1 hi;refine⟨(aac.1 hl).1,?_⟩;unfold ss;rw[hl];simp[dz hp]
 refine⟨aa ls++M,?_,fun j hj=>?_,?_⟩
 .have:M.length=(dR ls ls.length).length:=by
   have:=congrArg List.length m1
   simpa [ids] using this
  rw[aaF,this,hid,jJ]
 .rcases aaw.1 hj with hj|hj
  .exact(sE j hj).1
  obtain⟨_,_,h⟩:=m2 j hj;exact h.2
 rw[aaN,m1,adc];refine⟨?_,?_,?_⟩
 .have:(aa ls).map (ss ls)=(aa ls).map fun i:Nat=>((0:Int),(i:Int)):=act fun i hi=>(sE i hi).2;rw[this];refine acu.2 (List.Pairwise.imp (fun {a b} h e=>h ?_) (GM ok));have:=congrArg Prod.snd e;simp only at this;omega
 .refine acu.2 (List.Pairwise.imp (fun {a b} h e=>h ?_) (rK ls ls.length));exact congrArg Prod.snd e
 intro a ha b hb e;obtain⟨i,hi,rfl⟩:=aan.1 ha;obtain⟨id,_,rfl⟩:=aan.1 hb;rw[(sE i hi).2] at e;have:=congrArg Prod.fst e;simp at this
theorem NX(ok:dT F ls)(p:Nat->Bool):Perm (2*nD ls) (GZ p (bU ls)):=by
 have m:=maps ok;have hN:nD ls=2*(ls.length+(aa ls).length):=by unfold nD;omega
 have hr:∀y,y<2*nD ls->rv (y/2)<nD ls:=fun y hy=>by rw[hN];exact mr (by omega)
 have hf:∀y,fx (p (y/2)) (y%2)<2:=fun y=>qJ (by omega);refine⟨fun y hy=>?_,fun x y hx hy e=>?_⟩
 .have:=m.lt _ (hr y hy);have:=hf y;unfold GZ;omega
 unfold GZ at e;have:=hf x;have:=hf y;have e1:bU ls (rv (x/2))=bU ls (rv (y/2)):=by omega
 have e2:=m.inj _ _ (hr x hx) (hr y hy) e1;have e3:x/2=y/2:=by rw[<- mq (x/2),e2,mq]
 have e4:fx (p (x/2)) (x%2)=fx (p (y/2)) (y%2):=by omega
 rw[e3] at e4;have e5:x%2=y%2:=by rw[<- B3 (b:=p (y/2)) (s:=x%2) (by omega),e4,B3 (by omega)]
 omega
end
section
variable {F:Nat} {ls:List Let} {p:Nat->Bool}
abbrev KB(ls:List Let)(p:Nat->Bool):Nat->Nat->Prop:=Na (2*nD ls) (GZ p (bU ls)) (Hi p (ls.length+(aa ls).length))
theorem uh(ls:List Let):nD ls=2*(ls.length+(aa ls).length):=by unfold nD;omega
theorem XN(hp:∀x,p (rv x)=p x)(hy:y<2*nD ls):cT (KB ls p) y (Aq p y):=by
 have hN:=uh ls;obtain⟨h1,h2⟩:=Ra p (k:=ls.length+(aa ls).length) (e:=y/4) (by omega);have r1:cT (KB ls p) (4*(y/4)) (Aq p (4*(y/4))):=.rel (.inr h1);have r2:cT (KB ls p) (4*(y/4)+1) (Aq p (4*(y/4)+1)):=.rel (.inr h2);have a2:=UO hp (y/4);have a3:=UN hp (y/4);rcases(by omega:y=4*(y/4)\/y=4*(y/4)+1\/y=4*(y/4)+2\/y=4*(y/4)+3) with e|e|e|e
 .rw[<- e] at r1;exact r1
 .rw[<- e] at r2;exact r2
 .rw[<- e] at a2;rw[a2];rw[Cs] at r1;rw[Cr] at r2;by_cases c:p (2*(y/4))=true
  .rw[if_pos c] at r2 ⊢;rw[<- e] at r2;exact r2.symm
  rw[if_neg c] at r1 ⊢;rw[<- e] at r1;exact r1.symm
 rw[<- e] at a3;rw[a3];rw[Cs] at r1;rw[Cr] at r2;by_cases c:p (2*(y/4))=true
 .rw[if_pos c] at r1 ⊢;rw[<- e] at r1;exact r1.symm
 rw[if_neg c] at r2 ⊢;rw[<- e] at r2;exact r2.symm
theorem DL(hp:∀x,p (rv x)=p x){x s:Nat}(hx:x<nD ls)(hs:s<2):cT (KB ls p) (2*x+s) (2*rv x+fx (p x) s):=by have:=XN (ls:=ls) hp (y:=2*x+s) (by omega);unfold Aq at this;rwa[show(2*x+s)/2=x by omega,show(2*x+s)%2=s by omega] at this
theorem uG(hp:∀x,p (rv x)=p x){x s:Nat}(hx:x<nD ls)(hs:s<2):cT (KB ls p) (2*x+s) (2*bU ls x+s):=by
 have hN:=uh ls;have hf:fx (p x) s<2:=qJ hs;refine(DL hp hx hs).trans (.rel (.inl ⟨?_,?_⟩))
 .have:rv x<nD ls:=by rw[hN];exact mr (by omega)
  omega
 unfold GZ;rw[show(2*rv x+fx (p x) s)/2=rv x by omega,show(2*rv x+fx (p x) s)%2=fx (p x) s by omega,mq,hp,B3 hs]
def Q0(ls:List Let)(p:Nat->Bool)(x:Nat):Prop:= ∃b,∀s,s<2->cT (KB ls p) (2*x+s) (fx b s)
theorem SV(ls:List Let)(p:Nat->Bool):Q0 ls p 0:=⟨false,fun s _=>by rw[show 2*0+s=s by omega];exact .refl _⟩
theorem Kk(a b:Bool){s:Nat}(h:s<2):fx a (fx b s)=fx (a !=b) s:=by unfold fx;cases a<;>cases b<;>simp;omega
theorem Pt(hp:∀x,p (rv x)=p x){x:Nat}(hx:x<nD ls)(h:Q0 ls p x):Q0 ls p (rv x):=by obtain⟨b,h⟩:=h;refine⟨b !=p x,fun s hs=>?_⟩;have h1:=(DL hp hx (s:=fx (p x) s) (qJ hs)).symm.trans (h (fx (p x) s) (qJ hs));rwa[B3 hs,Kk _ _ hs] at h1
theorem Kg(hp:∀x,p (rv x)=p x){x:Nat}(hx:x<nD ls)(h:Q0 ls p x):Q0 ls p (bU ls x):=by obtain⟨t,h⟩:=h;exact⟨t,fun s hs=>(uG hp hx hs).symm.trans (h s hs)⟩
theorem SW(hp:∀x,p (rv x)=p x){x:Nat}(hx:x<nD ls)(h:Q0 ls p (bU ls x)):Q0 ls p x:=by obtain⟨t,h⟩:=h;exact⟨t,fun s hs=>(uG hp hx hs).trans (h s hs)⟩
theorem Pu(hp:∀x,p (rv x)=p x)(ok:dT F ls){x:Nat}(hx:x<nD ls):Q0 ls p x:=by
 have m:=maps ok;have hN:=uh ls;have hrv:∀y,y<nD ls->rv y<nD ls:=fun y hy=>by rw[hN] at hy ⊢;exact mr hy
 have fwd:∀i,i<ls.length->Q0 ls p (2*i):=by
  intro i
  induction i with
  |zero=>intro _;exact SV ls p
  |succ i ih=>
   intro hi;have h0:=ih (by omega);have h2:2*i<nD ls:=by omega
   have h3:=Kg hp h2 h0;have h4:=m.lt _ h2;have h5:=Kg hp (hrv _ h4) (Pt hp h4 h3);have e:2*i=fR ls.length (i+1) true:=by unfold fR;rw[if_pos rfl,show i+1+ls.length-1=i+ls.length by omega,abX,aaB (by omega)]
   rw[e,ya ok hi] at h5;exact h5
 have str:∀y,y<2*ls.length->Q0 ls p y:=fun y hy=>by
  rcases abL y with c|c
  .rw[show y=2*(y/2) by omega];exact fwd _ (by omega)
  have:=Pt hp (x:=2*(y/2)) (by omega) (fwd (y/2) (by omega));rw[ER] at this;rw[show y=2*(y/2)+1 by omega];exact this
 rcases Nat.lt_or_ge x (2*ls.length) with c|c
 .exact str x c
 exact SW hp hx (str _ (m.ax x hx c))
theorem Hh(g:cD F ls)(hp:∀x,p (rv x)=p x){c:Nat->Bool}(hc:∀x,x<nD ls->c (rv (bU ls x))=(c x !=p x)):¬cT (KB ls p) 0 1:=by
 intro h01;have ok:=g.ok;have hN:=uh ls;have hrv:∀y,y<nD ls->rv y<nD ls:=fun y hy=>by rw[hN] at hy ⊢;exact mr hy
 obtain⟨Zx,ag6⟩:=gH (bU ls) (nD ls);have E:=UG (Hi p (ls.length+(aa ls).length)) (GZ p (bU ls)) (NX ok p) (fun t ht=>by have:=U4 p _ t ht;omega)
 rw[Rc] at E;have K1:K (cT (KB ls p)) (2*nD ls)<=1:=UT fun y hy=>by
  obtain⟨b,ht⟩:=Pu hp ok (x:=y/2) (by omega);have e:=ht (y%2) (by omega);rw[show 2*(y/2)+y%2=y by omega] at e;have hf:fx b (y%2)<2:=qJ (by omega);rcases(by omega:fx b (y%2)=0\/fx b (y%2)=1) with k|k
  .rw[k] at e;exact e
  rw[k] at e;exact e.trans h01.symm
 have K2:2*bb ls<=K (cT (gr (2*nD ls) ((Hi p (ls.length+(aa ls).length)).foldl tr (GZ p (bU ls))))) (2*nD ls):=by
  have hfs:∀w∈bY (bU ls) (nD ls),w≠[]:=fun w hw=>by obtain⟨⟨d,t,e,_⟩,_⟩:=dY ok w hw;rw[e];simp
  have:=TS (R:=gr (2*nD ls) ((Hi p (ls.length+(aa ls).length)).foldl tr (GZ p (bU ls)))) (f:=fun y=>(xP (bY (bU ls) (nD ls)) (y/2),decide (y%2=1))) (n:=2*nD ls)
   (reps:=((bY (bU ls) (nD ls)).map (·.headD 0)).flatMap fun x=>[2*x,2*x+1]) ?_ ?_ ?_
  .rw[Ji,aah] at this;exact this
  .rintro a b ⟨ha,rfl⟩
   rw[QH hp _ (by omega)];have hy:a/2<nD ls:=by omega
   obtain⟨u,hu,hau⟩:=ac9.1 (ag6 _ hy);obtain⟨i,hi⟩:=aaO hu;simp only[show(2*bU ls (a/2)+a%2)/2=bU ls (a/2) by omega,show(2*bU ls (a/2)+a%2)%2=a%2 by omega];rw[nZ Zx hi hau,nZ Zx hi (eT (maps ok) hu hau)]
  .refine Nm fun x hx=>?_;obtain⟨w,hw,rfl⟩:=aan.1 hx;obtain⟨⟨d,t,e,hd⟩,_⟩:=dY ok w hw;rw[e];simp only[List.headD_cons];omega
  refine A6 (g:=xP (bY (bU ls) (nD ls))) (c:=fun _=>false) (fun x=>?_) (fun x=>?_) ?_
  .simp only[show 2*x/2=x by omega,show 2*x%2=0 by omega];simp
  .simp only[show(2*x+1)/2=x by omega,show(2*x+1)%2=1 by omega];simp
  rw[BZ Zx hfs];exact ac6
 have K3:2*(ao Let.aA ls+ao Let.aw ls/2)<=K (cT (gr (2*nD ls) (GZ p (bU ls)))) (2*nD ls):=by
  obtain⟨L,l1,l2,l3⟩:=En ok;have:=TS (R:=gr (2*nD ls) (GZ p (bU ls))) (f:=fun y=>(ss ls (j6 ls (rv (y/2))),(c (rv (y/2))!=decide (y%2=1)))) (n:=2*nD ls)
   (reps:=(L.map (2* ·)).flatMap fun x=>[2*x,2*x+1]) ?_ ?_ ?_
  .rw[Ji,aah,l1] at this;exact this
  .rintro a b ⟨ha,rfl⟩
   have hy:rv (a/2)<nD ls:=hrv _ (by omega);have t1:=(Ep ok hy).1;have t2:=hc _ hy;have hf:fx (p (a/2)) (a%2)<2:=qJ (by omega);unfold GZ;simp only[show(2*bU ls (rv (a/2))+fx (p (a/2)) (a%2))/2=bU ls (rv (a/2)) by omega,show(2*bU ls (rv (a/2))+fx (p (a/2)) (a%2))%2=fx (p (a/2)) (a%2) by omega,t1,t2,hp];rcases abL a with k|k<;>rw[k]<;>cases c (rv (a/2))<;>cases p (a/2)<;>rfl
  .refine Nm fun x hx=>?_;obtain⟨j,hj,rfl⟩:=aan.1 hx;have:=l2 j hj;omega
  refine A6 (g:=fun x=>ss ls (j6 ls (rv x))) (c:=fun x=>c (rv x)) (fun x=>?_) (fun x=>?_) ?_
  .simp only[show 2*x/2=x by omega,show 2*x%2=0 by omega];simp
  .simp only[show(2*x+1)/2=x by omega,show(2*x+1)%2=1 by omega];simp
  rw[abq];have:L.map ((fun x=>ss ls (j6 ls (rv x))) ∘ (2* ·))=L.map (ss ls):=act fun j hj=>by have:=lS (ls:=ls) (l2 j hj) false;simp only[Function.comp_apply,ER];rw[show 2*j+1=fR ls.length j false from rfl,this]
  rw[this];exact l3
 have hPC:=Ia ok;have sE:=jJ (ls:=ls);have hnw:=g.nw;have YV:=ok.cr;unfold dN at YV;simp only[aaf,beq_iff_eq] at YV;have YU:=YV.1.1;have E:K (cT (gr (2*nD ls) ((Hi p (ls.length+(aa ls).length)).foldl tr (GZ p (bU ls))))) (2*nD ls)+K (cT (gr (2*nD ls) (GZ p (bU ls)))) (2*nD ls)<=2*K (cT (KB ls p)) (2*nD ls)+2*(ls.length+(aa ls).length):=E;omega
theorem Tk(g:cD F ls)(hp:∀x,p (rv x)=p x){w:List Nat}(hw:w∈bY (bU ls) (nD ls)){x s:Nat}(hx:x∈w)(hy:y∈w)(hs:s<2):cT (KB ls p) (2*x+s) (2*y+s):=by
 have base:∀a b,cT (fun u v=>cT (KB ls p) (2*u+s) (2*v+s)) a b->cT (KB ls p) (2*a+s) (2*b+s):=by
  intro a b h
  induction h with
  |rel r=>exact r
  |refl a=>exact .refl _
  |symm _ ih=>exact ih.symm
  |trans _ _ i1 i2=>exact i1.trans i2
 exact base _ _ (jM (maps g.ok) (R:=fun u v=>cT (KB ls p) (2*u+s) (2*v+s)) (fun y hy=>.rel (uG hp hy hs)) hw hx hy)
end
section
variable {F:Nat} {ls:List Let}
def DX(ls:List Let)(x:Nat):Bool:=decide (2*ls.length<=x)
def NZ(ls:List Let)(x:Nat):Bool:=if 2*ls.length<=x then x%2==1 else match ls[j6 ls x]? with|some l=>l.aA&&(dn ls (j6 ls x)==(x%2==0))|none=>false
theorem Qy(x:Nat):DX ls (rv x)=DX ls x:=by unfold DX rv;rw[Bool.eq_iff_iff];simp only[decide_eq_true_eq];split<;>omega
theorem CR{l:Let}(hl:ls[v]?=some l)(fw:Bool):NZ ls (fR ls.length v fw)=(l.aA&&(dn ls v==fw)):=by
 have hv:=(aac.1 hl).1;have Ye:=l7 hv fw;unfold NZ;rw[lS hv,hl,if_neg (by omega)];have:(fR ls.length v fw%2==0)=fw:=by unfold fR;cases fw<;>simp
 rw[this]
theorem RX(ok:dT F ls)(hx:x<nD ls):NZ ls (rv (bU ls x))=(NZ ls x !=DX ls x):=by
 unfold nD at hx;rcases Nat.lt_or_ge x (2*ls.length) with c|c
 .have hE:DX ls x=false:=by unfold DX;simp;omega
  rw[hE];have hv:(if x%2=0 then (x/2+1)%ls.length else x/2)<ls.length:=by have:=aat (x/2+1) (show 0<ls.length by omega);split<;>omega
  rw[Aj c];generalize (if x%2=0 then (x/2+1)%ls.length else x/2)=v at hv;generalize (x%2==0)=fw;obtain⟨l,hl⟩:=ai hv;rw[CR hl];rcases ok.kinds l (aab hl) with hp|hc
  .obtain⟨h1,h2⟩:=tB ok hl hp;rw[sM hl hp,hp];by_cases d:(dn ls v==fw)=true
   .rw[if_pos d,d,show 2*ls.length+2*(aa ls).idxOf v=2*(ls.length+(aa ls).idxOf v) by omega,ER];unfold NZ;rw[if_pos (by omega)];have:(2*(ls.length+(aa ls).idxOf v)+1)%2=1:=by omega
    rw[this];rfl
   rw[if_neg d,Bool.eq_false_iff.2 d,show 2*ls.length+2*(((aa ls).idxOf v+(aa ls).length-1)%(aa ls).length)+1=2*(ls.length+((aa ls).idxOf v+(aa ls).length-1)%(aa ls).length)+1 by omega,N6];unfold NZ;rw[if_pos (by omega)];have:(2*(ls.length+((aa ls).idxOf v+(aa ls).length-1)%(aa ls).length))%2=0:=by omega
   rw[this];rfl
  obtain⟨h1,m,hm,mc,mi,mo,ms⟩:=bG ok.cr hl hc;have hp:l.aA=false:=by cases hp:l.aA;rfl;rw[dz hp] at hc;cases hc
  have hq:m.aA=false:=by cases hp:m.aA;rfl;rw[dz hp] at mc;cases mc
  rw[kr hl hc,fK,CR hm,hp,hq];rfl
 have hE:DX ls x=true:=by unfold DX;simpa using c
 rw[hE];rcases abL x with d|d
 .have hk:=aat ((x-2*ls.length)/2+1) (show 0<(aa ls).length by omega);obtain⟨l,hl,hp⟩:=l6 hk;have e:NZ ls x=false:=by unfold NZ;rw[if_pos c,d];rfl
  rw[e,show x=2*ls.length+2*((x-2*ls.length)/2) by omega,qf,fK,Bool.not_not];rw[CR hl,hp];simp
 have hk:(x-2*ls.length)/2<(aa ls).length:=by omega
 obtain⟨l,hl,hp⟩:=l6 hk;have e:NZ ls x=true:=by unfold NZ;rw[if_pos c,d];rfl
 rw[e,show x=2*ls.length+2*((x-2*ls.length)/2)+1 by omega,qh,fK];rw[CR hl,hp];cases dn ls ((aa ls).getD ((x-2*ls.length)/2) 0)<;>rfl
abbrev axR(ls:List Let):Nat->Nat->Prop:=KB ls (DX ls)
theorem Ao(g:cD F ls){s:Nat}(hx:x<2*ls.length)(hs:s<2):cT (axR ls) (2*x+s) (fx (dn ls (x/2+1)!=dn ls 1) s):=by
 have ok:=g.ok;have m:=maps ok;have hN:=uh ls;have hp:=Qy (ls:=ls);have str:∀y,y<2*ls.length->DX ls y=false:=fun y hy=>by unfold DX;simp;omega
 have fwd:∀i,i<ls.length->∀s,s<2->cT (axR ls) (2*(2*i)+s) (fx (dn ls (i+1)!=dn ls 1) s):=by
  intro i
  induction i with
  |zero=>intro _ s _;simp only[aa0];cases dn ls 1<;>(rw[show 2*(2*0)+s=s by omega];exact .refl _)
  |succ i ih=>
   intro hi s hs;obtain⟨l,hl⟩:=ai hi;have e:2*i=fR ls.length (i+1) true:=by unfold fR;rw[if_pos rfl,show i+1+ls.length-1=i+ls.length by omega,abX,aaB (by omega)]
   have Yz:=ya ok hi true;rw[<- e] at Yz;have h2:2*i<nD ls:=by omega
   have h4:=m.lt _ h2;have h6:rv (bU ls (2*i))<nD ls:=by rw[hN] at h4 ⊢;exact mr h4
   have step:∀t,t<2->cT (axR ls) (2*(2*i)+t) (2*(2*(i+1))+fx (DX ls (bU ls (2*i))) t):=fun t ht=>by have a1:=uG hp h2 ht;have a2:=DL hp h4 ht;have a3:=uG hp h6 (s:=fx (DX ls (bU ls (2*i))) t) (qJ ht);rw[Yz] at a3;exact a1.trans (a2.trans a3)
   have h7:=(step (fx (DX ls (bU ls (2*i))) s) (qJ hs)).symm.trans (ih (by omega) (fx (DX ls (bU ls (2*i))) s) (qJ hs));rw[B3 hs,Kk _ _ hs] at h7;rcases ok.kinds l (aab hl) with Yu|hc
   .have h1:=(tB ok hl Yu).1;have hx:DX ls (bU ls (2*i))=true:=by
     rw[e,sM hl Yu];unfold DX;simp only[decide_eq_true_eq];split<;>omega
    rw[hx] at h7;rw[qM hl Yu];have:((dn ls (i+1)!=dn ls 1)!=true)=((!dn ls (i+1))!=dn ls 1):=by cases dn ls (i+1)<;>cases dn ls 1<;>rfl
    rw[this] at h7;exact h7
   obtain⟨_,w,hw,mc,_,_,_⟩:=bG ok.cr hl hc;have Yu:l.aA=false:=by cases hp:l.aA;rfl;rw[dz hp] at hc;cases hc
   have hx:DX ls (bU ls (2*i))=false:=by rw[e,kr hl hc];exact str _ (jL (aac.1 hw).1)
   rw[hx] at h7;rw[rV hl Yu];have:((dn ls (i+1)!=dn ls 1)!=false)=(dn ls (i+1)!=dn ls 1):=by cases dn ls (i+1)<;>cases dn ls 1<;>rfl
   rw[this] at h7;exact h7
 rcases abL x with c|c
 .have:=fwd (x/2) (by omega) s hs;rwa[show 2*(x/2)=x by omega] at this
 have h1:=fwd (x/2) (by omega) s hs;have h2:=DL (ls:=ls) hp (x:=2*(x/2)) (by omega) hs;rw[ER,str _ (by omega)] at h2;have h3:fx false s=s:=rfl;rw[h3,show 2*(x/2)+1=x by omega] at h2;exact h2.symm.trans h1
theorem Bj(g:cD F ls){w:List Nat}(hw:w∈bY (bU ls) (nD ls))(hx:x∈w)(hy:y∈w)(h1:x<2*ls.length)(h2:y<2*ls.length):dn ls (x/2+1)=dn ls (y/2+1):=by have hp:=Qy (ls:=ls);have e0:=Tk (p:=DX ls) g hp hw hx hy (s:=0) (by decide);have e1:=Ao g h1 (s:=0) (by decide);have e2:=Ao g h2 (s:=0) (by decide);have e3:=e1.symm.trans (e0.trans e2);have no:¬cT (axR ls) 0 1:=Hh g hp (c:=NZ ls) fun x hx=>RX g.ok hx;revert e3;cases dn ls (x/2+1)<;>cases dn ls (y/2+1)<;>cases dn ls 1<;>intro e3<;>first|rfl|exact absurd e3 no|exact absurd e3.symm no
end
theorem Nj{next:Nat->Nat}(m:Av next n2 N){α:Type}{φ:Nat->α}(hφ:∀x,x<N->φ (next x)=φ x){reps:List Nat}(hr:∀x∈reps,x<N)(hn:(reps.map φ).Nodup):reps.length<=(bY next N).length:=by
 have aca:=gH next N;have hin:∀x,x<N->∃(i:Nat) (w:List Nat),(bY next N)[i]?=some w/\x∈w/\xP (bY next N) x=i:=fun x hx=>by obtain⟨w,hw,hxw⟩:=ac9.1 (aca.2 x hx);obtain⟨i,hi⟩:=aaO hw;exact⟨i,w,hi,hxw,nZ aca.1 hi hxw⟩
 have aoR:∀a b,cT (fun x y=>x<N/\y=next x) a b->φ a=φ b:=fun a b h=>by
  induction h with
  |rel h=>rw[h.2,hφ _ h.1]
  |refl _=>rfl
  |symm _ ih=>exact ih.symm
  |trans _ _ h1 h2=>exact h1.trans h2
 have Z5:∀x,x<N->∀y,y<N->xP (bY next N) x=xP (bY next N) y->φ x=φ y:=fun x hx y hy e=>by obtain⟨i,w,hi,hxw,e1⟩:=hin x hx;obtain⟨j,v,hj,hyv,e2⟩:=hin y hy;rw[e1,e2] at e;subst e;rw[hi] at hj;cases hj;exact aoR x y (jM m (R:=fun x y=>x<N/\y=next x) (fun z hz=>.rel ⟨hz,rfl⟩) (aab hi) hxw hyv)
 have h1:(reps.map (xP (bY next N))).Nodup:=by unfold List.Nodup at hn ⊢;rw[acu] at hn ⊢;refine hn.imp_of_mem fun {x y} hx hy h e=>?_;exact h (Z5 x (hr x hx) y (hr y hy) e)
 have h2:∀i∈reps.map (xP (bY next N)),i∈List.range (bY next N).length:=fun i hi=>by obtain⟨x,hx,rfl⟩:=aan.1 hi;obtain⟨i,w,hi,_,e⟩:=hin x (hr x hx);rw[e];exact aav.2 (aac.1 hi).1
 have:=rh _ _ h1 h2;rwa[aah,acm] at this
end
end Go.Abs
