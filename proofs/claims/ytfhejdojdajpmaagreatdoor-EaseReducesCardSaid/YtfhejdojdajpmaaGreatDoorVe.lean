/-
  Walks around faces.
-/
import Derived.Test.YtfhejdojdajpmaaGreatDoorWs
set_option linter.all false
set_option maxHeartbeats 16000000
namespace Go.Abs
section
variable{n n2 v x:Nat}{f:Fc}
theorem OU{S:List Bool}(h:sn S x=false):x<S.length:=by
 rcases Mh x S.length with h1|h1
 .exact h1
 rw[sn,cU,nV h1] at h;cases h
theorem afm(next:Nat->Nat):∀(k x:Nat) (S:List Bool),(∀y∈(eD next k x S).1,sn S y=false)/\(eD next k x S).1.Nodup/\ ∀y,sn (eD next k x S).2 y=(sn S y||decide (y∈(eD next k x S).1)):=by
 intro k
 induction k with
 |zero=>intro x S;simp[eD]
 |succ k ih=>
  intro x S;unfold eD;cases hx:S.getD x true with
  |true=>simp
  |false=>
   have hl:=OU (S:=S) (x:=x) hx;obtain⟨h1,h2,h3⟩:=ih (next x) (S.set x true);simp only[eH,if_false];have jl:∀y,sn (S.set x true) y=if y=x then true else sn S y:=fun y=>LI hl;refine⟨fun y hy=>?_,?_,fun y=>?_⟩
   .rcases dh.1 hy with rfl|hy
    .exact hx
    have:=h1 y hy;rw[jl] at this;split at this
    .cases this
    exact this
   .refine qj.2 ⟨fun hm=>?_,h2⟩;have:=h1 x hm;rw[jl,aE rfl] at this;cases this
   rw[h3,jl];by_cases e:y=x
   .subst e;simp
   rw[aD e];have:decide (y∈x::(eD next k (next x) (S.set x true)).1)=decide (y∈(eD next k (next x) (S.set x true)).1):=by simp[e]
   rw[this]
theorem arP(next:Nat->Nat)(N:Nat):∀k,(dt next N k).1.flatten.Nodup/\(∀y,y<N->sn (dt next N k).2 y=decide (y∈(dt next N k).1.flatten))/\(∀y∈(dt next N k).1.flatten,y<N)/\ ∀x,x<k->x<N->sn (dt next N k).2 x=true:=by
 intro k
 induction k with
 |zero=>refine⟨by simp[dt],fun y hy=>?_,by simp[dt],fun x hx=>absurd hx (mv x)⟩;have:(dt next N 0).2=List.replicate N false:=rfl;rw[this,Vy hy];simp[dt]
 |succ k ih=>
  obtain⟨h1,h2,h4,h3⟩:=ih;rw[wW];unfold tq;have hlen:=Fq next N k;cases hk:(dt next N k).2.getD k true with
  |true=>
   rw[aE rfl];refine⟨h1,h2,h4,fun x hx zj=>?_⟩;rcases kB.1 hx with h|rfl
   .exact h3 x h zj
   exact hk
  |false=>
   rw[aD ae];have hkN:k<N:=by have:=OU (S:=(dt next N k).2) hk;omega
   obtain⟨g1,g2,g3⟩:=afm next ((dt next N k).2.length+1) k (dt next N k).2;have TD:=afl next ((dt next N k).2.length+1) k (dt next N k).2 (by have:=Ix (dt next N k).2;omega);refine⟨?_,fun y hy=>?_,?_,fun x hx zj=>?_⟩
   .rw[BG,FD];refine⟨h1,by simpa using g2,fun y hy z hz=>?_⟩;rintro rfl
    have e1:=g1 y (by simpa using hz);have hyN:=h4 y hy;rw[h2 y hyN] at e1;simp[hy] at e1
   .rw[g3,h2 y hy,BG,yD];simp
   .intro y hy;rw[BG,fi] at hy;rcases hy with hy|hy
    .exact h4 y hy
    have:=OU (g1 y (by simpa using hy));omega
   rcases kB.1 hx with h|rfl
   .rw[g3,h3 x h zj];rfl
   exact TD
theorem Fs(next:Nat->Nat)(N:Nat):(dR next N).flatten.Nodup/\ ∀y,y<N->y∈(dR next N).flatten:=by obtain⟨h1,h2,_,h3⟩:=arP next N N;refine⟨h1,fun y hy=>?_⟩;have:=h3 y hy hy;rw[h2 y hy] at this;exact qk this
theorem ac6{L:List (List Nat)}(h:L.flatten.Nodup){i j:Nat}{a b:List Nat}(hi:L[i]?=some a)(hj:L[j]?=some b)(ha:x∈a)(hb:x∈b):i=j:=by
 induction L generalizing i j with
 |nil=>simp at hi
 |cons l L ih=>
  rw[kX,FD] at h;obtain⟨_,h2,h3⟩:=h;cases i with
  |zero=>
   simp at hi;subst hi;cases j with
   |zero=>rfl
   |succ j=>simp at hj;exact absurd rfl (h3 x ha x (FC.2 ⟨b,aW hj,hb⟩))
  |succ i=>
   simp at hi;cases j with
   |zero=>simp at hj;subst hj;exact absurd rfl (h3 x hb x (FC.2 ⟨a,aW hi,ha⟩))
   |succ j=>simp at hj;rw[ih h2 hi hj]
section
variable {F:Nat} {ls:List Let}
theorem ZH{j:Nat}(h:(de F ls)[j]?=some f):∃w,(dR (aV ls) (nD ls))[j]?=some w/\f=iH F ls w:=by
 unfold de at h;rw[gh] at h;cases hw:(dR (aV ls) (nD ls))[j]? with
 |none=>rw[hw] at h;cases h
 |some w=>rw[hw] at h;cases h;exact⟨w,rfl,rfl⟩
theorem Yc{i j:Nat}{a b:Fc}{d:Nat}(hi:(de F ls)[i]?=some a)(hj:(de F ls)[j]?=some b)(ha:d∈a.bj)(hb:d∈b.bj):i=j:=by obtain⟨v,hv,rfl⟩:=ZH hi;obtain⟨w,hw,rfl⟩:=ZH hj;rw[D0] at ha hb;exact ac6 (Fs _ _).1 hv hw (uA.1 ha).1 (uA.1 hb).1
theorem Yd(h:f∈de F ls):f.bj.Nodup:=by obtain⟨w,hw,rfl⟩:=dy.1 h;rw[D0];have:=(Fs (aV ls) (nD ls)).1;exact List.Pairwise.sublist List.filter_sublist (List.Pairwise.sublist (List.sublist_flatten_of_mem hw) this)
theorem aip{d:Nat}(hd:d<2*ls.length):∃(j:Nat) (f:Fc),(de F ls)[j]?=some f/\d∈f.bj:=by
 have:=(Fs (aV ls) (nD ls)).2 d (by unfold nD;omega);obtain⟨w,hw,hdw⟩:=FC.1 this;obtain⟨j,hj⟩:=gH hw;have lD:(de F ls)[j]?=some (iH F ls w):=by unfold de;rw[gh,hj];rfl
 refine⟨j,iH F ls w,lD,?_⟩;rw[D0];exact uA.2 ⟨hdw,by simpa using hd⟩
theorem aes{ds:List Nat}{d:Nat}:∀ {L:List Nat},d<L.length->(mW L ds v)[d]?=if d∈ds then some v else L[d]? :=by
 induction ds with
 |nil=>intro L _;simp[mW]
 |cons e ds ih=>
  intro L hd;show(mW (L.set e v) ds v)[d]?=_;rw[ih (by simpa using hd),nW];by_cases h1:d∈ds
  .simp[h1]
  by_cases h2:e=d
  .subst h2;simp[hd]
  have:d≠e:=fun h=>h2 h.symm;simp[h1,h2,this]
theorem amq{d:Nat}:∀ {fs:List Fc} {j:Nat} {L:List Nat},d<L.length->(∀f∈fs,d∉f.bj)->(oL fs j L)[d]?=L[d]? :=by
 intro fs
 induction fs with
 |nil=>intro j L _ _;rfl
 |cons f fs ih=>intro j L hd h;show(oL fs (j+1) (mW L f.bj j))[d]?=_;rw[ih (by rw[LD];exact hd) fun g hg=>h g (by simp[hg]),aes hd,aD (h f af)]
theorem amp{d:Nat}:∀ {fs:List Fc} {j i:Nat} {L:List Nat} {f:Fc},d<L.length->fs[i]?=some f->d∈f.bj->(∀i' f',fs[i']?=some f'->d∈f'.bj->i'=i)->(oL fs j L)[d]?=some (j+i):=by
 intro fs
 induction fs with
 |nil=>intro j i L f _ h;simp at h
 |cons g fs ih=>
  intro j i L f hd hi hf hu;show(oL fs (j+1) (mW L g.bj j))[d]?=_;cases i with
  |zero=>
   simp at hi;subst hi;rw[amq (by rw[LD];exact hd),aes hd,aE hf]
   .rfl
   intro f' Cs xQ;obtain⟨i',xW⟩:=gH Cs;have:=hu (i'+1) f' (by simpa using xW) xQ;omega
  |succ i=>simp at hi;rw[ih (by rw[LD];exact hd) hi hf fun i' f' h1 h2=>by have:=hu (i'+1) f' (by simpa using h1) h2;omega];congr 1;omega
theorem left_at{d j:Nat}(hd:d<2*ls.length)(hf:(de F ls)[j]?=some f)(hm:d∈f.bj):(mS F ls)[d]?=some j:=by unfold mS;rw[amp (by simpa using hd) hf hm fun i' f' h1 h2=>Yc h1 hf h2 hm];congr 1;omega
theorem M5{d:Nat}(hd:d<2*ls.length):∃j,(de F ls)[j]?=some (jJ F ls d)/\d∈(jJ F ls d).bj/\(mS F ls)[d]?=some j:=by
 obtain⟨j,f,hf,hm⟩:=aip (F:=F) hd;have hl:=left_at hd hf hm;have e:jJ F ls d=f:=by unfold jJ;rw[cU (l:=mS F ls),hl,kE,cU,hf,kE]
 exact⟨j,e▸hf,e▸hm,hl⟩
theorem ZE{d:Nat}(hd:d<2*ls.length)(hf:f∈de F ls)(hm:d∈f.bj):jJ F ls d=f:=by obtain⟨j,h1,h2,_⟩:=M5 (F:=F) hd;obtain⟨i,hi⟩:=gH hf;have:=Yc hi h1 hm h2;subst this;rw[h1] at hi;cases hi;rfl
theorem M6{d:Nat}(hd:d<2*ls.length):jJ F ls d∈de F ls:=by obtain⟨j,h1,_⟩:=M5 (F:=F) hd;exact aW h1
def Bn(pl:Nat)(edges:List Nat)(f:Fc):Bool:=(f.bj.length==edges.length)&&((f.places.length==pl)&&edges.all fun e=> !(decide (2*e∈f.bj)==decide (2*e+1∈f.bj)))
def Bo(F:Nat)(ls:List Let)(pl:Nat)(edges:List Nat):Bool:=(de F ls).any (Bn pl edges)
theorem air(h:f.bj.Nodup)(e:Nat):sP f e=(if 2*e∈f.bj then 1 else 0)+(if 2*e+1∈f.bj then 1 else 0):=by
 unfold sP;generalize f.bj=D at h
 induction D with
 |nil=>simp
 |cons d D ih=>
  obtain⟨h1,h2⟩:=qj.1 h;rw[uy,ih h2];by_cases e1:d=2*e
  .subst e1;have:(2*e/2==e)=true:=af;have e3:¬(2*e+1=2*e):=aa;simp[h1];omega
  by_cases e2:d=2*e+1
  .subst e2;have:((2*e+1)/2==e)=true:=by simp;omega
   have e3:¬(2*e=2*e+1):=aa;simp[this,h1]
  have:(d/2==e)=false:=by simp;omega
  have e3:¬(2*e=d):=fun h=>e1 h.symm;have e4:¬(2*e+1=d):=fun h=>e2 h.symm;simp[this,e3,e4]
theorem XV(h:f.bj.Nodup)(pl:Nat)(edges:List Nat):tH f pl edges=Bn pl edges f:=by unfold tH Bn;congr 2;refine List.all_congr rfl fun e=>?_;rw[air h];by_cases h1:2*e∈f.bj<;>by_cases h2:2*e+1∈f.bj<;>simp[h1,h2]
theorem aib{pl:Nat}{edges:List Nat}{e0:Nat}(h0:edges[0]?=some e0)(he0:e0<ls.length):lW F ls pl edges e0=Bo F ls pl edges:=by
 unfold lW Bo;have m1:=M6 (F:=F) (ls:=ls) (d:=2*e0) aa;have m2:=M6 (F:=F) (ls:=ls) (d:=2*e0+1) aa;rw[XV (Yd m1),XV (Yd m2),yD,oY,IK];constructor
 .rintro (h|h)
  .exact⟨_,m1,h⟩
  exact⟨_,m2,h⟩
 rintro ⟨f,hf,h⟩
 have hm:=h;unfold Bn at hm;simp only[cE,ij] at hm;have:=hm.2.2 e0 (aW h0);by_cases h1:2*e0∈f.bj
 .left;rw[ZE aa hf h1];exact h
 by_cases h2:2*e0+1∈f.bj
 .right;rw[ZE aa hf h2];exact h
 simp[h1,h2] at this
end
inductive bh (R:Nat->Nat->Prop):Nat->Nat->Prop
 |rel {a b:Nat}:R a b->bh R a b
 |refl (a:Nat):bh R a a
 |symm {a b:Nat}:bh R a b->bh R b a
 |trans {a b c:Nat}:bh R a b->bh R b c->bh R a c
theorem bh.mono{R R':Nat->Nat->Prop}(h:∀a b,R a b->bh R' a b){y:Nat}(e:bh R x y):bh R' x y:=by
 induction e with
 |rel r=>exact h _ _ r
 |refl a=>exact .refl a
 |symm _ ih=>exact .symm ih
 |trans _ _ i1 i2=>exact .trans i1 i2
theorem bh.inv{R:Nat->Nat->Prop}{α:Type}{f:Nat->α}(h:∀a b,R a b->f a=f b){y:Nat}(e:bh R x y):f x=f y:=by
 induction e with
 |rel r=>exact h _ _ r
 |refl a=>rfl
 |symm _ ih=>exact ih.symm
 |trans _ _ i1 i2=>exact i1.trans i2
def ld (E:Nat->Nat->Prop)(x:Nat):Prop:=∀y,E x y->x<=y
noncomputable def zo (E:Nat->Nat->Prop) (x:Nat):Bool:= @decide (ld E x) (Classical.propDecidable _)
theorem HE{E:Nat->Nat->Prop}:zo E x=true↔ld E x:=by unfold zo;exact @decide_eq_true_iff _ (Classical.propDecidable _)
noncomputable def K (E:Nat->Nat->Prop) (n:Nat):Nat:=(List.range n).countP (zo E)
theorem FL{E E':Nat->Nat->Prop}(h:∀x y,E x y↔E' x y)(n:Nat):K E n=K E' n:=by have:E=E':=funext fun x=>funext fun y=>propext (h x y);rw[this]
theorem YD{p:Nat->Prop}:∀n,p n->∃m,p m/\ ∀k,p k->m<=k:=by
 intro n
 induction n using Nat.strongRecOn with
 |ind n ih=>
  intro h;rcases Classical.em (∃k,k<n/\p k) with ⟨k,hk,hp⟩|dm
  .exact ih k hk hp
  exact⟨n,h,fun k hk=>afV fun au=>dm ⟨k,au,hk⟩⟩
theorem Us(R:Nat->Nat->Prop)(x:Nat):∃m,bh R x m/\ld (bh R) m/\m<=x:=by obtain⟨m,h1,h2⟩:=YD (p:=fun y=>bh R x y) x (.refl x);exact⟨m,h1,fun y hy=>h2 y (h1.trans hy),h2 x (.refl x)⟩
theorem aid{p:Nat->Bool}(hp:p x=true):∀ {l:List Nat},l.Nodup->x∈l->l.countP p=l.countP (fun y=>p y&&y !=x)+1:=by
 intro l
 induction l with
 |nil=>intro _ h;cases h
 |cons a l ih=>
  intro hn hm;obtain⟨h1,h2⟩:=qj.1 hn;rw[uy,uy];by_cases e:a=x
  .subst e;have hc:l.countP p=l.countP (fun y=>p y&&y !=a):=Pq fun y hy=>by
    have:(y !=a)=true:=by simp;rintro rfl;exact h1 hy
    simp[this]
   simp[hp,hc]
  have hx:x∈l:=by rcases dh.1 hm with h|h;exact absurd h.symm e;exact h
  rw[ih h2 hx];have:(a !=x)=true:=by simp[e]
  simp only[this,zU];omega
abbrev o9(R:Nat->Nat->Prop)(a b:Nat)(x y:Nat):Prop:=R x y\/(x=a/\y=b)
theorem DY{R:Nat->Nat->Prop}{a b y:Nat}:bh (o9 R a b) x y↔bh R x y\/(bh R x a/\bh R b y)\/(bh R x b/\bh R a y):=by
 constructor
 .intro h
  induction h with
  |rel r=>
   rcases r with r|⟨rfl,rfl⟩
   .exact .inl (.rel r)
   exact .inr (.inl ⟨.refl _,.refl _⟩)
  |refl a=>exact .inl (.refl a)
  |symm _ ih=>
   rcases ih with h|⟨h1,h2⟩|⟨h1,h2⟩
   .exact .inl h.symm
   .exact .inr (.inr ⟨h2.symm,h1.symm⟩)
   exact .inr (.inl ⟨h2.symm,h1.symm⟩)
  |trans _ _ i1 i2=>
   rcases i1 with h|⟨h1,h2⟩|⟨h1,h2⟩<;>rcases i2 with k|⟨k1,k2⟩|⟨k1,k2⟩
   .exact .inl (h.trans k)
   .exact .inr (.inl ⟨h.trans k1,k2⟩)
   .exact .inr (.inr ⟨h.trans k1,k2⟩)
   .exact .inr (.inl ⟨h1,h2.trans k⟩)
   .exact .inr (.inl ⟨h1,k2⟩)
   .exact .inl (h1.trans k2)
   .exact .inr (.inr ⟨h1,h2.trans k⟩)
   .exact .inl (h1.trans k2)
   exact .inr (.inr ⟨h1,k2⟩)
 have up:∀ {u v},bh R u v->bh (o9 R a b) u v:=fun h=>h.mono fun _ _ r=>.rel (.inl r);have ab:bh (o9 R a b) a b:=.rel (.inr ⟨rfl,rfl⟩);rintro (h|⟨h1,h2⟩|⟨h1,h2⟩)
 .exact up h
 .exact(up h1).trans (ab.trans (up h2))
 exact(up h1).trans (ab.symm.trans (up h2))
theorem PI{R:Nat->Nat->Prop}{a b:Nat}(h:bh R a b)(n:Nat):K (bh (o9 R a b)) n=K (bh R) n:=by
 refine FL (fun x y=>?_) n;rw[DY];constructor
 .rintro (k|⟨h1,h2⟩|⟨h1,h2⟩)
  .exact k
  .exact h1.trans (h.trans h2)
  exact h1.trans (h.symm.trans h2)
 exact .inl
theorem WB{E E':Nat->Nat->Prop}{m:Nat}(hm:m<n)(h0:ld E m)(h:∀x,ld E' x↔ld E x/\x≠m):K E n=K E' n+1:=by unfold K;rw[aid (p:=zo E) (x:=m) (HE.2 h0) DF (fJ.2 hm)];congr 1;refine Pq fun x _=>?_;rw[HE,h,cE,HE];simp
theorem PH{R:Nat->Nat->Prop}{a b:Nat}(ha:a<n)(hb:b<n)(h:¬bh R a b):K (bh R) n=K (bh (o9 R a b)) n+1:=by
 obtain⟨p,p1,p2,p3⟩:=Us R a;obtain⟨q,q1,q2,q3⟩:=Us R b;have hpq:p≠q:=fun e=>h (p1.trans (e▸q1.symm));rcases afW hpq with c|c
 .refine WB (m:=q) aa q2 fun x=>⟨fun hx=>⟨fun y hy=>hx y (DY.2 (.inl hy)),?_⟩,fun⟨hx,hxq⟩ y hy=>?_⟩
  .rintro rfl
   have:=hx p (DY.2 (.inr (.inr ⟨q1.symm,p1⟩)));omega
  rcases DY.1 hy with hy|⟨h1,h2⟩|⟨h1,h2⟩
  .exact hx y hy
  .have e1:=hx p (h1.trans p1);have e2:=q2 y (q1.symm.trans h2);omega
  have e1:=hx q (h1.trans q1);have e2:=q2 x (q1.symm.trans h1.symm);omega
 refine WB (m:=p) aa p2 fun x=>⟨fun hx=>⟨fun y hy=>hx y (DY.2 (.inl hy)),?_⟩,fun⟨hx,hxq⟩ y hy=>?_⟩
 .rintro rfl
  have:=hx q (DY.2 (.inr (.inl ⟨p1.symm,q1⟩)));omega
 rcases DY.1 hy with hy|⟨h1,h2⟩|⟨h1,h2⟩
 .exact hx y hy
 .have e1:=hx p (h1.trans p1);have e2:=p2 x (p1.symm.trans h1.symm);omega
 have e1:=hx q (h1.trans q1);have e2:=p2 y (p1.symm.trans h2);omega
theorem WC{R:Nat->Nat->Prop}{α:Type}{f:Nat->α}(h:∀a b,R a b->f a=f b){reps:List Nat}(hr:∀x∈reps,x<n)(hn:(reps.map f).Nodup):reps.length<=K (bh R) n:=by
 have key:∀reps:List Nat,(∀x∈reps,x<n)->(reps.map f).Nodup->∃L:List Nat,L.length=reps.length/\L.Nodup/\(∀m∈L,m<n/\ld (bh R) m)/\ ∀m∈L,f m∈reps.map f:=by
  intro reps
  induction reps with
  |nil=>intro _ _;exact⟨[],rfl,w8,af,af⟩
  |cons a r ih=>
   intro hr hn;rw[eE,qj] at hn;obtain⟨L,l1,l2,l3,l4⟩:=ih (fun x hx=>hr x (by simp[hx])) hn.2;obtain⟨m,m1,m2,m3⟩:=Us R a;have hfm:f m=f a:=(m1.inv h).symm;have ha:=hr a af;refine⟨m::L,by simp[l1],qj.2 ⟨fun hm=>hn.1 (hfm▸l4 m hm),l2⟩,fun x hx=>?_,fun x hx=>?_⟩
   .rcases dh.1 hx with rfl|hx
    .exact⟨aa,m2⟩
    exact l3 x hx
   rcases dh.1 hx with rfl|hx
   .rw[hfm];simp
   rw[eE];exact vB _ (l4 x hx)
 obtain⟨L,l1,l2,l3,_⟩:=key reps hr hn;rw[<- l1];unfold K;rw[Pr];have sub:∀(L M:List Nat),L.Nodup->(∀x∈L,x∈M)->L.length<=M.length:=by
  intro L
  induction L with
  |nil=>intro M _ _;exact bn _
  |cons a L ih=>intro M hn hs;obtain⟨h1,h2⟩:=qj.1 hn;have ha:=hs a af;have:=ih (M.erase a) h2 fun x hx=>(Wn (by rintro rfl;exact h1 hx)).2 (hs x (by simp[hx]));rw[Wl ha] at this;have:0<M.length:=Mc ha;simp only[dp];omega
 exact sub L _ l2 fun x hx=>uA.2 ⟨fJ.2 (l3 x hx).1,HE.2 (l3 x hx).2⟩
theorem afZ{R:Nat->Nat->Prop}(h:∀x,x<n->bh R x 0):K (bh R) n<=1:=by
 unfold K;have hz:∀x∈List.range n,zo (bh R) x=true->x=0:=fun x hx hl=>by have:=HE.1 hl 0 (h x (fJ.1 hx));omega
 have:∀l:List Nat,l.Nodup->(∀x∈l,zo (bh R) x=true->x=0)->l.countP (zo (bh R))<=1:=by
  intro l
  induction l with
  |nil=>intro _ _;simp
  |cons a l ih=>
   intro hn hl;obtain⟨h1,h2⟩:=qj.1 hn;rw[uy];by_cases c:zo (bh R) a=true
   .have ha:=hl a af c;subst ha;have:l.countP (zo (bh R))=0:=IL.2 fun x hx yj=>h1 (by have:=hl x (by simp[hx]) yj;subst this;exact hx);simp[c,this]
   have:=ih h2 fun x hx=>hl x (by simp[hx]);simp[c,this]
 exact this _ DF hz
structure Perm (n:Nat) (p:Nat->Nat):Prop where
 lt:∀x,x<n->p x<n
 inj:∀x y,x<n->y<n->p x=p y->x=y
abbrev gr(n:Nat)(p:Nat->Nat)(x y:Nat):Prop:=x<n/\y=p x
def tr (p:Nat->Nat)(t:Nat×Nat)(x:Nat):Nat:=if x=t.1 then p t.2 else if x=t.2 then p t.1 else p x
theorem O7(p:Nat->Nat)(a b x:Nat):tr p (a,b) x=p (if x=a then b else if x=b then a else x):=by
 unfold tr;simp only;split
 .rfl
 split<;>rfl
theorem Perm.tr{p:Nat->Nat}(h:Perm n p){a b:Nat}(ha:a<n)(hb:b<n):Perm n (tr p (a,b)):=by
 have hs:∀x,x<n->(if x=a then b else if x=b then a else x)<n:=fun x hx=>by split<;>(try split)<;>assumption
 refine⟨fun x hx=>by rw[O7];exact h.lt _ (hs x hx),fun x y hx hy e=>?_⟩;rw[O7,O7] at e;have e:=h.inj _ _ (hs x hx) (hs y hy) e;by_cases x1:x=a
 .rw[aE x1] at e;by_cases y1:y=a
  .omega
  rw[aD y1] at e;split at e<;>omega
 rw[aD x1] at e;by_cases y1:y=a
 .rw[aE y1] at e;split at e<;>omega
 rw[aD y1] at e;split at e<;>split at e<;>omega
def it (p:Nat->Nat):Nat->Nat->Nat
 |0,x=>x
 |k+1,x=>p (it p k x)
theorem Perm.EO{p:Nat->Nat}(h:Perm n p)(hx:x<n):∀k,it p k x<n:=by
 intro k
 induction k with
 |zero=>exact hx
 |succ k ih=>exact h.lt _ ih
theorem Perm.back{p:Nat->Nat}(h:Perm n p)(hx:x<n):∀i j,it p (i+j) x=it p i x->it p j x=x:=by
 intro i
 induction i with
 |zero=>intro j e;rw[jt] at e;exact e
 |succ i ih=>intro j e;rw[show i+1+j=(i+j)+1 by omega] at e;exact ih j (h.inj _ _ (h.EO hx _) (h.EO hx _) e)
theorem LQ:∀(L M:List Nat),L.Nodup->(∀x∈L,x∈M)->L.length<=M.length:=by
 intro L
 induction L with
 |nil=>intro M _ _;exact bn _
 |cons a L ih=>intro M hn hs;obtain⟨h1,h2⟩:=qj.1 hn;have ha:=hs a af;have:=ih (M.erase a) h2 fun x hx=>(Wn (by rintro rfl;exact h1 hx)).2 (hs x (by simp[hx]));rw[Wl ha] at this;have:0<M.length:=Mc ha;simp only[dp];omega
theorem Perm.X5{p:Nat->Nat}(h:Perm n p)(hx:x<n):∃m,it p (m+1) x=x:=by
 apply Classical.byContradiction;intro dm;have key:∀k,((List.range k).map fun i=>it p i x).Nodup:=by
  intro k
  induction k with
  |zero=>simp
  |succ k ih=>rw[rH,km,FD];refine⟨ih,af,fun a ha b hb=>?_⟩;obtain⟨i,hi,rfl⟩:=dy.1 ha;have hi:=fJ.1 hi;simp only[eE,kZ,rF] at hb;subst hb;intro e;have:=h.back hx i (k-i) (by rw[show i+(k-i)=k by omega];exact e.symm);exact dm ⟨k-i-1,by rw[show k-i-1+1=k-i by omega];exact this⟩
 have:=LQ _ (List.range n) (key (n+1)) fun y hy=>by obtain⟨i,_,rfl⟩:=dy.1 hy;exact fJ.2 (h.EO hx i)
 rw[cG,BK,BK] at this;omega
theorem abn(p:Nat->Nat)(x:Nat):∀k,it p (k+1) x=it p k (p x):=by
 intro k
 induction k with
 |zero=>rfl
 |succ k ih=>show p (it p (k+1) x)=p (it p k (p x));rw[ih]
theorem ae7{p:Nat->Nat}(h:Perm n p){a b:Nat}(ha:a<n)(hb:b<n)(ef:¬bh (gr n p) a b):bh (gr n (tr p (a,b))) a b:=by
 obtain⟨m,hm⟩:=h.X5 hb;have e0:tr p (a,b) a=p b:=by unfold tr;rw[aE rfl]
 have dM:∀k,bh (gr n p) b (it p k b):=by
  intro k
  induction k with
  |zero=>exact .refl _
  |succ k ih=>exact ih.trans (.rel ⟨h.EO hb k,rfl⟩)
 have key:∀k,bh (gr n (tr p (a,b))) a b\/bh (gr n (tr p (a,b))) a (it p k (p b)):=by
  intro k
  induction k with
  |zero=>exact .inr (.rel ⟨ha,e0.symm⟩)
  |succ k ih=>
   rcases ih with ih|ih
   .exact .inl ih
   by_cases c:it p k (p b)=b
   .rw[c] at ih;exact .inl ih
   refine .inr (ih.trans (.rel ⟨h.EO (h.lt _ hb) k,?_⟩));have na:it p k (p b)≠a:=fun e=>ef (by have:=dM (k+1);rw[abn,e] at this;exact this.symm)
   unfold tr;rw[aD na,aD c];rfl
 rcases key m with k|k
 .exact k
 rw[<- abn,hm] at k;exact k
theorem PY{p:Nat->Nat}{a b:Nat}(ha:a<n)(hb:b<n){S:Nat->Nat->Prop}{x y:Nat}:bh (o9 (fun x y=>gr n (tr p (a,b)) x y\/S x y) a b) x y↔bh (o9 (fun x y=>gr n p x y\/S x y) a b) x y:=by
 have ab:∀R:Nat->Nat->Prop,bh (o9 R a b) a b:=fun R=>.rel (.inr ⟨rfl,rfl⟩);constructor
 .refine bh.mono fun u v r=>?_;rcases r with (⟨hu,rfl⟩|s)|⟨rfl,rfl⟩
  .unfold tr;simp only;by_cases c:u=a
   .subst c;rw[aE rfl];exact(ab _).trans (.rel (.inl (.inl ⟨hb,rfl⟩)))
   rw[aD c];by_cases d:u=b
   .subst d;rw[aE rfl];exact(ab _).symm.trans (.rel (.inl (.inl ⟨ha,rfl⟩)))
   rw[aD d];exact .rel (.inl (.inl ⟨hu,rfl⟩))
  .exact .rel (.inl (.inr s))
  exact ab _
 refine bh.mono fun u v r=>?_;rcases r with (⟨hu,rfl⟩|s)|⟨rfl,rfl⟩
 .by_cases c:u=a
  .subst c;refine(ab _).trans (.rel (.inl (.inl ⟨hb,?_⟩)));unfold tr;simp only;by_cases d:b=u
   .rw[aE d,d]
   rw[aD d];simp
  by_cases d:u=b
  .subst d;refine(ab _).symm.trans (.rel (.inl (.inl ⟨ha,?_⟩)));unfold tr;rw[aE rfl]
  refine .rel (.inl (.inl ⟨hu,?_⟩));unfold tr;rw[aD c,aD d]
 .exact .rel (.inl (.inr s))
 exact ab _
abbrev inT(ts:List (Nat×Nat))(x y:Nat):Prop:=(x,y)∈ts
abbrev vL(n:Nat)(p:Nat->Nat)(ts:List (Nat×Nat))(x y:Nat):Prop:=gr n p x y\/inT ts x y
theorem ai2:∀(ts:List (Nat×Nat)) (p:Nat->Nat),Perm n p->(∀t∈ts,t.1<n/\t.2<n)->
  K (bh (gr n (ts.foldl tr p))) n+K (bh (gr n p)) n<=2*K (bh (vL n p ts)) n+ts.length:=by
 intro ts
 induction ts with
 |nil=>
  intro p _ _;have:K (bh (vL n p [])) n=K (bh (gr n p)) n:=FL (fun x y=>⟨bh.mono (R:=vL n p []) (R':=gr n p) (fun u v r=>by
   rcases r with r|r
   .exact .rel r
   cases r),bh.mono (R:=gr n p) (R':=vL n p []) (fun u v r=>.rel (.inl r))⟩) n
  rw[this];simp only[Wj,eP];omega
 |cons t ts ih=>
  intro p hp ht;obtain⟨a,b⟩:=t;obtain⟨ha,hb⟩:=ht (a,b) af
  replace ha:a<n:=ha
  replace hb:b<n:=hb
  have ih:=ih (tr p (a,b)) (hp.tr ha hb) fun t h=>ht t (by simp[h]);have all:∀x y,bh (vL n p ((a,b)::ts)) x y↔bh (o9 (vL n (tr p (a,b)) ts) a b) x y:=fun x y=>by
   refine Iff.trans ⟨bh.mono fun u v r=>?_,bh.mono fun u v r=>?_⟩ (PY (S:=inT ts) ha hb).symm
   .rcases r with r|r
    .exact .rel (.inl (.inl r))
    rcases dh.1 r with r|r
    .cases r;exact .rel (.inr ⟨rfl,rfl⟩)
    exact .rel (.inl (.inr r))
   rcases r with (r|r)|⟨rfl,rfl⟩
   .exact .rel (.inl r)
   .exact .rel (.inr (vB _ r))
   exact .rel (.inr (IS ..))
  have one:∀x y,bh (o9 (gr n (tr p (a,b))) a b) x y↔bh (o9 (gr n p) a b) x y:=fun x y=>by have h:=PY (p:=p) (S:=fun _ _=>False) ha hb (x:=x) (y:=y);have e:∀q:Nat->Nat,(fun x y=>gr n q x y\/False)=gr n q:=fun q=>funext fun x=>funext fun y=>propext af;rw[e,e] at h;exact h
  rw[FL all];simp only[BH,dp];have kj:K (bh (o9 (gr n (tr p (a,b))) a b)) n=K (bh (o9 (gr n p) a b)) n:=FL one n;have sm:∀R:Nat->Nat->Prop,bh R a b->K (bh (o9 R a b)) n=K (bh R) n:=fun R h=>PI h n;have jn:∀R:Nat->Nat->Prop,¬bh R a b->K (bh R) n=K (bh (o9 R a b)) n+1:=fun R h=>PH ha hb h;rcases Classical.em (bh (gr n p) a b) with c|c
  .have k1:=sm _ c;rcases Classical.em (bh (gr n (tr p (a,b))) a b) with d|d
   .have k2:=sm _ d;have k3:=sm _ (d.mono (R':=vL n (tr p (a,b)) ts) fun u v r=>.rel (.inl r));omega
   have k2:=jn _ d;rcases Classical.em (bh (vL n (tr p (a,b)) ts) a b) with d2|d2
   .have k3:=sm _ d2;omega
   have k3:=jn _ d2;omega
  have k1:=jn _ c;have d:=ae7 hp ha hb c;have k2:=sm _ d;have k3:=sm _ (d.mono (R':=vL n (tr p (a,b)) ts) fun u v r=>.rel (.inl r));omega
def rv (x:Nat):Nat:=if x%2=0 then x+1 else x-1
theorem ur(k:Nat):rv (2*k)=2*k+1:=by unfold rv;rw[aE aa]
theorem zK(k:Nat):rv (2*k+1)=2*k:=by unfold rv;rw[aD aa];rfl
theorem zM(x:Nat):rv (rv x)=x:=by
 rcases xe x with h|h
 .rw[show x=2*(x/2) by omega,ur,zK]
 rw[show x=2*(x/2)+1 by omega,zK,ur]
theorem zL{m:Nat}(h:x<2*m):rv x<2*m:=by unfold rv;split<;>omega
theorem Bs(n v:Nat)(g:Bool):rv (dw n v g)=ir n v (!g):=by
 cases g with
 |true=>exact ur _
 |false=>exact zK _
theorem apq(n v:Nat)(g:Bool):rv (ir n v g)=dw n v (!g):=by
 cases g with
 |true=>exact ur _
 |false=>exact zK _
theorem Ag(hv:v<n)(g:Bool):ir n v g<2*n:=by have:=dK (v+n-1) (show 0<n by omega);unfold ir;split<;>omega
theorem Mv(hx:x<2*n):x=ir n (if x%2=0 then (x/2+1)%n else x/2) (x%2==0):=by
 unfold ir;rcases xe x with h|h
 .simp only[h,Mj,if_true];rw[Dc aa];omega
 simp only[h,show((1:Nat)==0)=false from rfl,eH,if_false,PE];omega
section
variable {F:Nat} {ls:List Let}
theorem afb{l:Let}(hl:ls[v]?=some l)(fw:Bool):aV ls (ir ls.length v fw)=if l.kind==2 then dw ls.length (fh ls v) (fw==(l.over==(l.sign==1)))
   else if dn ls v==fw then 2*ls.length+2*(aC ls).idxOf v else 2*ls.length+2*(((aC ls).idxOf v+(aC ls).length-1)%(aC ls).length)+1:=by
 have hv:=(aY.1 hl).1;have au:=Ag hv fw;refine afa aa ?_ ?_ hl
 .unfold ir;cases fw<;>simp
 unfold ir;cases fw with
 |true=>simp only[if_true];rw[show 2*((v+ls.length-1)%ls.length)/2=(v+ls.length-1)%ls.length by omega,vn hv]
 |false=>simp only[eH,if_false];omega
theorem zR{l:Let}(hl:ls[v]?=some l)(hc:l.aB=true)(fw:Bool):aV ls (ir ls.length v fw)=dw ls.length (fh ls v) (fw==(l.over==(l.sign==1))):=by rw[afb hl];unfold Let.aB at hc;rw[aE hc]
theorem LV{l:Let}(hl:ls[v]?=some l)(hp:l.aG=true)(fw:Bool):aV ls (ir ls.length v fw)=if dn ls v==fw then 2*ls.length+2*(aC ls).idxOf v else 2*ls.length+2*(((aC ls).idxOf v+(aC ls).length-1)%(aC ls).length)+1:=by have:=oN hp;unfold Let.aB at this;rw[afb hl,aD (by rw[this];decide)]
theorem Is(k:Nat):aV ls (2*ls.length+2*k)=dw ls.length ((aC ls).getD ((k+1)%(aC ls).length) 0) (!dn ls ((aC ls).getD ((k+1)%(aC ls).length) 0)):=by show fN _ _ _=_;unfold fN;rw[aE aa,aE aa,show(2*ls.length+2*k-2*ls.length)/2=k by omega]
theorem Ir(k:Nat):aV ls (2*ls.length+2*k+1)=dw ls.length ((aC ls).getD k 0) (dn ls ((aC ls).getD k 0)):=by show fN _ _ _=_;unfold fN;rw[aE aa,aD aa,show(2*ls.length+2*k+1-2*ls.length)/2=k by omega]
theorem DQ{k:Nat}(hk:k<(aC ls).length):∃l,ls[(aC ls).getD k 0]?=some l/\l.aG=true:=by obtain⟨v,hv⟩:=aN hk;rw[cU,hv,kE];exact qR.1 (aW hv)
theorem I7{l:Let}(ok:dU F ls)(hl:ls[v]?=some l)(hp:l.aG=true):(aC ls).idxOf v<(aC ls).length/\(aC ls).getD ((aC ls).idxOf v) 0=v:=by have h1:=Qg ok.ax hl hp;rw[Ja ok.ax hl hp];exact⟨(aY.1 h1).1,by rw[cU,h1];rfl⟩
theorem aeX(ok:dU F ls)(hv:v<ls.length)(fw:Bool):aV ls (rv (aV ls (ir ls.length v fw)))=dw ls.length v fw:=by
 obtain⟨l,hl⟩:=aN hv;rcases ok.kinds l (aW hl) with hp|hc
 .obtain⟨h1,h2⟩:=I7 ok hl hp;rw[LV hl hp];by_cases c:(dn ls v==fw)=true
  .rw[aE c,show 2*ls.length+2*(aC ls).idxOf v=2*(ls.length+(aC ls).idxOf v) by omega,ur,show 2*(ls.length+(aC ls).idxOf v)+1=2*ls.length+2*(aC ls).idxOf v+1 by omega,Ir,h2];rw[eq_of_beq c]
  rw[aD c];have c:dn ls v= !fw:=by revert c;cases dn ls v<;>cases fw<;>simp
  have hm:=dK ((aC ls).idxOf v+(aC ls).length-1) (show 0<(aC ls).length by omega);rw[show 2*ls.length+2*(((aC ls).idxOf v+(aC ls).length-1)%(aC ls).length)+1=2*(ls.length+((aC ls).idxOf v+(aC ls).length-1)%(aC ls).length)+1 by omega,zK,
   show 2*(ls.length+((aC ls).idxOf v+(aC ls).length-1)%(aC ls).length)=2*ls.length+2*(((aC ls).idxOf v+(aC ls).length-1)%(aC ls).length) by omega,Is,vn h1,h2,c,L6]
 obtain⟨h1,m,hm,mc,mi,mo,ms⟩:=pX ok.cr hl hc;rw[zR hl hc,Bs,zR hm mc,h1,mo,ms];cases fw<;>cases l.over<;>cases (l.sign==1)<;>rfl
def v8(ls:List Let)(x:Nat):Nat:=
 if 2*ls.length<=x then (if x%2=0 then (aC ls).getD (((x-2*ls.length)/2+1)%(aC ls).length) 0 else (aC ls).getD ((x-2*ls.length)/2) 0)
 else if x%2=0 then (x/2+1)%ls.length else x/2
def DN(ls:List Let)(x:Nat):Bool:=decide (2*ls.length<=x)||(match ls[v8 ls x]? with|some l=>l.aB&&l.over|none=>false)
def jX(ls:List Let)(i:Nat):Int×Int:=match ls[i]? with|some l=>if l.aB then (1,l.id) else (0,i)|none=>(2,0)
theorem Ko(hv:v<ls.length)(fw:Bool):v8 ls (ir ls.length v fw)=v:=by
 have au:=Ag hv fw;unfold v8;rw[aD aa];unfold ir;cases fw with
 |true=>simp only[if_true];rw[aE aa,show 2*((v+ls.length-1)%ls.length)/2=(v+ls.length-1)%ls.length by omega,vn hv]
 |false=>simp only[eH,if_false];rw[aD aa];omega
theorem PW{l:Let}(hl:ls[v]?=some l)(fw:Bool):DN ls (ir ls.length v fw)=(l.aB&&l.over):=by have hv:=(aY.1 hl).1;have au:=Ag hv fw;unfold DN;rw[Ko hv,hl];have:¬2*ls.length<=ir ls.length v fw:=aa;simp[this]
theorem aaL(k:Nat):v8 ls (2*ls.length+2*k)=(aC ls).getD ((k+1)%(aC ls).length) 0:=by unfold v8;rw[aE aa,aE aa,show(2*ls.length+2*k-2*ls.length)/2=k by omega]
theorem aaK(k:Nat):v8 ls (2*ls.length+2*k+1)=(aC ls).getD k 0:=by unfold v8;rw[aE aa,aD aa,show(2*ls.length+2*k+1-2*ls.length)/2=k by omega]
theorem PX(h:2*ls.length<=x):DN ls x=true:=by unfold DN;simp[h]
theorem arv(ok:dU F ls)(hx:x<nD ls):jX ls (v8 ls (rv (aV ls x)))=jX ls (v8 ls x)/\DN ls (rv (aV ls x))= !DN ls x:=by
 unfold nD at hx;rcases Mh x (2*ls.length) with c|c
 .have hv:(if x%2=0 then (x/2+1)%ls.length else x/2)<ls.length:=by
   have:=dK (x/2+1) (show 0<ls.length by omega);split<;>omega
  rw[Mv c];generalize (if x%2=0 then (x/2+1)%ls.length else x/2)=v at hv;generalize (x%2==0)=fw;obtain⟨l,hl⟩:=aN hv;rw[Ko hv,PW hl];rcases ok.kinds l (aW hl) with hp|hc
  .obtain⟨h1,h2⟩:=I7 ok hl hp;rw[oN hp,LV hl hp];by_cases d:(dn ls v==fw)=true
   .rw[aE d,show 2*ls.length+2*(aC ls).idxOf v=2*(ls.length+(aC ls).idxOf v) by omega,ur,show 2*(ls.length+(aC ls).idxOf v)+1=2*ls.length+2*(aC ls).idxOf v+1 by omega,aaK,h2,PX aa];exact⟨rfl,rfl⟩
   rw[aD d,show 2*ls.length+2*(((aC ls).idxOf v+(aC ls).length-1)%(aC ls).length)+1=2*(ls.length+((aC ls).idxOf v+(aC ls).length-1)%(aC ls).length)+1 by omega,zK,
    show 2*(ls.length+((aC ls).idxOf v+(aC ls).length-1)%(aC ls).length)=2*ls.length+2*(((aC ls).idxOf v+(aC ls).length-1)%(aC ls).length) by omega,aaL,vn h1,h2,PX aa]
   exact⟨rfl,rfl⟩
  obtain⟨h1,m,hm,mc,mi,mo,ms⟩:=pX ok.cr hl hc;have hw:=(aY.1 hm).1;rw[zR hl hc,Bs,Ko hw,PW hm];unfold jX;simp[hl,hm,hc,mc,mi,mo]
 rw[PX c];have key:∀k,k<(aC ls).length->∀g,jX ls (v8 ls (rv (dw ls.length ((aC ls).getD k 0) g)))=jX ls ((aC ls).getD k 0)/\DN ls (rv (dw ls.length ((aC ls).getD k 0) g))= !true:=fun k hk g=>by obtain⟨l,hl,hp⟩:=DQ hk;rw[Bs,Ko (aY.1 hl).1,PW hl,oN hp];exact⟨rfl,rfl⟩
 rcases xe x with d|d
 .rw[show x=2*ls.length+2*((x-2*ls.length)/2) by omega,Is,aaL];exact key _ (dK _ aa) _
 rw[show x=2*ls.length+2*((x-2*ls.length)/2)+1 by omega,Ir,aaK];exact key _ aa _
end
theorem arF{next:Nat->Nat}{N:Nat}{R:Nat->Nat->Prop}(au:∀x,x<N->next x<N)(h:∀x,x<N->bh R x (next x)):∀(k x:Nat) (S:List Bool),x<N->∀y∈(eD next k x S).1,bh R x y:=by
 intro k
 induction k with
 |zero=>intro x S _ y hy;simp[eD] at hy
 |succ k ih=>
  intro x S hx y hy;unfold eD at hy;split at hy
  .simp at hy
  rcases dh.1 hy with rfl|hy
  .exact .refl _
  exact(h x hx).trans (ih (next x) _ (au x hx) y hy)
theorem arN{next:Nat->Nat}{N:Nat}(m:xg next n2 N){R:Nat->Nat->Prop}(h:∀x,x<N->bh R x (next x)):∀k,k<=N->∀w∈(dt next N k).1,∀x∈w,∀y∈w,bh R x y:=by
 intro k
 induction k with
 |zero=>intro _ w hw;simp[dt] at hw
 |succ k ih=>
  intro hk w hw x hx y hy;rw[wW] at hw;unfold tq at hw;split at hw
  .exact ih aa w hw x hx y hy
  rcases fi.1 hw with hw|hw
  .exact ih aa w hw x hx y hy
  simp only[rF] at hw;subst hw;have hj:=arF (R:=R) m.lt h ((dt next N k).2.length+1) k (dt next N k).2 aa;exact(hj x hx).symm.trans (hj y hy)
theorem arR{next:Nat->Nat}{N:Nat}(m:xg next n2 N):∀k,k<=n2->∀w∈(dt next N k).1,∀x∈w,next x∈w:=by
 intro k
 induction k with
 |zero=>intro _ w hw;simp[dt] at hw
 |succ k ih=>
  intro hk w hw x hx;obtain⟨c0,_⟩:=Pd m k aa;obtain⟨c1,_⟩:=Pd m (k+1) hk;rw[wW] at hw c1;unfold tq at hw c1;cases hs:(dt next N k).2.getD k true with
  |true=>rw[hs,aE rfl] at hw;exact ih aa w hw x hx
  |false=>
   rw[hs,aD ae] at hw c1;rcases fi.1 hw with hw|hw
   .exact ih aa w hw x hx
   simp only[rF] at hw;subst hw;obtain⟨g1,g2,g3⟩:=afm next ((dt next N k).2.length+1) k (dt next N k).2;have zj:x<N:=by have:=OU (g1 x hx);have:=Fq next N k;omega
   have e0:=c0 x zj;have e1:=c1 x zj;rw[g3,g3,g1 x hx] at e1;rw[g1 x hx] at e0;simp only[DC,hx,decide_true,<- e0] at e1;exact qk e1.symm
theorem Dy{next:Nat->Nat}{N:Nat}(m:xg next n2 N){w:List Nat}(hw:w∈dR next N)(hx:x∈w):next x∈w:=by unfold dR at hw;rw[VW m N m.le (cA _)] at hw;exact arR m n2 (cA _) w hw x hx
theorem VX{next:Nat->Nat}{N:Nat}(m:xg next n2 N){R:Nat->Nat->Prop}(h:∀x,x<N->bh R x (next x)){w:List Nat}(hw:w∈dR next N){x y:Nat}(hx:x∈w)(hy:y∈w):bh R x y:=arN m h N (cA _) w hw x hx y hy
def BC(L:List (List Nat))(x:Nat):Nat:=L.findIdx fun w=>w.contains x
theorem LZ{L:List (List Nat)}(h:L.flatten.Nodup){i:Nat}{w:List Nat}(hi:L[i]?=some w)(hx:x∈w):BC L x=i:=by
 have hm:w.contains x=true:=by simpa using hx
 have au:L.findIdx (fun w=>w.contains x)<L.length:=ar6 ⟨w,aW hi,hm⟩;have hp:=afG (w:=au);have hj:L[L.findIdx fun w=>w.contains x]?=some (L[L.findIdx fun w=>w.contains x]'au):=nU au;exact ac6 h hj hi (by simpa using hp) hx
theorem aly:∀ {L:List (List Nat)},L.flatten.Nodup->(∀w∈L,w≠[])->((L.map (·.headD 0)).map (BC L))=List.range L.length:=by
 intro L h aM;apply BE;intro i;rw[gh,gh];by_cases hi:i<L.length
 .have e:=nU hi;rw[e,sI hi];simp only[mw];have hw:=aM _ (aW e);rw[LZ h e (x:=L[i].headD 0) (by
   cases hL:L[i] with
   |nil=>exact absurd hL hw
   |cons a r=>simp)]
 rw[nV aa,nV (by simp;omega)];rfl
def fx (b:Bool)(s:Nat):Nat:=if b then 1-s else s
theorem Nh{b:Bool}{s:Nat}(h:s<2):fx b s<2:=by unfold fx;split<;>omega
theorem Z7{b:Bool}{s:Nat}(h:s<2):fx b (fx b s)=s:=by unfold fx;cases b<;>simp;omega
def rK(p:Nat->Bool)(y:Nat):Nat:=2*rv (y/2)+fx (p (y/2)) (y%2)
def sgC(p:Nat->Bool)(nx:Nat->Nat)(y:Nat):Nat:=2*nx (rv (y/2))+fx (p (y/2)) (y%2)
def tsC(p:Nat->Bool)(k:Nat):List (Nat×Nat):=(List.range k).flatMap fun e=>[(4*e,rK p (4*e)),(4*e+1,rK p (4*e+1))]
theorem PZ(p:Nat->Bool)(e:Nat):rK p (4*e)=if p (2*e) then 4*e+3 else 4*e+2:=by unfold rK fx;rw[show 4*e/2=2*e by omega,ur,show 4*e%2=0 by omega];split<;>omega
theorem P0(p:Nat->Bool)(e:Nat):rK p (4*e+1)=if p (2*e) then 4*e+2 else 4*e+3:=by unfold rK fx;rw[show(4*e+1)/2=2*e by omega,ur,show(4*e+1)%2=1 by omega];split<;>omega
theorem agv{p:Nat->Bool}(hp:∀x,p (rv x)=p x)(e:Nat):rK p (4*e+2)=if p (2*e) then 4*e+1 else 4*e:=by unfold rK fx;rw[show(4*e+2)/2=2*e+1 by omega,zK,show(4*e+2)%2=0 by omega,<- hp (2*e),ur];split<;>omega
theorem agw{p:Nat->Bool}(hp:∀x,p (rv x)=p x)(e:Nat):rK p (4*e+3)=if p (2*e) then 4*e else 4*e+1:=by unfold rK fx;rw[show(4*e+3)/2=2*e+1 by omega,zK,show(4*e+3)%2=1 by omega,<- hp (2*e),ur];split<;>omega
theorem ars(p:Nat->Bool){k e:Nat}(h:e<k):(4*e,rK p (4*e))∈tsC p k/\(4*e+1,rK p (4*e+1))∈tsC p k:=
 ⟨Md.2 ⟨e,fJ.2 h,af⟩,Md.2 ⟨e,fJ.2 h,af⟩⟩
theorem acz{α β:Type}{P:α->β->Prop}{f:β->α}(hf:∀a b,P a b->f b=a):∀ {L:List α},(∀a∈L,∃b,P a b)->∃M:List β,M.map f=L/\ ∀b∈M,∃a∈L,P a b:=by
 intro L
 induction L with
 |nil=>intro _;exact⟨[],rfl,af⟩
 |cons a L ih=>
  intro h;obtain⟨b,hb⟩:=h a af;obtain⟨M,h1,h2⟩:=ih fun x hx=>h x (by simp[hx]);refine⟨b::M,by rw[eE,h1,hf a b hb],fun x hx=>?_⟩;rcases dh.1 hx with rfl|hx
  .exact⟨a,af,hb⟩
  obtain⟨c,hc,hp⟩:=h2 x hx;exact⟨c,by simp[hc],hp⟩
section
variable {F:Nat} {ls:List Let}
theorem ag6(ok:dU F ls):(aC ls).Nodup:=by have:=Xh ok.ax ls.length (cA _);refine afD (fun {a b} h e=>?_) this;subst e;exact absurd h (Nat.lt_irrefl _)
theorem Uu(ok:dU F ls):ls.length=ay Let.aG ls+ay Let.aB ls:=by
 have:∀l:List Let,(∀x∈l,x.aG=true\/x.aB=true)->l.length=ay Let.aG l+ay Let.aB l:=by
  intro l
  induction l with
  |nil=>intro _;rfl
  |cons a l ih=>
   intro h;have ih:=ih fun x hx=>h x (by simp[hx]);unfold ay at ih ⊢;rw[uy,uy,dp,ih];rcases h a af with c|c
   .rw[c,oN c];simp;omega
   have:a.aG=false:=by cases hp:a.aG;rfl;rw[oN hp] at c;cases c
   rw[c,this];simp;omega
 exact this ls ok.kinds
theorem arB(ok:dU F ls):∃L:List Nat,L.length=ay Let.aG ls+ay Let.aB ls/2/\(∀j∈L,j<ls.length)/\(L.map (jX ls)).Nodup:=by
 have hc:=ok.cr;unfold kr at hc;simp only[cE,dk] at hc;have hid:=hc.2
 let ids:List (Int×Int):=(eB ls ls.length).map fun id=>(1,id)
 have akr:∀a∈ids,∃j,(jX ls j=a/\j<ls.length):=by intro a ha;obtain⟨id,hi,rfl⟩:=dy.1 ha;obtain⟨j,o,hj,hh⟩:=(EM (cA _)).1 hi;obtain⟨m,hm,mc,mi,_⟩:=yX hh;refine⟨j,?_,hj⟩;unfold jX;rw[hm];simp[mc,mi]
 obtain⟨M,m1,m2⟩:=acz (P:=fun a j=>jX ls j=a/\j<ls.length) (f:=jX ls) (fun a b h=>h.1) akr;have iT:∀i∈aC ls,i<ls.length/\jX ls i=(0,(i:Int)):=fun i hi=>by obtain⟨l,hl,hp⟩:=qR.1 hi;refine⟨(aY.1 hl).1,?_⟩;unfold jX;rw[hl];simp[oN hp]
 refine⟨aC ls++M,?_,fun j hj=>?_,?_⟩
 .have:M.length=(eB ls ls.length).length:=by
   have:=congrArg List.length m1
   simpa [ids] using this
  rw[fH,this,hid,I9]
 .rcases fi.1 hj with hj|hj
  .exact(iT j hj).1
  obtain⟨_,_,h⟩:=m2 j hj;exact h.2
 rw[km,m1,FD];refine⟨?_,?_,?_⟩
 .have:(aC ls).map (jX ls)=(aC ls).map fun i:Nat=>((0:Int),(i:Int)):=zW fun i hi=>(iT i hi).2;rw[this];refine BN.2 (afD (fun {a b} h e=>h ?_) (ag6 ok));have:=congrArg Prod.snd e;simp only at this;omega
 .refine BN.2 (afD (fun {a b} h e=>h ?_) (NK ls ls.length));exact congrArg Prod.snd e
 intro a ha b hb e;obtain⟨i,hi,rfl⟩:=dy.1 ha;obtain⟨id,_,rfl⟩:=dy.1 hb;rw[(iT i hi).2] at e;have:=congrArg Prod.fst e;simp at this
end
section
variable {F:Nat} {ls:List Let} {p:Nat->Bool}
abbrev Gk(ls:List Let)(p:Nat->Bool):Nat->Nat->Prop:=vL (2*nD ls) (sgC p (aV ls)) (tsC p (ls.length+(aC ls).length))
theorem EY(ls:List Let):nD ls=2*(ls.length+(aC ls).length):=by unfold nD;omega
theorem aik(hp:∀x,p (rv x)=p x){y:Nat}(hy:y<2*nD ls):bh (Gk ls p) y (rK p y):=by
 have hN:=EY ls;obtain⟨h1,h2⟩:=ars p (k:=ls.length+(aC ls).length) (e:=y/4) aa;have r1:bh (Gk ls p) (4*(y/4)) (rK p (4*(y/4))):=.rel (.inr h1);have r2:bh (Gk ls p) (4*(y/4)+1) (rK p (4*(y/4)+1)):=.rel (.inr h2);have a2:=agv hp (y/4);have a3:=agw hp (y/4);rcases(by omega:y=4*(y/4)\/y=4*(y/4)+1\/y=4*(y/4)+2\/y=4*(y/4)+3) with e|e|e|e
 .rw[<- e] at r1;exact r1
 .rw[<- e] at r2;exact r2
 .rw[<- e] at a2;rw[a2];rw[PZ] at r1;rw[P0] at r2;by_cases c:p (2*(y/4))=true
  .rw[aE c] at r2 ⊢;rw[<- e] at r2;exact r2.symm
  rw[aD c] at r1 ⊢;rw[<- e] at r1;exact r1.symm
 rw[<- e] at a3;rw[a3];rw[PZ] at r1;rw[P0] at r2;by_cases c:p (2*(y/4))=true
 .rw[aE c] at r1 ⊢;rw[<- e] at r1;exact r1.symm
 rw[aD c] at r2 ⊢;rw[<- e] at r2;exact r2.symm
theorem X3(hp:∀x,p (rv x)=p x){x s:Nat}(hx:x<nD ls)(hs:s<2):bh (Gk ls p) (2*x+s) (2*rv x+fx (p x) s):=by have:=aik (ls:=ls) hp (y:=2*x+s) aa;unfold rK at this;rwa[show(2*x+s)/2=x by omega,show(2*x+s)%2=s by omega] at this
theorem X2(hp:∀x,p (rv x)=p x){x s:Nat}(hx:x<nD ls)(hs:s<2):bh (Gk ls p) (2*x+s) (2*aV ls x+s):=by
 have hN:=EY ls;have hf:fx (p x) s<2:=Nh hs;refine(X3 hp hx hs).trans (.rel (.inl ⟨?_,?_⟩))
 .have:rv x<nD ls:=by rw[hN];exact zL aa
  omega
 unfold sgC;rw[show(2*rv x+fx (p x) s)/2=rv x by omega,show(2*rv x+fx (p x) s)%2=fx (p x) s by omega,zM,hp,Z7 hs]
def yQ(ls:List Let)(p:Nat->Bool)(x:Nat):Prop:= ∃b,∀s,s<2->bh (Gk ls p) (2*x+s) (fx b s)
theorem aj5(ls:List Let)(p:Nat->Bool):yQ ls p 0:=⟨false,fun s _=>by rw[show 2*0+s=s by omega];exact .refl _⟩
theorem ajU(a b:Bool){s:Nat}(h:s<2):fx a (fx b s)=fx (a !=b) s:=by unfold fx;cases a<;>cases b<;>simp;omega
theorem aap(hp:∀x,p (rv x)=p x){x:Nat}(hx:x<nD ls)(h:yQ ls p x):yQ ls p (rv x):=by obtain⟨b,h⟩:=h;refine⟨b !=p x,fun s hs=>?_⟩;have h1:=(X3 hp hx (s:=fx (p x) s) (Nh hs)).symm.trans (h (fx (p x) s) (Nh hs));rwa[Z7 hs,ajU _ _ hs] at h1
theorem aao(hp:∀x,p (rv x)=p x){x:Nat}(hx:x<nD ls)(h:yQ ls p x):yQ ls p (aV ls x):=by obtain⟨t,h⟩:=h;exact⟨t,fun s hs=>(X2 hp hx hs).symm.trans (h s hs)⟩
theorem aj4(hp:∀x,p (rv x)=p x){x:Nat}(hx:x<nD ls)(h:yQ ls p (aV ls x)):yQ ls p x:=by obtain⟨t,h⟩:=h;exact⟨t,fun s hs=>(X2 hp hx hs).trans (h s hs)⟩
theorem aj3(hp:∀x,p (rv x)=p x)(ok:dU F ls){x:Nat}(hx:x<nD ls):yQ ls p x:=by
 have m:=maps ok;have hN:=EY ls;have zh:∀y,y<nD ls->rv y<nD ls:=fun y hy=>by rw[hN] at hy ⊢;exact zL hy
 have fwd:∀i,i<ls.length->yQ ls p (2*i):=by
  intro i
  induction i with
  |zero=>intro _;exact aj5 ls p
  |succ i ih=>
   intro hi;have h0:=ih aa;have h2:2*i<nD ls:=aa;have h3:=aao hp h2 h0;have h4:=m.lt _ h2;have h5:=aao hp (zh _ h4) (aap hp h4 h3);have e:2*i=ir ls.length (i+1) true:=by unfold ir;rw[aE rfl,show i+1+ls.length-1=i+ls.length by omega,w9,gV aa]
   rw[e,aeX ok hi] at h5;exact h5
 have str:∀y,y<2*ls.length->yQ ls p y:=fun y hy=>by
  rcases xe y with c|c
  .rw[show y=2*(y/2) by omega];exact fwd _ aa
  have:=aap hp (x:=2*(y/2)) aa (fwd (y/2) aa);rw[ur] at this;rw[show y=2*(y/2)+1 by omega];exact this
 rcases Mh x (2*ls.length) with c|c
 .exact str x c
 exact aj4 hp hx (str _ (m.ax x hx c))
end
section
variable {F:Nat} {ls:List Let}
end
theorem arQ{next:Nat->Nat}{N:Nat}(m:xg next n2 N){α:Type}{φ:Nat->α}(hφ:∀x,x<N->φ (next x)=φ x){reps:List Nat}(hr:∀x∈reps,x<N)(hn:(reps.map φ).Nodup):reps.length<=(dR next N).length:=by
 have KN:=Fs next N;have j7:∀x,x<N->∃(i:Nat) (w:List Nat),(dR next N)[i]?=some w/\x∈w/\BC (dR next N) x=i:=fun x hx=>by obtain⟨w,hw,CU⟩:=FC.1 (KN.2 x hx);obtain⟨i,hi⟩:=gH hw;exact⟨i,w,hi,CU,LZ KN.1 hi CU⟩
 have akt:∀a b,bh (fun x y=>x<N/\y=next x) a b->φ a=φ b:=fun a b h=>by
  induction h with
  |rel h=>rw[h.2,hφ _ h.1]
  |refl _=>rfl
  |symm _ ih=>exact ih.symm
  |trans _ _ h1 h2=>exact h1.trans h2
 have zi:∀x,x<N->∀y,y<N->BC (dR next N) x=BC (dR next N) y->φ x=φ y:=fun x hx y hy e=>by obtain⟨i,w,hi,CU,e1⟩:=j7 x hx;obtain⟨j,v,hj,hyv,e2⟩:=j7 y hy;rw[e1,e2] at e;subst e;rw[hi] at hj;cases hj;exact akt x y (VX m (R:=fun x y=>x<N/\y=next x) (fun z hz=>.rel ⟨hz,rfl⟩) (aW hi) CU hyv)
 have h1:(reps.map (BC (dR next N))).Nodup:=by unfold List.Nodup at hn ⊢;rw[BN] at hn ⊢;refine hn.imp_of_mem fun {x y} hx hy h e=>?_;exact h (zi x (hr x hx) y (hr y hy) e)
 have h2:∀i∈reps.map (BC (dR next N)),i∈List.range (dR next N).length:=fun i hi=>by obtain⟨x,hx,rfl⟩:=dy.1 hi;obtain⟨i,w,hi,_,e⟩:=j7 x (hr x hx);rw[e];exact fJ.2 (aY.1 hi).1
 have:=LQ _ _ h1 h2;rwa[cG,BK] at this
end
end Go.Abs
