/-
  Walks around faces.
-/
import Derived.Test.YtffbakabajjgcaaGreatDoorWs
set_option linter.all false
set_option maxHeartbeats 16000000
namespace Go.Abs
section
variable{n2 x:Nat}
theorem Q8{S:List Bool}(h:sn S x=false):x<S.length:=by
 rcases Oq x S.length with h1|h1
 .exact h1
 rw[sn,cY,mS h1] at h;cases h
theorem afI(next:Nat->Nat):∀(k x:Nat) (S:List Bool),(∀y∈(ff next k x S).1,sn S y=false)/\(ff next k x S).1.Nodup/\ ∀y,sn (ff next k x S).2 y=(sn S y||decide (y∈(ff next k x S).1)):=by
 intro k
 induction k with
 |zero=>intro x S;simp[ff]
 |succ k ih=>
  intro x S;unfold ff;cases hx:S.getD x true with
  |true=>simp
  |false=>
   have hl:=Q8 (S:=S) (x:=x) hx;obtain⟨h1,h2,h3⟩:=ih (next x) (S.set x true);simp only[dQ,if_false];have gK:∀y,sn (S.set x true) y=if y=x then true else sn S y:=fun y=>NL hl;refine⟨fun y hy=>?_,?_,fun y=>?_⟩
   .rcases cI.1 hy with rfl|hy
    .exact hx
    have:=h1 y hy;rw[gK] at this;split at this
    .cases this
    exact this
   .refine nI.2 ⟨fun hm=>?_,h2⟩;have:=h1 x hm;rw[gK,aD rfl] at this;cases this
   rw[h3,gK];by_cases e:y=x
   .subst e;simp
   rw[ay e];have:decide (y∈x::(ff next k (next x) (S.set x true)).1)=decide (y∈(ff next k (next x) (S.set x true)).1):=by simp[e]
   rw[this]
theorem atv(next:Nat->Nat)(N:Nat):∀k,(dz next N k).1.flatten.Nodup/\(∀y,y<N->sn (dz next N k).2 y=decide (y∈(dz next N k).1.flatten))/\(∀y∈(dz next N k).1.flatten,y<N)/\ ∀x,x<k->x<N->sn (dz next N k).2 x=true:=by
 intro k
 induction k with
 |zero=>refine⟨by simp[dz],fun y hy=>?_,by simp[dz],fun x hx=>absurd hx (mT x)⟩;have:(dz next N 0).2=List.replicate N false:=rfl;rw[this,VY hy];simp[dz]
 |succ k ih=>
  obtain⟨h1,h2,h4,h3⟩:=ih;rw[yH];unfold uX;have hlen:=HH next N k;cases hk:(dz next N k).2.getD k true with
  |true=>
   rw[aD rfl];refine⟨h1,h2,h4,fun x hx Bd=>?_⟩;rcases lL.1 hx with h|rfl
   .exact h3 x h Bd
   exact hk
  |false=>
   rw[ay ae];have hkN:k<N:=by have:=Q8 (S:=(dz next N k).2) hk;omega
   obtain⟨g1,g2,g3⟩:=afI next ((dz next N k).2.length+1) k (dz next N k).2;have T2:=afH next ((dz next N k).2.length+1) k (dz next N k).2 (by have:=KB (dz next N k).2;omega);refine⟨?_,fun y hy=>?_,?_,fun x hx Bd=>?_⟩
   .rw[DD,DH];refine⟨h1,by simpa using g2,fun y hy z hz=>?_⟩;rintro rfl
    have e1:=g1 y (by simpa using hz);have hyN:=h4 y hy;rw[h2 y hyN] at e1;simp[hy] at e1
   .rw[g3,h2 y hy,DD,BB];simp
   .intro y hy;rw[DD,dZ] at hy;rcases hy with hy|hy
    .exact h4 y hy
    have:=Q8 (g1 y (by simpa using hy));omega
   rcases lL.1 hx with h|rfl
   .rw[g3,h3 x h Bd];rfl
   exact T2
theorem HJ(next:Nat->Nat)(N:Nat):(eh next N).flatten.Nodup/\ ∀y,y<N->y∈(eh next N).flatten:=by obtain⟨h1,h2,_,h3⟩:=atv next N N;refine⟨h1,fun y hy=>?_⟩;have:=h3 y hy hy;rw[h2 y hy] at this;exact l7 this
theorem ac6{L:List (List Nat)}(h:L.flatten.Nodup){i j:Nat}{a b:List Nat}(hi:L[i]?=some a)(hj:L[j]?=some b)(ha:x∈a)(hb:x∈b):i=j:=by
 induction L generalizing i j with
 |nil=>simp at hi
 |cons l L ih=>
  rw[lH,DH] at h;obtain⟨_,h2,h3⟩:=h;cases i with
  |zero=>
   simp at hi;subst hi;cases j with
   |zero=>rfl
   |succ j=>simp at hj;exact absurd rfl (h3 x ha x (HR.2 ⟨b,aW hj,hb⟩))
  |succ i=>
   simp at hi;cases j with
   |zero=>simp at hj;subst hj;exact absurd rfl (h3 x hb x (HR.2 ⟨a,aW hi,ha⟩))
   |succ j=>simp at hj;rw[ih h2 hi hj]
section
variable {F:Nat} {ls:List Let}
theorem ZF{j:Nat}{f:Fc}(h:(dh F ls)[j]?=some f):∃w,(eh (aY ls) (nD ls))[j]?=some w/\f=gC F ls w:=by
 unfold dh at h;rw[fT] at h;cases hw:(eh (aY ls) (nD ls))[j]? with
 |none=>rw[hw] at h;cases h
 |some w=>rw[hw] at h;cases h;exact⟨w,rfl,rfl⟩
theorem YS{i j:Nat}{a b:Fc}{d:Nat}(hi:(dh F ls)[i]?=some a)(hj:(dh F ls)[j]?=some b)(ha:d∈a.bl)(hb:d∈b.bl):i=j:=by obtain⟨v,hv,rfl⟩:=ZF hi;obtain⟨w,hw,rfl⟩:=ZF hj;rw[Ef] at ha hb;exact ac6 (HJ _ _).1 hv hw (vS.1 ha).1 (vS.1 hb).1
theorem YT{f:Fc}(h:f∈dh F ls):f.bl.Nodup:=by obtain⟨w,hw,rfl⟩:=dI.1 h;rw[Ef];have:=(HJ (aY ls) (nD ls)).1;exact List.Pairwise.sublist List.filter_sublist (List.Pairwise.sublist (List.sublist_flatten_of_mem hw) this)
theorem aiY{d:Nat}(hd:d<2*ls.length):∃(j:Nat) (f:Fc),(dh F ls)[j]?=some f/\d∈f.bl:=by
 have:=(HJ (aY ls) (nD ls)).2 d (by unfold nD;omega);obtain⟨w,hw,hdw⟩:=HR.1 this;obtain⟨j,hj⟩:=jd hw;have nV:(dh F ls)[j]?=some (gC F ls w):=by unfold dh;rw[fT,hj];rfl
 refine⟨j,gC F ls w,nV,?_⟩;rw[Ef];exact vS.2 ⟨hdw,by simpa using hd⟩
theorem aeH{ds:List Nat}{v:Nat}{d:Nat}:∀ {L:List Nat},d<L.length->(oF L ds v)[d]?=if d∈ds then some v else L[d]? :=by
 induction ds with
 |nil=>intro L _;simp[oF]
 |cons e ds ih=>
  intro L hd;show(oF (L.set e v) ds v)[d]?=_;rw[ih (by simpa using hd),mC];by_cases h1:d∈ds
  .simp[h1]
  by_cases h2:e=d
  .subst h2;simp[hd]
  have:d≠e:=fun h=>h2 h.symm;simp[h1,h2,this]
theorem ano{d:Nat}:∀ {fs:List Fc} {j:Nat} {L:List Nat},d<L.length->(∀f∈fs,d∉f.bl)->(qA fs j L)[d]?=L[d]? :=by
 intro fs
 induction fs with
 |nil=>intro j L _ _;rfl
 |cons f fs ih=>intro j L hd h;show(qA fs (j+1) (oF L f.bl j))[d]?=_;rw[ih (by rw[NH];exact hd) fun g hg=>h g (by simp[hg]),aeH hd,ay (h f af)]
theorem ann{d:Nat}:∀ {fs:List Fc} {j i:Nat} {L:List Nat} {f:Fc},d<L.length->fs[i]?=some f->d∈f.bl->(∀i' f',fs[i']?=some f'->d∈f'.bl->i'=i)->(qA fs j L)[d]?=some (j+i):=by
 intro fs
 induction fs with
 |nil=>intro j i L f _ h;simp at h
 |cons g fs ih=>
  intro j i L f hd hi hf hu;show(qA fs (j+1) (oF L g.bl j))[d]?=_;cases i with
  |zero=>
   simp at hi;subst hi;rw[ano (by rw[NH];exact hd),aeH hd,aD hf]
   .rfl
   intro f' EB zt;obtain⟨i',zA⟩:=jd EB;have:=hu (i'+1) f' (by simpa using zA) zt;omega
  |succ i=>simp at hi;rw[ih (by rw[NH];exact hd) hi hf fun i' f' h1 h2=>by have:=hu (i'+1) f' (by simpa using h1) h2;omega];congr 1;omega
theorem left_at{d j:Nat}{f:Fc}(hd:d<2*ls.length)(hf:(dh F ls)[j]?=some f)(hm:d∈f.bl):(ou F ls)[d]?=some j:=by unfold ou;rw[ann (by simpa using hd) hf hm fun i' f' h1 h2=>YS h1 hf h2 hm];congr 1;omega
theorem O7{d:Nat}(hd:d<2*ls.length):∃j,(dh F ls)[j]?=some (kr F ls d)/\d∈(kr F ls d).bl/\(ou F ls)[d]?=some j:=by
 obtain⟨j,f,hf,hm⟩:=aiY (F:=F) hd;have hl:=left_at hd hf hm;have e:kr F ls d=f:=by unfold kr;rw[cY (l:=ou F ls),hl,lZ,cY,hf,lZ]
 exact⟨j,e▸hf,e▸hm,hl⟩
theorem ZC{d:Nat}{f:Fc}(hd:d<2*ls.length)(hf:f∈dh F ls)(hm:d∈f.bl):kr F ls d=f:=by obtain⟨j,h1,h2,_⟩:=O7 (F:=F) hd;obtain⟨i,hi⟩:=jd hf;have:=YS hi h1 hm h2;subst this;rw[h1] at hi;cases hi;rfl
theorem O8{d:Nat}(hd:d<2*ls.length):kr F ls d∈dh F ls:=by obtain⟨j,h1,_⟩:=O7 (F:=F) hd;exact aW h1
def Bj(pl:Nat)(edges:List Nat)(f:Fc):Bool:=(f.bl.length==edges.length)&&((f.places.length==pl)&&edges.all fun e=> !(decide (2*e∈f.bl)==decide (2*e+1∈f.bl)))
def vJ(F:Nat)(ls:List Let)(pl:Nat)(edges:List Nat):Bool:=(dh F ls).any (Bj pl edges)
theorem ai0{f:Fc}(h:f.bl.Nodup)(e:Nat):uB f e=(if 2*e∈f.bl then 1 else 0)+(if 2*e+1∈f.bl then 1 else 0):=by
 unfold uB;generalize f.bl=D at h
 induction D with
 |nil=>simp
 |cons d D ih=>
  obtain⟨h1,h2⟩:=nI.1 h;rw[yI,ih h2];by_cases e1:d=2*e
  .subst e1;have:(2*e/2==e)=true:=af;have e3:¬(2*e+1=2*e):=aa;simp[h1];omega
  by_cases e2:d=2*e+1
  .subst e2;have:((2*e+1)/2==e)=true:=by simp;omega
   have e3:¬(2*e=2*e+1):=aa;simp[this,h1]
  have:(d/2==e)=false:=by simp;omega
  have e3:¬(2*e=d):=fun h=>e1 h.symm;have e4:¬(2*e+1=d):=fun h=>e2 h.symm;simp[this,e3,e4]
theorem Yz{f:Fc}(h:f.bl.Nodup)(pl:Nat)(edges:List Nat):ve f pl edges=Bj pl edges f:=by unfold ve Bj;congr 2;refine List.all_congr rfl fun e=>?_;rw[ai0 h];by_cases h1:2*e∈f.bl<;>by_cases h2:2*e+1∈f.bl<;>simp[h1,h2]
theorem YA{pl:Nat}{edges:List Nat}{e0:Nat}(h0:edges[0]?=some e0)(he0:e0<ls.length):rV F ls pl edges e0=vJ F ls pl edges:=by
 unfold rV vJ;have m1:=O8 (F:=F) (ls:=ls) (d:=2*e0) aa;have m2:=O8 (F:=F) (ls:=ls) (d:=2*e0+1) aa;rw[Yz (YT m1),Yz (YT m2),BB,sN,FO];constructor
 .rintro (h|h)
  .exact⟨_,m1,h⟩
  exact⟨_,m2,h⟩
 rintro ⟨f,hf,h⟩
 have hm:=h;unfold Bj at hm;simp only[cN,ir] at hm;have:=hm.2.2 e0 (aW h0);by_cases h1:2*e0∈f.bl
 .left;rw[ZC aa hf h1];exact h
 by_cases h2:2*e0+1∈f.bl
 .right;rw[ZC aa hf h2];exact h
 simp[h1,h2] at this
end
inductive bn (R:Nat->Nat->Prop):Nat->Nat->Prop
 |rel {a b:Nat}:R a b->bn R a b
 |refl (a:Nat):bn R a a
 |symm {a b:Nat}:bn R a b->bn R b a
 |trans {a b c:Nat}:bn R a b->bn R b c->bn R a c
theorem bn.mono{R R':Nat->Nat->Prop}(h:∀a b,R a b->bn R' a b){y:Nat}(e:bn R x y):bn R' x y:=by
 induction e with
 |rel r=>exact h _ _ r
 |refl a=>exact .refl a
 |symm _ ih=>exact .symm ih
 |trans _ _ i1 i2=>exact .trans i1 i2
theorem bn.inv{R:Nat->Nat->Prop}{α:Type}{f:Nat->α}(h:∀a b,R a b->f a=f b){y:Nat}(e:bn R x y):f x=f y:=by
 induction e with
 |rel r=>exact h _ _ r
 |refl a=>rfl
 |symm _ ih=>exact ih.symm
 |trans _ _ i1 i2=>exact i1.trans i2
def ld (E:Nat->Nat->Prop)(x:Nat):Prop:=∀y,E x y->x<=y
noncomputable def Be (E:Nat->Nat->Prop) (x:Nat):Bool:= @decide (ld E x) (Classical.propDecidable _)
theorem JI{E:Nat->Nat->Prop}:Be E x=true↔ld E x:=by unfold Be;exact @decide_eq_true_iff _ (Classical.propDecidable _)
noncomputable def K (E:Nat->Nat->Prop) (n:Nat):Nat:=(List.range n).countP (Be E)
theorem HZ{E E':Nat->Nat->Prop}(h:∀x y,E x y↔E' x y)(n:Nat):K E n=K E' n:=by have:E=E':=funext fun x=>funext fun y=>propext (h x y);rw[this]
theorem ZA{p:Nat->Prop}:∀n,p n->∃m,p m/\ ∀k,p k->m<=k:=by
 intro n
 induction n using Nat.strongRecOn with
 |ind n ih=>
  intro h;rcases Classical.em (∃k,k<n/\p k) with ⟨k,hk,hp⟩|dr
  .exact ih k hk hp
  exact⟨n,h,fun k hk=>agh fun aq=>dr ⟨k,aq,hk⟩⟩
theorem UW(R:Nat->Nat->Prop)(x:Nat):∃m,bn R x m/\ld (bn R) m/\m<=x:=by obtain⟨m,h1,h2⟩:=ZA (p:=fun y=>bn R x y) x (.refl x);exact⟨m,h1,fun y hy=>h2 y (h1.trans hy),h2 x (.refl x)⟩
theorem aiJ{p:Nat->Bool}(hp:p x=true):∀ {l:List Nat},l.Nodup->x∈l->l.countP p=l.countP (fun y=>p y&&y !=x)+1:=by
 intro l
 induction l with
 |nil=>intro _ h;cases h
 |cons a l ih=>
  intro hn hm;obtain⟨h1,h2⟩:=nI.1 hn;rw[yI,yI];by_cases e:a=x
  .subst e;have hc:l.countP p=l.countP (fun y=>p y&&y !=a):=RO fun y hy=>by
    have:(y !=a)=true:=by simp;rintro rfl;exact h1 hy
    simp[this]
   simp[hp,hc]
  have hx:x∈l:=by rcases cI.1 hm with h|h;exact absurd h.symm e;exact h
  rw[ih h2 hx];have:(a !=x)=true:=by simp[e]
  simp only[this,xv];omega
abbrev qI(R:Nat->Nat->Prop)(a b:Nat)(x y:Nat):Prop:=R x y\/(x=a/\y=b)
theorem Ge{R:Nat->Nat->Prop}{a b y:Nat}:bn (qI R a b) x y↔bn R x y\/(bn R x a/\bn R b y)\/(bn R x b/\bn R a y):=by
 constructor
 .intro h
  induction h with
  |rel r=>
   rcases r with r|⟨rfl,rfl⟩
   .exact .inl (.rel r)
   exact .inr (.inl ⟨.refl _,.refl _⟩)
  |refl a=>exact .inl (.refl a)
  |symm _ ih=>
   rcases ih with h|⟨h1,h2⟩|⟨h1,h2⟩
   .exact .inl h.symm
   .exact .inr (.inr ⟨h2.symm,h1.symm⟩)
   exact .inr (.inl ⟨h2.symm,h1.symm⟩)
  |trans _ _ i1 i2=>
   rcases i1 with h|⟨h1,h2⟩|⟨h1,h2⟩<;>rcases i2 with k|⟨k1,k2⟩|⟨k1,k2⟩
   .exact .inl (h.trans k)
   .exact .inr (.inl ⟨h.trans k1,k2⟩)
   .exact .inr (.inr ⟨h.trans k1,k2⟩)
   .exact .inr (.inl ⟨h1,h2.trans k⟩)
   .exact .inr (.inl ⟨h1,k2⟩)
   .exact .inl (h1.trans k2)
   .exact .inr (.inr ⟨h1,h2.trans k⟩)
   .exact .inl (h1.trans k2)
   exact .inr (.inr ⟨h1,k2⟩)
 have up:∀ {u v},bn R u v->bn (qI R a b) u v:=fun h=>h.mono fun _ _ r=>.rel (.inl r);have ab:bn (qI R a b) a b:=.rel (.inr ⟨rfl,rfl⟩);rintro (h|⟨h1,h2⟩|⟨h1,h2⟩)
 .exact up h
 .exact(up h1).trans (ab.trans (up h2))
 exact(up h1).trans (ab.symm.trans (up h2))
theorem Se{R:Nat->Nat->Prop}{a b:Nat}(h:bn R a b)(n:Nat):K (bn (qI R a b)) n=K (bn R) n:=by
 refine HZ (fun x y=>?_) n;rw[Ge];constructor
 .rintro (k|⟨h1,h2⟩|⟨h1,h2⟩)
  .exact k
  .exact h1.trans (h.trans h2)
  exact h1.trans (h.symm.trans h2)
 exact .inl
theorem W3{E E':Nat->Nat->Prop}{n m:Nat}(hm:m<n)(h0:ld E m)(h:∀x,ld E' x↔ld E x/\x≠m):K E n=K E' n+1:=by unfold K;rw[aiJ (p:=Be E) (x:=m) (JI.2 h0) HS (fg.2 hm)];congr 1;refine RO fun x _=>?_;rw[JI,h,cN,JI];simp
theorem Sd{R:Nat->Nat->Prop}{a b n:Nat}(ha:a<n)(hb:b<n)(h:¬bn R a b):K (bn R) n=K (bn (qI R a b)) n+1:=by
 obtain⟨p,p1,p2,p3⟩:=UW R a;obtain⟨q,q1,q2,q3⟩:=UW R b;have hpq:p≠q:=fun e=>h (p1.trans (e▸q1.symm));rcases agi hpq with c|c
 .refine W3 (m:=q) aa q2 fun x=>⟨fun hx=>⟨fun y hy=>hx y (Ge.2 (.inl hy)),?_⟩,fun⟨hx,hxq⟩ y hy=>?_⟩
  .rintro rfl
   have:=hx p (Ge.2 (.inr (.inr ⟨q1.symm,p1⟩)));omega
  rcases Ge.1 hy with hy|⟨h1,h2⟩|⟨h1,h2⟩
  .exact hx y hy
  .have e1:=hx p (h1.trans p1);have e2:=q2 y (q1.symm.trans h2);omega
  have e1:=hx q (h1.trans q1);have e2:=q2 x (q1.symm.trans h1.symm);omega
 refine W3 (m:=p) aa p2 fun x=>⟨fun hx=>⟨fun y hy=>hx y (Ge.2 (.inl hy)),?_⟩,fun⟨hx,hxq⟩ y hy=>?_⟩
 .rintro rfl
  have:=hx q (Ge.2 (.inr (.inl ⟨p1.symm,q1⟩)));omega
 rcases Ge.1 hy with hy|⟨h1,h2⟩|⟨h1,h2⟩
 .exact hx y hy
 .have e1:=hx p (h1.trans p1);have e2:=p2 x (p1.symm.trans h1.symm);omega
 have e1:=hx q (h1.trans q1);have e2:=p2 y (p1.symm.trans h2);omega
theorem W4{R:Nat->Nat->Prop}{α:Type}{f:Nat->α}(h:∀a b,R a b->f a=f b){n:Nat}{reps:List Nat}(hr:∀x∈reps,x<n)(hn:(reps.map f).Nodup):reps.length<=K (bn R) n:=by
 have key:∀reps:List Nat,(∀x∈reps,x<n)->(reps.map f).Nodup->∃L:List Nat,L.length=reps.length/\L.Nodup/\(∀m∈L,m<n/\ld (bn R) m)/\ ∀m∈L,f m∈reps.map f:=by
  intro reps
  induction reps with
  |nil=>intro _ _;exact⟨[],rfl,vU,af,af⟩
  |cons a r ih=>
   intro hr hn;rw[fy,nI] at hn;obtain⟨L,l1,l2,l3,l4⟩:=ih (fun x hx=>hr x (by simp[hx])) hn.2;obtain⟨m,m1,m2,m3⟩:=UW R a;have hfm:f m=f a:=(m1.inv h).symm;have ha:=hr a af;refine⟨m::L,by simp[l1],nI.2 ⟨fun hm=>hn.1 (hfm▸l4 m hm),l2⟩,fun x hx=>?_,fun x hx=>?_⟩
   .rcases cI.1 hx with rfl|hx
    .exact⟨aa,m2⟩
    exact l3 x hx
   rcases cI.1 hx with rfl|hx
   .rw[hfm];simp
   rw[fy];exact yN _ (l4 x hx)
 obtain⟨L,l1,l2,l3,_⟩:=key reps hr hn;rw[<- l1];unfold K;rw[WI];have sub:∀(L M:List Nat),L.Nodup->(∀x∈L,x∈M)->L.length<=M.length:=by
  intro L
  induction L with
  |nil=>intro M _ _;exact bj _
  |cons a L ih=>intro M hn hs;obtain⟨h1,h2⟩:=nI.1 hn;have ha:=hs a af;have:=ih (M.erase a) h2 fun x hx=>(RZ (by rintro rfl;exact h1 hx)).2 (hs x (by simp[hx]));rw[RY ha] at this;have:0<M.length:=KM ha;simp only[cS];omega
 exact sub L _ l2 fun x hx=>vS.2 ⟨fg.2 (l3 x hx).1,JI.2 (l3 x hx).2⟩
theorem agk{R:Nat->Nat->Prop}{n:Nat}(h:∀x,x<n->bn R x 0):K (bn R) n<=1:=by
 unfold K;have hz:∀x∈List.range n,Be (bn R) x=true->x=0:=fun x hx hl=>by have:=JI.1 hl 0 (h x (fg.1 hx));omega
 have:∀l:List Nat,l.Nodup->(∀x∈l,Be (bn R) x=true->x=0)->l.countP (Be (bn R))<=1:=by
  intro l
  induction l with
  |nil=>intro _ _;simp
  |cons a l ih=>
   intro hn hl;obtain⟨h1,h2⟩:=nI.1 hn;rw[yI];by_cases c:Be (bn R) a=true
   .have ha:=hl a af c;subst ha;have:l.countP (Be (bn R))=0:=Oe.2 fun x hx qw=>h1 (by have:=hl x (by simp[hx]) qw;subst this;exact hx);simp[c,this]
   have:=ih h2 fun x hx=>hl x (by simp[hx]);simp[c,this]
 exact this _ HS hz
structure Perm (n:Nat) (p:Nat->Nat):Prop where
 lt:∀x,x<n->p x<n
 inj:∀x y,x<n->y<n->p x=p y->x=y
abbrev gr(n:Nat)(p:Nat->Nat)(x y:Nat):Prop:=x<n/\y=p x
def tr (p:Nat->Nat)(t:Nat×Nat)(x:Nat):Nat:=if x=t.1 then p t.2 else if x=t.2 then p t.1 else p x
theorem Rj(p:Nat->Nat)(a b x:Nat):tr p (a,b) x=p (if x=a then b else if x=b then a else x):=by
 unfold tr;simp only;split
 .rfl
 split<;>rfl
theorem Perm.tr{n:Nat}{p:Nat->Nat}(h:Perm n p){a b:Nat}(ha:a<n)(hb:b<n):Perm n (tr p (a,b)):=by
 have hs:∀x,x<n->(if x=a then b else if x=b then a else x)<n:=fun x hx=>by split<;>(try split)<;>assumption
 refine⟨fun x hx=>by rw[Rj];exact h.lt _ (hs x hx),fun x y hx hy e=>?_⟩;rw[Rj,Rj] at e;have e:=h.inj _ _ (hs x hx) (hs y hy) e;by_cases x1:x=a
 .rw[aD x1] at e;by_cases y1:y=a
  .omega
  rw[ay y1] at e;split at e<;>omega
 rw[ay x1] at e;by_cases y1:y=a
 .rw[aD y1] at e;split at e<;>omega
 rw[ay y1] at e;split at e<;>split at e<;>omega
def it (p:Nat->Nat):Nat->Nat->Nat
 |0,x=>x
 |k+1,x=>p (it p k x)
theorem Perm.Hb{n:Nat}{p:Nat->Nat}(h:Perm n p)(hx:x<n):∀k,it p k x<n:=by
 intro k
 induction k with
 |zero=>exact hx
 |succ k ih=>exact h.lt _ ih
theorem Perm.back{n:Nat}{p:Nat->Nat}(h:Perm n p)(hx:x<n):∀i j,it p (i+j) x=it p i x->it p j x=x:=by
 intro i
 induction i with
 |zero=>intro j e;rw[jm] at e;exact e
 |succ i ih=>intro j e;rw[show i+1+j=(i+j)+1 by omega] at e;exact ih j (h.inj _ _ (h.Hb hx _) (h.Hb hx _) e)
theorem Kp:∀(L M:List Nat),L.Nodup->(∀x∈L,x∈M)->L.length<=M.length:=by
 intro L
 induction L with
 |nil=>intro M _ _;exact bj _
 |cons a L ih=>intro M hn hs;obtain⟨h1,h2⟩:=nI.1 hn;have ha:=hs a af;have:=ih (M.erase a) h2 fun x hx=>(RZ (by rintro rfl;exact h1 hx)).2 (hs x (by simp[hx]));rw[RY ha] at this;have:0<M.length:=KM ha;simp only[cS];omega
theorem Perm.YM{n:Nat}{p:Nat->Nat}(h:Perm n p)(hx:x<n):∃m,it p (m+1) x=x:=by
 apply Classical.byContradiction;intro dr;have key:∀k,((List.range k).map fun i=>it p i x).Nodup:=by
  intro k
  induction k with
  |zero=>simp
  |succ k ih=>rw[uZ,rQ,DH];refine⟨ih,af,fun a ha b hb=>?_⟩;obtain⟨i,hi,rfl⟩:=dI.1 ha;have hi:=fg.1 hi;simp only[fy,pV,lK] at hb;subst hb;intro e;have:=h.back hx i (k-i) (by rw[show i+(k-i)=k by omega];exact e.symm);exact dr ⟨k-i-1,by rw[show k-i-1+1=k-i by omega];exact this⟩
 have:=Kp _ (List.range n) (key (n+1)) fun y hy=>by obtain⟨i,_,rfl⟩:=dI.1 hy;exact fg.2 (h.Hb hx i)
 rw[cH,KN,KN] at this;omega
theorem abm(p:Nat->Nat)(x:Nat):∀k,it p (k+1) x=it p k (p x):=by
 intro k
 induction k with
 |zero=>rfl
 |succ k ih=>show p (it p (k+1) x)=p (it p k (p x));rw[ih]
theorem afs{n:Nat}{p:Nat->Nat}(h:Perm n p){a b:Nat}(ha:a<n)(hb:b<n)(dX:¬bn (gr n p) a b):bn (gr n (tr p (a,b))) a b:=by
 obtain⟨m,hm⟩:=h.YM hb;have e0:tr p (a,b) a=p b:=by unfold tr;rw[aD rfl]
 have cP:∀k,bn (gr n p) b (it p k b):=by
  intro k
  induction k with
  |zero=>exact .refl _
  |succ k ih=>exact ih.trans (.rel ⟨h.Hb hb k,rfl⟩)
 have key:∀k,bn (gr n (tr p (a,b))) a b\/bn (gr n (tr p (a,b))) a (it p k (p b)):=by
  intro k
  induction k with
  |zero=>exact .inr (.rel ⟨ha,e0.symm⟩)
  |succ k ih=>
   rcases ih with ih|ih
   .exact .inl ih
   by_cases c:it p k (p b)=b
   .rw[c] at ih;exact .inl ih
   refine .inr (ih.trans (.rel ⟨h.Hb (h.lt _ hb) k,?_⟩));have na:it p k (p b)≠a:=fun e=>dX (by have:=cP (k+1);rw[abm,e] at this;exact this.symm)
   unfold tr;rw[ay na,ay c];rfl
 rcases key m with k|k
 .exact k
 rw[<- abm,hm] at k;exact k
theorem Sm{n:Nat}{p:Nat->Nat}{a b:Nat}(ha:a<n)(hb:b<n){S:Nat->Nat->Prop}{x y:Nat}:bn (qI (fun x y=>gr n (tr p (a,b)) x y\/S x y) a b) x y↔bn (qI (fun x y=>gr n p x y\/S x y) a b) x y:=by
 have ab:∀R:Nat->Nat->Prop,bn (qI R a b) a b:=fun R=>.rel (.inr ⟨rfl,rfl⟩);constructor
 .refine bn.mono fun u v r=>?_;rcases r with (⟨hu,rfl⟩|s)|⟨rfl,rfl⟩
  .unfold tr;simp only;by_cases c:u=a
   .subst c;rw[aD rfl];exact(ab _).trans (.rel (.inl (.inl ⟨hb,rfl⟩)))
   rw[ay c];by_cases d:u=b
   .subst d;rw[aD rfl];exact(ab _).symm.trans (.rel (.inl (.inl ⟨ha,rfl⟩)))
   rw[ay d];exact .rel (.inl (.inl ⟨hu,rfl⟩))
  .exact .rel (.inl (.inr s))
  exact ab _
 refine bn.mono fun u v r=>?_;rcases r with (⟨hu,rfl⟩|s)|⟨rfl,rfl⟩
 .by_cases c:u=a
  .subst c;refine(ab _).trans (.rel (.inl (.inl ⟨hb,?_⟩)));unfold tr;simp only;by_cases d:b=u
   .rw[aD d,d]
   rw[ay d];simp
  by_cases d:u=b
  .subst d;refine(ab _).symm.trans (.rel (.inl (.inl ⟨ha,?_⟩)));unfold tr;rw[aD rfl]
  refine .rel (.inl (.inl ⟨hu,?_⟩));unfold tr;rw[ay c,ay d]
 .exact .rel (.inl (.inr s))
 exact ab _
abbrev inT(ts:List (Nat×Nat))(x y:Nat):Prop:=(x,y)∈ts
abbrev xP(n:Nat)(p:Nat->Nat)(ts:List (Nat×Nat))(x y:Nat):Prop:=gr n p x y\/inT ts x y
theorem ajC{n:Nat}:∀(ts:List (Nat×Nat)) (p:Nat->Nat),Perm n p->(∀t∈ts,t.1<n/\t.2<n)->
  K (bn (gr n (ts.foldl tr p))) n+K (bn (gr n p)) n<=2*K (bn (xP n p ts)) n+ts.length:=by
 intro ts
 induction ts with
 |nil=>
  intro p _ _;have:K (bn (xP n p [])) n=K (bn (gr n p)) n:=HZ (fun x y=>⟨bn.mono (R:=xP n p []) (R':=gr n p) (fun u v r=>by
   rcases r with r|r
   .exact .rel r
   cases r),bn.mono (R:=gr n p) (R':=xP n p []) (fun u v r=>.rel (.inl r))⟩) n
  rw[this];simp only[Oh,eE];omega
 |cons t ts ih=>
  intro p hp ht;obtain⟨a,b⟩:=t;obtain⟨ha,hb⟩:=ht (a,b) af
  replace ha:a<n:=ha
  replace hb:b<n:=hb
  have ih:=ih (tr p (a,b)) (hp.tr ha hb) fun t h=>ht t (by simp[h]);have all:∀x y,bn (xP n p ((a,b)::ts)) x y↔bn (qI (xP n (tr p (a,b)) ts) a b) x y:=fun x y=>by
   refine Iff.trans ⟨bn.mono fun u v r=>?_,bn.mono fun u v r=>?_⟩ (Sm (S:=inT ts) ha hb).symm
   .rcases r with r|r
    .exact .rel (.inl (.inl r))
    rcases cI.1 r with r|r
    .cases r;exact .rel (.inr ⟨rfl,rfl⟩)
    exact .rel (.inl (.inr r))
   rcases r with (r|r)|⟨rfl,rfl⟩
   .exact .rel (.inl r)
   .exact .rel (.inr (yN _ r))
   exact .rel (.inr (KR ..))
  have one:∀x y,bn (qI (gr n (tr p (a,b))) a b) x y↔bn (qI (gr n p) a b) x y:=fun x y=>by have h:=Sm (p:=p) (S:=fun _ _=>False) ha hb (x:=x) (y:=y);have e:∀q:Nat->Nat,(fun x y=>gr n q x y\/False)=gr n q:=fun q=>funext fun x=>funext fun y=>propext af;rw[e,e] at h;exact h
  rw[HZ all];simp only[uY,cS];have kj:K (bn (qI (gr n (tr p (a,b))) a b)) n=K (bn (qI (gr n p) a b)) n:=HZ one n;have sm:∀R:Nat->Nat->Prop,bn R a b->K (bn (qI R a b)) n=K (bn R) n:=fun R h=>Se h n;have jn:∀R:Nat->Nat->Prop,¬bn R a b->K (bn R) n=K (bn (qI R a b)) n+1:=fun R h=>Sd ha hb h;rcases Classical.em (bn (gr n p) a b) with c|c
  .have k1:=sm _ c;rcases Classical.em (bn (gr n (tr p (a,b))) a b) with d|d
   .have k2:=sm _ d;have k3:=sm _ (d.mono (R':=xP n (tr p (a,b)) ts) fun u v r=>.rel (.inl r));omega
   have k2:=jn _ d;rcases Classical.em (bn (xP n (tr p (a,b)) ts) a b) with d2|d2
   .have k3:=sm _ d2;omega
   have k3:=jn _ d2;omega
  have k1:=jn _ c;have d:=afs hp ha hb c;have k2:=sm _ d;have k3:=sm _ (d.mono (R':=xP n (tr p (a,b)) ts) fun u v r=>.rel (.inl r));omega
def rv (x:Nat):Nat:=if x%2=0 then x+1 else x-1
theorem vM(k:Nat):rv (2*k)=2*k+1:=by unfold rv;rw[aD aa]
theorem Br(k:Nat):rv (2*k+1)=2*k:=by unfold rv;rw[ay aa];rfl
theorem Dl(x:Nat):rv (rv x)=x:=by
 rcases Ax x with h|h
 .rw[show x=2*(x/2) by omega,vM,Br]
 rw[show x=2*(x/2)+1 by omega,Br,vM]
theorem Bs{m:Nat}(h:x<2*m):rv x<2*m:=by unfold rv;split<;>omega
theorem aqX(x:Nat):rv x/2=x/2:=by unfold rv;split<;>omega
theorem Ai(n v:Nat)(g:Bool):rv (dT n v g)=jf n v (!g):=by
 cases g with
 |true=>exact vM _
 |false=>exact Br _
theorem aqW(n v:Nat)(g:Bool):rv (jf n v g)=dT n v (!g):=by
 cases g with
 |true=>exact vM _
 |false=>exact Br _
theorem DR{n v:Nat}(hv:v<n)(g:Bool):jf n v g<2*n:=by have:=ez (v+n-1) (show 0<n by omega);unfold jf;split<;>omega
theorem Ii{n:Nat}(hx:x<2*n):x=jf n (if x%2=0 then (x/2+1)%n else x/2) (x%2==0):=by
 unfold jf;rcases Ax x with h|h
 .simp only[h,BD,if_true];rw[Hh aa];omega
 simp only[h,show((1:Nat)==0)=false from rfl,dQ,if_false,Sb];omega
section
variable {F:Nat} {ls:List Let}
theorem afw{v:Nat}{l:Let}(hl:ls[v]?=some l)(fw:Bool):aY ls (jf ls.length v fw)=if l.kind==2 then dT ls.length (hJ ls v) (fw==(l.over==(l.sign==1)))
   else if dn ls v==fw then 2*ls.length+2*(aB ls).idxOf v else 2*ls.length+2*(((aB ls).idxOf v+(aB ls).length-1)%(aB ls).length)+1:=by
 have hv:=(bg.1 hl).1;have aq:=DR hv fw;refine afv aa ?_ ?_ hl
 .unfold jf;cases fw<;>simp
 unfold jf;cases fw with
 |true=>simp only[if_true];rw[show 2*((v+ls.length-1)%ls.length)/2=(v+ls.length-1)%ls.length by omega,vF hv]
 |false=>simp only[dQ,if_false];omega
theorem Dv{v:Nat}{l:Let}(hl:ls[v]?=some l)(hc:l.aG=true)(fw:Bool):aY ls (jf ls.length v fw)=dT ls.length (hJ ls v) (fw==(l.over==(l.sign==1))):=by rw[afw hl];unfold Let.aG at hc;rw[aD hc]
theorem Kw{v:Nat}{l:Let}(hl:ls[v]?=some l)(hp:l.aJ=true)(fw:Bool):aY ls (jf ls.length v fw)=if dn ls v==fw then 2*ls.length+2*(aB ls).idxOf v else 2*ls.length+2*(((aB ls).idxOf v+(aB ls).length-1)%(aB ls).length)+1:=by have:=sD hp;unfold Let.aG at this;rw[afw hl,ay (by rw[this];decide)]
theorem HE(k:Nat):aY ls (2*ls.length+2*k)=dT ls.length ((aB ls).getD ((k+1)%(aB ls).length) 0) (!dn ls ((aB ls).getD ((k+1)%(aB ls).length) 0)):=by show gu _ _ _=_;unfold gu;rw[aD aa,aD aa,show(2*ls.length+2*k-2*ls.length)/2=k by omega]
theorem HD(k:Nat):aY ls (2*ls.length+2*k+1)=dT ls.length ((aB ls).getD k 0) (dn ls ((aB ls).getD k 0)):=by show gu _ _ _=_;unfold gu;rw[aD aa,ay aa,show(2*ls.length+2*k+1-2*ls.length)/2=k by omega]
theorem BP{k:Nat}(hk:k<(aB ls).length):∃l,ls[(aB ls).getD k 0]?=some l/\l.aJ=true:=by obtain⟨v,hv⟩:=aM hk;rw[cY,hv,lZ];exact sY.1 (aW hv)
theorem Ij{v:Nat}{l:Let}(ok:eH F ls)(hl:ls[v]?=some l)(hp:l.aJ=true):(aB ls).idxOf v<(aB ls).length/\(aB ls).getD ((aB ls).idxOf v) 0=v:=by have h1:=SA ok.ax hl hp;rw[Lb ok.ax hl hp];exact⟨(bg.1 h1).1,by rw[cY,h1];rfl⟩
theorem aff(ok:eH F ls){v:Nat}(hv:v<ls.length)(fw:Bool):aY ls (rv (aY ls (jf ls.length v fw)))=dT ls.length v fw:=by
 obtain⟨l,hl⟩:=aM hv;rcases ok.kinds l (aW hl) with hp|hc
 .obtain⟨h1,h2⟩:=Ij ok hl hp;rw[Kw hl hp];by_cases c:(dn ls v==fw)=true
  .rw[aD c,show 2*ls.length+2*(aB ls).idxOf v=2*(ls.length+(aB ls).idxOf v) by omega,vM,show 2*(ls.length+(aB ls).idxOf v)+1=2*ls.length+2*(aB ls).idxOf v+1 by omega,HD,h2];rw[eq_of_beq c]
  rw[ay c];have c:dn ls v= !fw:=by revert c;cases dn ls v<;>cases fw<;>simp
  have hm:=ez ((aB ls).idxOf v+(aB ls).length-1) (show 0<(aB ls).length by omega);rw[show 2*ls.length+2*(((aB ls).idxOf v+(aB ls).length-1)%(aB ls).length)+1=2*(ls.length+((aB ls).idxOf v+(aB ls).length-1)%(aB ls).length)+1 by omega,Br,
   show 2*(ls.length+((aB ls).idxOf v+(aB ls).length-1)%(aB ls).length)=2*ls.length+2*(((aB ls).idxOf v+(aB ls).length-1)%(aB ls).length) by omega,HE,vF h1,h2,c,Oc]
 obtain⟨h1,m,hm,mc,mi,mo,ms⟩:=sE ok.cr hl hc;rw[Dv hl hc,Ai,Dv hm mc,h1,mo,ms];cases fw<;>cases l.over<;>cases (l.sign==1)<;>rfl
def nQ(ls:List Let)(x:Nat):Nat:=
 if 2*ls.length<=x then (if x%2=0 then (aB ls).getD (((x-2*ls.length)/2+1)%(aB ls).length) 0 else (aB ls).getD ((x-2*ls.length)/2) 0)
 else if x%2=0 then (x/2+1)%ls.length else x/2
def acL(ls:List Let)(x:Nat):Bool:=decide (2*ls.length<=x)||(match ls[nQ ls x]? with|some l=>l.aG&&l.over|none=>false)
def kS(ls:List Let)(i:Nat):Int×Int:=match ls[i]? with|some l=>if l.aG then (1,l.id) else (0,i)|none=>(2,0)
theorem EA{v:Nat}(hv:v<ls.length)(fw:Bool):nQ ls (jf ls.length v fw)=v:=by
 have aq:=DR hv fw;unfold nQ;rw[ay aa];unfold jf;cases fw with
 |true=>simp only[if_true];rw[aD aa,show 2*((v+ls.length-1)%ls.length)/2=(v+ls.length-1)%ls.length by omega,vF hv]
 |false=>simp only[dQ,if_false];rw[ay aa];omega
theorem Sj{v:Nat}{l:Let}(hl:ls[v]?=some l)(fw:Bool):acL ls (jf ls.length v fw)=(l.aG&&l.over):=by have hv:=(bg.1 hl).1;have aq:=DR hv fw;unfold acL;rw[EA hv,hl];have:¬2*ls.length<=jf ls.length v fw:=aa;simp[this]
theorem aaH(k:Nat):nQ ls (2*ls.length+2*k)=(aB ls).getD ((k+1)%(aB ls).length) 0:=by unfold nQ;rw[aD aa,aD aa,show(2*ls.length+2*k-2*ls.length)/2=k by omega]
theorem aaG(k:Nat):nQ ls (2*ls.length+2*k+1)=(aB ls).getD k 0:=by unfold nQ;rw[aD aa,ay aa,show(2*ls.length+2*k+1-2*ls.length)/2=k by omega]
theorem Sk(h:2*ls.length<=x):acL ls x=true:=by unfold acL;simp[h]
theorem as9(ok:eH F ls)(hx:x<nD ls):kS ls (nQ ls (rv (aY ls x)))=kS ls (nQ ls x)/\acL ls (rv (aY ls x))= !acL ls x:=by
 unfold nD at hx;rcases Oq x (2*ls.length) with c|c
 .have hv:(if x%2=0 then (x/2+1)%ls.length else x/2)<ls.length:=by
   have:=ez (x/2+1) (show 0<ls.length by omega);split<;>omega
  rw[Ii c];generalize (if x%2=0 then (x/2+1)%ls.length else x/2)=v at hv;generalize (x%2==0)=fw;obtain⟨l,hl⟩:=aM hv;rw[EA hv,Sj hl];rcases ok.kinds l (aW hl) with hp|hc
  .obtain⟨h1,h2⟩:=Ij ok hl hp;rw[sD hp,Kw hl hp];by_cases d:(dn ls v==fw)=true
   .rw[aD d,show 2*ls.length+2*(aB ls).idxOf v=2*(ls.length+(aB ls).idxOf v) by omega,vM,show 2*(ls.length+(aB ls).idxOf v)+1=2*ls.length+2*(aB ls).idxOf v+1 by omega,aaG,h2,Sk aa];exact⟨rfl,rfl⟩
   rw[ay d,show 2*ls.length+2*(((aB ls).idxOf v+(aB ls).length-1)%(aB ls).length)+1=2*(ls.length+((aB ls).idxOf v+(aB ls).length-1)%(aB ls).length)+1 by omega,Br,
    show 2*(ls.length+((aB ls).idxOf v+(aB ls).length-1)%(aB ls).length)=2*ls.length+2*(((aB ls).idxOf v+(aB ls).length-1)%(aB ls).length) by omega,aaH,vF h1,h2,Sk aa]
   exact⟨rfl,rfl⟩
  obtain⟨h1,m,hm,mc,mi,mo,ms⟩:=sE ok.cr hl hc;have hw:=(bg.1 hm).1;rw[Dv hl hc,Ai,EA hw,Sj hm];unfold kS;simp[hl,hm,hc,mc,mi,mo]
 rw[Sk c];have key:∀k,k<(aB ls).length->∀g,kS ls (nQ ls (rv (dT ls.length ((aB ls).getD k 0) g)))=kS ls ((aB ls).getD k 0)/\acL ls (rv (dT ls.length ((aB ls).getD k 0) g))= !true:=fun k hk g=>by obtain⟨l,hl,hp⟩:=BP hk;rw[Ai,EA (bg.1 hl).1,Sj hl,sD hp];exact⟨rfl,rfl⟩
 rcases Ax x with d|d
 .rw[show x=2*ls.length+2*((x-2*ls.length)/2) by omega,HE,aaH];exact key _ (ez _ aa) _
 rw[show x=2*ls.length+2*((x-2*ls.length)/2)+1 by omega,HD,aaG];exact key _ aa _
end
theorem atl{next:Nat->Nat}{N:Nat}{R:Nat->Nat->Prop}(aq:∀x,x<N->next x<N)(h:∀x,x<N->bn R x (next x)):∀(k x:Nat) (S:List Bool),x<N->∀y∈(ff next k x S).1,bn R x y:=by
 intro k
 induction k with
 |zero=>intro x S _ y hy;simp[ff] at hy
 |succ k ih=>
  intro x S hx y hy;unfold ff at hy;split at hy
  .simp at hy
  rcases cI.1 hy with rfl|hy
  .exact .refl _
  exact(h x hx).trans (ih (next x) _ (aq x hx) y hy)
theorem att{next:Nat->Nat}{N:Nat}(m:yQ next n2 N){R:Nat->Nat->Prop}(h:∀x,x<N->bn R x (next x)):∀k,k<=N->∀w∈(dz next N k).1,∀x∈w,∀y∈w,bn R x y:=by
 intro k
 induction k with
 |zero=>intro _ w hw;simp[dz] at hw
 |succ k ih=>
  intro hk w hw x hx y hy;rw[yH] at hw;unfold uX at hw;split at hw
  .exact ih aa w hw x hx y hy
  rcases dZ.1 hw with hw|hw
  .exact ih aa w hw x hx y hy
  simp only[lK] at hw;subst hw;have hj:=atl (R:=R) m.lt h ((dz next N k).2.length+1) k (dz next N k).2 aa;exact(hj x hx).symm.trans (hj y hy)
theorem atx{next:Nat->Nat}{N:Nat}(m:yQ next n2 N):∀k,k<=n2->∀w∈(dz next N k).1,∀x∈w,next x∈w:=by
 intro k
 induction k with
 |zero=>intro _ w hw;simp[dz] at hw
 |succ k ih=>
  intro hk w hw x hx;obtain⟨c0,_⟩:=Rp m k aa;obtain⟨c1,_⟩:=Rp m (k+1) hk;rw[yH] at hw c1;unfold uX at hw c1;cases hs:(dz next N k).2.getD k true with
  |true=>rw[hs,aD rfl] at hw;exact ih aa w hw x hx
  |false=>
   rw[hs,ay ae] at hw c1;rcases dZ.1 hw with hw|hw
   .exact ih aa w hw x hx
   simp only[lK] at hw;subst hw;obtain⟨g1,g2,g3⟩:=afI next ((dz next N k).2.length+1) k (dz next N k).2;have Bd:x<N:=by have:=Q8 (g1 x hx);have:=HH next N k;omega
   have e0:=c0 x Bd;have e1:=c1 x Bd;rw[g3,g3,g1 x hx] at e1;rw[g1 x hx] at e0;simp only[DA,hx,decide_true,<- e0] at e1;exact l7 e1.symm
theorem Ao{next:Nat->Nat}{N:Nat}(m:yQ next n2 N){w:List Nat}(hw:w∈eh next N)(hx:x∈w):next x∈w:=by unfold eh at hw;rw[Ww m N m.le (bJ _)] at hw;exact atx m n2 (bJ _) w hw x hx
theorem Wx{next:Nat->Nat}{N:Nat}(m:yQ next n2 N){R:Nat->Nat->Prop}(h:∀x,x<N->bn R x (next x)){w:List Nat}(hw:w∈eh next N){x y:Nat}(hx:x∈w)(hy:y∈w):bn R x y:=att m h N (bJ _) w hw x hx y hy
def Dy(L:List (List Nat))(x:Nat):Nat:=L.findIdx fun w=>w.contains x
theorem NY{L:List (List Nat)}(h:L.flatten.Nodup){i:Nat}{w:List Nat}(hi:L[i]?=some w)(hx:x∈w):Dy L x=i:=by
 have hm:w.contains x=true:=by simpa using hx
 have aq:L.findIdx (fun w=>w.contains x)<L.length:=atQ ⟨w,aW hi,hm⟩;have hp:=af5 (w:=aq);have hj:L[L.findIdx fun w=>w.contains x]?=some (L[L.findIdx fun w=>w.contains x]'aq):=oJ aq;exact ac6 h hj hi (by simpa using hp) hx
theorem ams:∀ {L:List (List Nat)},L.flatten.Nodup->(∀w∈L,w≠[])->((L.map (·.headD 0)).map (Dy L))=List.range L.length:=by
 intro L h aI;apply Au;intro i;rw[fT,fT];by_cases hi:i<L.length
 .have e:=oJ hi;rw[e,rO hi];simp only[kU];have hw:=aI _ (aW e);rw[NY h e (x:=L[i].headD 0) (by
   cases hL:L[i] with
   |nil=>exact absurd hL hw
   |cons a r=>simp)]
 rw[mS aa,mS (by simp;omega)];rfl
def fx (b:Bool)(s:Nat):Nat:=if b then 1-s else s
theorem Pj{b:Bool}{s:Nat}(h:s<2):fx b s<2:=by unfold fx;split<;>omega
theorem Z7{b:Bool}{s:Nat}(h:s<2):fx b (fx b s)=s:=by unfold fx;cases b<;>simp;omega
def tJ(p:Nat->Bool)(y:Nat):Nat:=2*rv (y/2)+fx (p (y/2)) (y%2)
def sgC(p:Nat->Bool)(nx:Nat->Nat)(y:Nat):Nat:=2*nx (rv (y/2))+fx (p (y/2)) (y%2)
def tsC(p:Nat->Bool)(k:Nat):List (Nat×Nat):=(List.range k).flatMap fun e=>[(4*e,tJ p (4*e)),(4*e+1,tJ p (4*e+1))]
theorem Sn(p:Nat->Bool)(e:Nat):tJ p (4*e)=if p (2*e) then 4*e+3 else 4*e+2:=by unfold tJ fx;rw[show 4*e/2=2*e by omega,vM,show 4*e%2=0 by omega];split<;>omega
theorem So(p:Nat->Bool)(e:Nat):tJ p (4*e+1)=if p (2*e) then 4*e+2 else 4*e+3:=by unfold tJ fx;rw[show(4*e+1)/2=2*e by omega,vM,show(4*e+1)%2=1 by omega];split<;>omega
theorem agQ{p:Nat->Bool}(hp:∀x,p (rv x)=p x)(e:Nat):tJ p (4*e+2)=if p (2*e) then 4*e+1 else 4*e:=by unfold tJ fx;rw[show(4*e+2)/2=2*e+1 by omega,Br,show(4*e+2)%2=0 by omega,<- hp (2*e),vM];split<;>omega
theorem agR{p:Nat->Bool}(hp:∀x,p (rv x)=p x)(e:Nat):tJ p (4*e+3)=if p (2*e) then 4*e else 4*e+1:=by unfold tJ fx;rw[show(4*e+3)/2=2*e+1 by omega,Br,show(4*e+3)%2=1 by omega,<- hp (2*e),vM];split<;>omega
theorem as6(p:Nat->Bool){k e:Nat}(h:e<k):(4*e,tJ p (4*e))∈tsC p k/\(4*e+1,tJ p (4*e+1))∈tsC p k:=
 ⟨Om.2 ⟨e,fg.2 h,af⟩,Om.2 ⟨e,fg.2 h,af⟩⟩
theorem acw{α β:Type}{P:α->β->Prop}{f:β->α}(hf:∀a b,P a b->f b=a):∀ {L:List α},(∀a∈L,∃b,P a b)->∃M:List β,M.map f=L/\ ∀b∈M,∃a∈L,P a b:=by
 intro L
 induction L with
 |nil=>intro _;exact⟨[],rfl,af⟩
 |cons a L ih=>
  intro h;obtain⟨b,hb⟩:=h a af;obtain⟨M,h1,h2⟩:=ih fun x hx=>h x (by simp[hx]);refine⟨b::M,by rw[fy,h1,hf a b hb],fun x hx=>?_⟩;rcases cI.1 hx with rfl|hx
  .exact⟨a,af,hb⟩
  obtain⟨c,hc,hp⟩:=h2 x hx;exact⟨c,by simp[hc],hp⟩
section
variable {F:Nat} {ls:List Let}
theorem aht(ok:eH F ls):(aB ls).Nodup:=by have:=XH ok.ax ls.length (bJ _);refine af0 (fun {a b} h e=>?_) this;subst e;exact absurd h (Nat.lt_irrefl _)
theorem acr(ok:eH F ls):ls.length=aC Let.aJ ls+aC Let.aG ls:=by
 have:∀l:List Let,(∀x∈l,x.aJ=true\/x.aG=true)->l.length=aC Let.aJ l+aC Let.aG l:=by
  intro l
  induction l with
  |nil=>intro _;rfl
  |cons a l ih=>
   intro h;have ih:=ih fun x hx=>h x (by simp[hx]);unfold aC at ih ⊢;rw[yI,yI,cS,ih];rcases h a af with c|c
   .rw[c,sD c];simp;omega
   have:a.aJ=false:=by cases hp:a.aJ;rfl;rw[sD hp] at c;cases c
   rw[c,this];simp;omega
 exact this ls ok.kinds
theorem ath(ok:eH F ls):∃L:List Nat,L.length=aC Let.aJ ls+aC Let.aG ls/2/\(∀j∈L,j<ls.length)/\(L.map (kS ls)).Nodup:=by
 have hc:=ok.cr;unfold lQ at hc;simp only[cN,dL] at hc;have hid:=hc.2
 let ids:List (Int×Int):=(fe ls ls.length).map fun id=>(1,id)
 have ak8:∀a∈ids,∃j,(kS ls j=a/\j<ls.length):=by intro a ha;obtain⟨id,hi,rfl⟩:=dI.1 ha;obtain⟨j,o,hj,hh⟩:=(G0 (bJ _)).1 hi;obtain⟨m,hm,mc,mi,_⟩:=A4 hh;refine⟨j,?_,hj⟩;unfold kS;rw[hm];simp[mc,mi]
 obtain⟨M,m1,m2⟩:=acw (P:=fun a j=>kS ls j=a/\j<ls.length) (f:=kS ls) (fun a b h=>h.1) ak8;have jF:∀i∈aB ls,i<ls.length/\kS ls i=(0,(i:Int)):=fun i hi=>by obtain⟨l,hl,hp⟩:=sY.1 hi;refine⟨(bg.1 hl).1,?_⟩;unfold kS;rw[hl];simp[sD hp]
 refine⟨aB ls++M,?_,fun j hj=>?_,?_⟩
 .have:M.length=(fe ls ls.length).length:=by
   have:=congrArg List.length m1
   simpa [ids] using this
  rw[eG,this,hid,La]
 .rcases dZ.1 hj with hj|hj
  .exact(jF j hj).1
  obtain⟨_,_,h⟩:=m2 j hj;exact h.2
 rw[rQ,m1,DH];refine⟨?_,?_,?_⟩
 .have:(aB ls).map (kS ls)=(aB ls).map fun i:Nat=>((0:Int),(i:Int)):=KO fun i hi=>(jF i hi).2;rw[this];refine BC.2 (af0 (fun {a b} h e=>h ?_) (aht ok));have:=congrArg Prod.snd e;simp only at this;omega
 .refine BC.2 (af0 (fun {a b} h e=>h ?_) (PW ls ls.length));exact congrArg Prod.snd e
 intro a ha b hb e;obtain⟨i,hi,rfl⟩:=dI.1 ha;obtain⟨id,_,rfl⟩:=dI.1 hb;rw[(jF i hi).2] at e;have:=congrArg Prod.fst e;simp at this
end
section
variable {F:Nat} {ls:List Let} {p:Nat->Bool}
abbrev cvR(ls:List Let)(p:Nat->Bool):Nat->Nat->Prop:=xP (2*nD ls) (sgC p (aY ls)) (tsC p (ls.length+(aB ls).length))
theorem Hj(ls:List Let):nD ls=2*(ls.length+(aB ls).length):=by unfold nD;omega
theorem aiP(hp:∀x,p (rv x)=p x){y:Nat}(hy:y<2*nD ls):bn (cvR ls p) y (tJ p y):=by
 have hN:=Hj ls;obtain⟨h1,h2⟩:=as6 p (k:=ls.length+(aB ls).length) (e:=y/4) aa;have r1:bn (cvR ls p) (4*(y/4)) (tJ p (4*(y/4))):=.rel (.inr h1);have r2:bn (cvR ls p) (4*(y/4)+1) (tJ p (4*(y/4)+1)):=.rel (.inr h2);have a2:=agQ hp (y/4);have a3:=agR hp (y/4);rcases(by omega:y=4*(y/4)\/y=4*(y/4)+1\/y=4*(y/4)+2\/y=4*(y/4)+3) with e|e|e|e
 .rw[<- e] at r1;exact r1
 .rw[<- e] at r2;exact r2
 .rw[<- e] at a2;rw[a2];rw[Sn] at r1;rw[So] at r2;by_cases c:p (2*(y/4))=true
  .rw[aD c] at r2 ⊢;rw[<- e] at r2;exact r2.symm
  rw[ay c] at r1 ⊢;rw[<- e] at r1;exact r1.symm
 rw[<- e] at a3;rw[a3];rw[Sn] at r1;rw[So] at r2;by_cases c:p (2*(y/4))=true
 .rw[aD c] at r1 ⊢;rw[<- e] at r1;exact r1.symm
 rw[ay c] at r2 ⊢;rw[<- e] at r2;exact r2.symm
theorem YL(hp:∀x,p (rv x)=p x){x s:Nat}(hx:x<nD ls)(hs:s<2):bn (cvR ls p) (2*x+s) (2*rv x+fx (p x) s):=by have:=aiP (ls:=ls) hp (y:=2*x+s) aa;unfold tJ at this;rwa[show(2*x+s)/2=x by omega,show(2*x+s)%2=s by omega] at this
theorem YK(hp:∀x,p (rv x)=p x){x s:Nat}(hx:x<nD ls)(hs:s<2):bn (cvR ls p) (2*x+s) (2*aY ls x+s):=by
 have hN:=Hj ls;have hf:fx (p x) s<2:=Pj hs;refine(YL hp hx hs).trans (.rel (.inl ⟨?_,?_⟩))
 .have:rv x<nD ls:=by rw[hN];exact Bs aa
  omega
 unfold sgC;rw[show(2*rv x+fx (p x) s)/2=rv x by omega,show(2*rv x+fx (p x) s)%2=fx (p x) s by omega,Dl,hp,Z7 hs]
def AY(ls:List Let)(p:Nat->Bool)(x:Nat):Prop:= ∃b,∀s,s<2->bn (cvR ls p) (2*x+s) (fx b s)
theorem akL(ls:List Let)(p:Nat->Bool):AY ls p 0:=⟨false,fun s _=>by rw[show 2*0+s=s by omega];exact .refl _⟩
theorem akv(a b:Bool){s:Nat}(h:s<2):fx a (fx b s)=fx (a !=b) s:=by unfold fx;cases a<;>cases b<;>simp;omega
theorem aak(hp:∀x,p (rv x)=p x){x:Nat}(hx:x<nD ls)(h:AY ls p x):AY ls p (rv x):=by obtain⟨b,h⟩:=h;refine⟨b !=p x,fun s hs=>?_⟩;have h1:=(YL hp hx (s:=fx (p x) s) (Pj hs)).symm.trans (h (fx (p x) s) (Pj hs));rwa[Z7 hs,akv _ _ hs] at h1
theorem aaj(hp:∀x,p (rv x)=p x){x:Nat}(hx:x<nD ls)(h:AY ls p x):AY ls p (aY ls x):=by obtain⟨t,h⟩:=h;exact⟨t,fun s hs=>(YK hp hx hs).symm.trans (h s hs)⟩
theorem akK(hp:∀x,p (rv x)=p x){x:Nat}(hx:x<nD ls)(h:AY ls p (aY ls x)):AY ls p x:=by obtain⟨t,h⟩:=h;exact⟨t,fun s hs=>(YK hp hx hs).trans (h s hs)⟩
theorem akJ(hp:∀x,p (rv x)=p x)(ok:eH F ls){x:Nat}(hx:x<nD ls):AY ls p x:=by
 have m:=maps ok;have hN:=Hj ls;have GQ:∀y,y<nD ls->rv y<nD ls:=fun y hy=>by rw[hN] at hy ⊢;exact Bs hy
 have fwd:∀i,i<ls.length->AY ls p (2*i):=by
  intro i
  induction i with
  |zero=>intro _;exact akL ls p
  |succ i ih=>
   intro hi;have h0:=ih aa;have h2:2*i<nD ls:=aa;have h3:=aaj hp h2 h0;have h4:=m.lt _ h2;have h5:=aaj hp (GQ _ h4) (aak hp h4 h3);have e:2*i=jf ls.length (i+1) true:=by unfold jf;rw[aD rfl,show i+1+ls.length-1=i+ls.length by omega,DI,jN aa]
   rw[e,aff ok hi] at h5;exact h5
 have str:∀y,y<2*ls.length->AY ls p y:=fun y hy=>by
  rcases Ax y with c|c
  .rw[show y=2*(y/2) by omega];exact fwd _ aa
  have:=aak hp (x:=2*(y/2)) aa (fwd (y/2) aa);rw[vM] at this;rw[show y=2*(y/2)+1 by omega];exact this
 rcases Oq x (2*ls.length) with c|c
 .exact str x c
 exact akK hp hx (str _ (m.ax x hx c))
end
section
variable {F:Nat} {ls:List Let}
end
theorem atw{next:Nat->Nat}{N:Nat}(m:yQ next n2 N){α:Type}{φ:Nat->α}(hφ:∀x,x<N->φ (next x)=φ x){reps:List Nat}(hr:∀x∈reps,x<N)(hn:(reps.map φ).Nodup):reps.length<=(eh next N).length:=by
 have MI:=HJ next N;have iT:∀x,x<N->∃(i:Nat) (w:List Nat),(eh next N)[i]?=some w/\x∈w/\Dy (eh next N) x=i:=fun x hx=>by obtain⟨w,hw,EW⟩:=HR.1 (MI.2 x hx);obtain⟨i,hi⟩:=jd hw;exact⟨i,w,hi,EW,NY MI.1 hi EW⟩
 have ak9:∀a b,bn (fun x y=>x<N/\y=next x) a b->φ a=φ b:=fun a b h=>by
  induction h with
  |rel h=>rw[h.2,hφ _ h.1]
  |refl _=>rfl
  |symm _ ih=>exact ih.symm
  |trans _ _ h1 h2=>exact h1.trans h2
 have Uw:∀x,x<N->∀y,y<N->Dy (eh next N) x=Dy (eh next N) y->φ x=φ y:=fun x hx y hy e=>by obtain⟨i,w,hi,EW,e1⟩:=iT x hx;obtain⟨j,v,hj,hyv,e2⟩:=iT y hy;rw[e1,e2] at e;subst e;rw[hi] at hj;cases hj;exact ak9 x y (Wx m (R:=fun x y=>x<N/\y=next x) (fun z hz=>.rel ⟨hz,rfl⟩) (aW hi) EW hyv)
 have h1:(reps.map (Dy (eh next N))).Nodup:=by unfold List.Nodup at hn ⊢;rw[BC] at hn ⊢;refine hn.imp_of_mem fun {x y} hx hy h e=>?_;exact h (Uw x (hr x hx) y (hr y hy) e)
 have h2:∀i∈reps.map (Dy (eh next N)),i∈List.range (eh next N).length:=fun i hi=>by obtain⟨x,hx,rfl⟩:=dI.1 hi;obtain⟨i,w,hi,_,e⟩:=iT x (hr x hx);rw[e];exact fg.2 (bg.1 hi).1
 have:=Kp _ _ h1 h2;rwa[cH,KN] at this
end
end Go.Abs
