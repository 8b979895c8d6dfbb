/-
  Walks around faces.
-/
import Derived.Test.YtaajncoljnafjaaGreatDoorWs
set_option linter.all false
set_option maxHeartbeats 16000000
namespace Go.Abs
section
variable{n2 x:Nat}{f:Fc}
def Tm{S:m_}(h:sn S x=false):x<S.length:=by
 rcases P0 x S.length with h1|h1
 .exact h1
 rw[sn,dC,n9 h1]at h;cases h
def aj5(next:Nat->Nat):∀(k x:Nat) (S:m_),(∀y∈(fE next k x S).1,sn S y=false)/\(fE next k x S).1.Nodup/\ ∀y,sn (fE next k x S).2 y=(sn S y||decide (y∈(fE next k x S).1)):=by
 intro k
 induction k with
 |zero=>intro x S;simp[fE]
 |succ k ih=>
  intro x S;unfold fE;cases hx:S.getD x true with
  |true=>simp
  |false=>
   have hl:=Tm (S:=S) (x:=x) hx;obtain⟨h1,h2,h3⟩:=ih (next x) (S.set x true);simp only[dN,if_false];have iE:∀y,sn (S.set x true) y=if y=x then true else sn S y:=fun y=>Pt hl;refine⟨fun y hy=>?_,?_,fun y=>?_⟩
   .rcases bJ.1 hy with rfl|hy
    .exact hx
    have:=h1 y hy;rw[iE]at this;split at this
    .cases this
    exact this
   .refine rh.2 ⟨fun hm=>?_,h2⟩;have:=h1 x hm;rw[iE,aD rfl]at this;cases this
   rw[h3,iE];by_cases e:y=x
   .subst e;simp
   rw[au e];have:decide (y∈x::(fE next k (next x) (S.set x true)).1)=decide (y∈(fE next k (next x) (S.set x true)).1):=by simp[e]
   rw[this]
def axD(next:Nat->Nat)(N:Nat):∀k,(ef next N k).1.flatten.Nodup/\(∀y,y<N->sn (ef next N k).2 y=decide (y∈(ef next N k).1.flatten))/\(∀y∈(ef next N k).1.flatten,y<N)/\ ∀x,x<k->x<N->sn (ef next N k).2 x=true:=by
 intro k
 induction k with
 |zero=>refine⟨by simp[ef],fun y hy=>?_,by simp[ef],fun x hx=>absurd hx (o9 x)⟩;have:(ef next N 0).2=List.replicate N false:=rfl;rw[this,ZL hy];simp[ef]
 |succ k ih=>
  obtain⟨h1,h2,h4,h3⟩:=ih;rw[Am];unfold wD;have hlen:=IQ next N k;cases hk:(ef next N k).2.getD k true with
  |true=>
   rw[aD rfl];refine⟨h1,h2,h4,fun x hx Cs=>?_⟩;rcases oD.1 hx with h|rfl
   .exact h3 x h Cs
   exact hk
  |false=>
   rw[au ae];have hkN:k<N:=by have:=Tm (S:=(ef next N k).2) hk;omega
   obtain⟨g1,g2,g3⟩:=aj5 next ((ef next N k).2.length+1) k (ef next N k).2;have XK:=aj4 next ((ef next N k).2.length+1) k (ef next N k).2 (by have:=L1 (ef next N k).2;omega);refine⟨?_,fun y hy=>?_,?_,fun x hx Cs=>?_⟩
   .rw[EU,GG];refine⟨h1,by simpa using g2,fun y hy z hz=>?_⟩;rintro rfl
    have e1:=g1 y (by simpa using hz);have hyN:=h4 y hy;rw[h2 y hyN]at e1;simp[hy]at e1
   .rw[g3,h2 y hy,EU,ET];simp
   .intro y hy;rw[EU,eO]at hy;rcases hy with hy|hy
    .exact h4 y hy
    have:=Tm (g1 y (by simpa using hy));omega
   rcases oD.1 hx with h|rfl
   .rw[g3,h3 x h Cs];rfl
   exact XK
def Dd(next:Nat->Nat)(N:Nat):(gH next N).flatten.Nodup/\ ∀y,y<N->y∈(gH next N).flatten:=by obtain⟨h1,h2,_,h3⟩:=axD next N N;refine⟨h1,fun y hy=>?_⟩;have:=h3 y hy hy;rw[h2 y hy]at this;exact qx this
def Za{L:List a_}(h:L.flatten.Nodup){i j:Nat}{a b:a_}(hi:L[i]?=some a)(hj:L[j]?=some b)(ha:x∈a)(hb:x∈b):i=j:=by
 induction L generalizing i j with
 |nil=>simp at hi
 |cons l L ih=>
  rw[mT,GG]at h;obtain⟨_,h2,h3⟩:=h;cases i with
  |zero=>
   simp at hi;subst hi;cases j with
   |zero=>rfl
   |succ j=>simp at hj;exact absurd rfl (h3 x ha x (GF.2 ⟨b,aV hj,hb⟩))
  |succ i=>
   simp at hi;cases j with
   |zero=>simp at hj;subst hj;exact absurd rfl (h3 x hb x (GF.2 ⟨a,aV hi,ha⟩))
   |succ j=>simp at hj;rw[ih h2 hi hj]
section
variable {F:Nat} {ls:ai}
def ad5{j:Nat}(h:(eV F ls)[j]?=some f):∃w,(gH (aO ls) (nD ls))[j]?=some w/\f=mg F ls w:=by
 unfold eV at h;rw[fG]at h;cases hw:(gH (aO ls) (nD ls))[j]? with
 |none=>rw[hw]at h;cases h
 |some w=>rw[hw]at h;cases h;exact⟨w,rfl,rfl⟩
def acs{i j:Nat}{a b:Fc}{d:Nat}(hi:(eV F ls)[i]?=some a)(hj:(eV F ls)[j]?=some b)(ha:d∈a.cA)(hb:d∈b.cA):i=j:=by obtain⟨v,hv,rfl⟩:=ad5 hi;obtain⟨w,hw,rfl⟩:=ad5 hj;rw[BR]at ha hb;exact Za (Dd _ _).1 hv hw (uz.1 ha).1 (uz.1 hb).1
def acu(h:f∈eV F ls):f.cA.Nodup:=by obtain⟨w,hw,rfl⟩:=cJ.1 h;rw[BR];have:=(Dd (aO ls) (nD ls)).1;exact akq List.filter_sublist (akq (List.sublist_flatten_of_mem hw) this)
def anG{d:Nat}(hd:d<2*ls.length):∃(j:Nat) (f:Fc),(eV F ls)[j]?=some f/\d∈f.cA:=by
 have:=(Dd (aO ls) (nD ls)).2 d (by unfold nD;omega);obtain⟨w,hw,hdw⟩:=GF.1 this;obtain⟨j,hj⟩:=gV hw;have nk:(eV F ls)[j]?=some (mg F ls w):=by unfold eV;rw[fG,hj];rfl
 refine⟨j,mg F ls w,nk,?_⟩;rw[BR];exact uz.2 ⟨hdw,by simpa using hd⟩
def ai4{ds:a_}{v:Nat}{d:Nat}:∀ {L:a_},d<L.length->(qo L ds v)[d]?=if d∈ds then some v else L[d]? :=by
 induction ds with
 |nil=>intro L _;simp[qo]
 |cons e ds ih=>
  intro L hd;show(qo (L.set e v) ds v)[d]?=_;rw[ih (by simpa using hd),qZ];by_cases h1:d∈ds
  .simp[h1]
  by_cases h2:e=d
  .subst h2;simp[hd]
  have:d≠e:=fun h=>h2 h.symm;simp[h1,h2,this]
def arS{d:Nat}:∀ {fs:q_}{j:Nat}{L:a_},d<L.length->(∀f∈fs,d∉f.cA)->(rL fs j L)[d]?=L[d]? :=by
 intro fs
 induction fs with
 |nil=>intro j L _ _;rfl
 |cons f fs ih=>intro j L hd h;show(rL fs (j+1) (qo L f.cA j))[d]?=_;rw[ih (by rw[Po];exact hd) fun g hg=>h g (by simp[hg]),ai4 hd,au (h f af)]
def arR{d:Nat}:∀ {fs:q_}{j i:Nat}{L:a_}{f:Fc},d<L.length->fs[i]?=some f->d∈f.cA->(∀i' f',fs[i']?=some f'->d∈f'.cA->i'=i)->(rL fs j L)[d]?=some (j+i):=by
 intro fs
 induction fs with
 |nil=>intro j i L f _ h;simp at h
 |cons g fs ih=>
  intro j i L f hd hi hf hu;show(rL fs (j+1) (qo L g.cA j))[d]?=_;cases i with
  |zero=>
   simp at hi;subst hi;rw[arS (by rw[Po];exact hd),ai4 hd,aD hf]
   .rfl
   intro f' hf' yn;obtain⟨i',vM⟩:=gV hf';have:=hu (i'+1) f' (by simpa using vM) yn;omega
  |succ i=>simp at hi;rw[ih (by rw[Po];exact hd) hi hf fun i' f' h1 h2=>by have:=hu (i'+1) f' (by simpa using h1) h2;omega];congr 1;omega
def left_at{d j:Nat}(hd:d<2*ls.length)(hf:(eV F ls)[j]?=some f)(hm:d∈f.cA):(qd F ls)[d]?=some j:=by unfold qd;rw[arR (by simpa using hd) hf hm fun i' f' h1 h2=>acs h1 hf h2 hm];congr 1;omega
def W7{d:Nat}(hd:d<2*ls.length):∃j,(eV F ls)[j]?=some (lN F ls d)/\d∈(lN F ls d).cA/\(qd F ls)[d]?=some j:=by
 obtain⟨j,f,hf,hm⟩:=anG (F:=F) hd;have hl:=left_at hd hf hm;have e:lN F ls d=f:=by unfold lN;rw[dC (l:=qd F ls),hl,oE,dC,hf,oE]
 exact⟨j,e▸hf,e▸hm,hl⟩
def ad3{d:Nat}(hd:d<2*ls.length)(hf:f∈eV F ls)(hm:d∈f.cA):lN F ls d=f:=by obtain⟨j,h1,h2,_⟩:=W7 (F:=F) hd;obtain⟨i,hi⟩:=gV hf;have:=acs hi h1 hm h2;subst this;rw[h1]at hi;cases hi;rfl
def Q9{d:Nat}(hd:d<2*ls.length):lN F ls d∈eV F ls:=by obtain⟨j,h1,_⟩:=W7 (F:=F) hd;exact aV h1
def IB(pl:Nat)(edges:a_)(f:Fc):Bool:=(f.cA.length==edges.length)&&((f.places.length==pl)&&edges.all fun e=> !(decide (2*e∈f.cA)==decide (2*e+1∈f.cA)))
def wm(F:Nat)(ls:ai)(pl:Nat)(edges:a_):Bool:=(eV F ls).any (IB pl edges)
def anI(h:f.cA.Nodup)(e:Nat):vA f e=(if 2*e∈f.cA then 1 else 0)+(if 2*e+1∈f.cA then 1 else 0):=by
 unfold vA;generalize f.cA=D at h
 induction D with
 |nil=>simp
 |cons d D ih=>
  obtain⟨h1,h2⟩:=rh.1 h;rw[xK,ih h2];by_cases e1:d=2*e
  .subst e1;have:(2*e/2==e)=true:=af;have e3:¬(2*e+1=2*e):=aa;simp[h1];omega
  by_cases e2:d=2*e+1
  .subst e2;have:((2*e+1)/2==e)=true:=by simp;omega
   have e3:¬(2*e=2*e+1):=aa;simp[this,h1]
  have:(d/2==e)=false:=by simp;omega
  have e3:¬(2*e=d):=fun h=>e1 h.symm;have e4:¬(2*e+1=d):=fun h=>e2 h.symm;simp[this,e3,e4]
def acb(h:f.cA.Nodup)(pl:Nat)(edges:a_):wQ f pl edges=IB pl edges f:=by unfold wQ IB;congr 2;refine List.all_congr rfl fun e=>?_;rw[anI h];by_cases h1:2*e∈f.cA<;>by_cases h2:2*e+1∈f.cA<;>simp[h1,h2]
def BN{pl:Nat}{edges:a_}{e0:Nat}(h0:edges[0]?=some e0)(he0:e0<ls.length):kX F ls pl edges e0=wm F ls pl edges:=by
 unfold kX wm;have m1:=Q9 (F:=F) (ls:=ls) (d:=2*e0) aa;have m2:=Q9 (F:=F) (ls:=ls) (d:=2*e0+1) aa;rw[acb (acu m1),acb (acu m2),ET,wE,wG];constructor
 .rintro (h|h)
  .exact⟨_,m1,h⟩
  exact⟨_,m2,h⟩
 rintro⟨f,hf,h⟩
 have hm:=h;unfold IB at hm;simp only[cH,gk]at hm;have:=hm.2.2 e0 (aV h0);by_cases h1:2*e0∈f.cA
 .left;rw[ad3 aa hf h1];exact h
 by_cases h2:2*e0+1∈f.cA
 .right;rw[ad3 aa hf h2];exact h
 simp[h1,h2]at this
end
inductive bG (R:Nat->Nat->Prop):Nat->Nat->Prop
 |rel {a b:Nat}:R a b->bG R a b
 |refl (a:Nat):bG R a a
 |symm {a b:Nat}:bG R a b->bG R b a
 |trans {a b c:Nat}:bG R a b->bG R b c->bG R a c
def bG.mono{R R':Nat->Nat->Prop}(h:∀a b,R a b->bG R' a b){y:Nat}(e:bG R x y):bG R' x y:=by
 induction e with
 |rel r=>exact h _ _ r
 |refl a=>exact .refl a
 |symm _ ih=>exact .symm ih
 |trans _ _ i1 i2=>exact .trans i1 i2
def bG.inv{R:Nat->Nat->Prop}{α:Type}{f:Nat->α}(h:∀a b,R a b->f a=f b){y:Nat}(e:bG R x y):f x=f y:=by
 induction e with
 |rel r=>exact h _ _ r
 |refl a=>rfl
 |symm _ ih=>exact ih.symm
 |trans _ _ i1 i2=>exact i1.trans i2
def ld (E:Nat->Nat->Prop)(x:Nat):Prop:=∀y,E x y->x<=y
noncomputable def CA (E:Nat->Nat->Prop) (x:Nat):Bool:= @decide (ld E x) (Classical.propDecidable _)
def K5{E:Nat->Nat->Prop}:CA E x=true↔ld E x:=by unfold CA;exact@decide_eq_true_iff _ (Classical.propDecidable _)
noncomputable def K (E:Nat->Nat->Prop) (n:Nat):Nat:=(List.range n).countP (CA E)
def Jj{E E':Nat->Nat->Prop}(h:∀x y,E x y↔E' x y)(n:Nat):K E n=K E' n:=by have:E=E':=funext fun x=>funext fun y=>propext (h x y);rw[this]
def ac3{p:Nat->Prop}:∀n,p n->∃m,p m/\ ∀k,p k->m<=k:=by
 intro n
 induction n using Nat.strongRecOn with
 |ind n ih=>
  intro h;rcases IY (∃k,k<n/\p k)with⟨k,hk,hp⟩|dR
  .exact ih k hk hp
  exact⟨n,h,fun k hk=>akG fun aA=>dR ⟨k,aA,hk⟩⟩
def YF(R:Nat->Nat->Prop)(x:Nat):∃m,bG R x m/\ld (bG R) m/\m<=x:=by obtain⟨m,h1,h2⟩:=ac3 (p:=fun y=>bG R x y) x (.refl x);exact⟨m,h1,fun y hy=>h2 y (h1.trans hy),h2 x (.refl x)⟩
def anq{p:Nat->Bool}(hp:p x=true):∀ {l:a_},l.Nodup->x∈l->l.countP p=l.countP (fun y=>p y&&y !=x)+1:=by
 intro l
 induction l with
 |nil=>intro _ h;cases h
 |cons a l ih=>
  intro hn hm;obtain⟨h1,h2⟩:=rh.1 hn;rw[xK,xK];by_cases e:a=x
  .subst e;have hc:l.countP p=l.countP (fun y=>p y&&y !=a):=Ja fun y hy=>by
    have:(y !=a)=true:=by simp;rintro rfl;exact h1 hy
    simp[this]
   simp[hp,hc]
  have hx:x∈l:=by rcases bJ.1 hm with h|h;exact absurd h.symm e;exact h
  rw[ih h2 hx];have:(a !=x)=true:=by simp[e]
  simp only[this,yQ];omega
abbrev rT(R:Nat->Nat->Prop)(a b:Nat)(x y:Nat):Prop:=R x y\/(x=a/\y=b)
def Hl{R:Nat->Nat->Prop}{a b y:Nat}:bG (rT R a b) x y↔bG R x y\/(bG R x a/\bG R b y)\/(bG R x b/\bG R a y):=by
 constructor
 .intro h
  induction h with
  |rel r=>
   rcases r with r|⟨rfl,rfl⟩
   .exact .inl (.rel r)
   exact .inr (.inl ⟨.refl _,.refl _⟩)
  |refl a=>exact .inl (.refl a)
  |symm _ ih=>
   rcases ih with h|⟨h1,h2⟩|⟨h1,h2⟩
   .exact .inl h.symm
   .exact .inr (.inr ⟨h2.symm,h1.symm⟩)
   exact .inr (.inl ⟨h2.symm,h1.symm⟩)
  |trans _ _ i1 i2=>
   rcases i1 with h|⟨h1,h2⟩|⟨h1,h2⟩<;>rcases i2 with k|⟨k1,k2⟩|⟨k1,k2⟩
   .exact .inl (h.trans k)
   .exact .inr (.inl ⟨h.trans k1,k2⟩)
   .exact .inr (.inr ⟨h.trans k1,k2⟩)
   .exact .inr (.inl ⟨h1,h2.trans k⟩)
   .exact .inr (.inl ⟨h1,k2⟩)
   .exact .inl (h1.trans k2)
   .exact .inr (.inr ⟨h1,h2.trans k⟩)
   .exact .inl (h1.trans k2)
   exact .inr (.inr ⟨h1,k2⟩)
 have up:∀ {u v},bG R u v->bG (rT R a b) u v:=fun h=>h.mono fun _ _ r=>.rel (.inl r);have ab:bG (rT R a b) a b:=.rel (.inr ⟨rfl,rfl⟩);rintro(h|⟨h1,h2⟩|⟨h1,h2⟩)
 .exact up h
 .exact(up h1).trans (ab.trans (up h2))
 exact(up h1).trans (ab.symm.trans (up h2))
def T9{R:Nat->Nat->Prop}{a b:Nat}(h:bG R a b)(n:Nat):K (bG (rT R a b)) n=K (bG R) n:=by
 refine Jj (fun x y=>?_) n;rw[Hl];constructor
 .rintro (k|⟨h1,h2⟩|⟨h1,h2⟩)
  .exact k
  .exact h1.trans (h.trans h2)
  exact h1.trans (h.symm.trans h2)
 exact .inl
def aaJ{E E':Nat->Nat->Prop}{n m:Nat}(hm:m<n)(h0:ld E m)(h:∀x,ld E' x↔ld E x/\x≠m):K E n=K E' n+1:=by unfold K;rw[anq (p:=CA E) (x:=m) (K5.2 h0) GH (im.2 hm)];congr 1;refine Ja fun x _=>?_;rw[K5,h,cH,K5];simp
def T8{R:Nat->Nat->Prop}{a b n:Nat}(ha:a<n)(hb:b<n)(h:¬bG R a b):K (bG R) n=K (bG (rT R a b)) n+1:=by
 obtain⟨p,p1,p2,p3⟩:=YF R a;obtain⟨q,q1,q2,q3⟩:=YF R b;have xg:p≠q:=fun e=>h (p1.trans (e▸q1.symm));rcases akH xg with c|c
 .refine aaJ (m:=q) aa q2 fun x=>⟨fun hx=>⟨fun y hy=>hx y (Hl.2 (.inl hy)),?_⟩,fun⟨hx,hxq⟩ y hy=>?_⟩
  .rintro rfl
   have:=hx p (Hl.2 (.inr (.inr ⟨q1.symm,p1⟩)));omega
  rcases Hl.1 hy with hy|⟨h1,h2⟩|⟨h1,h2⟩
  .exact hx y hy
  .have e1:=hx p (h1.trans p1);have e2:=q2 y (q1.symm.trans h2);omega
  have e1:=hx q (h1.trans q1);have e2:=q2 x (q1.symm.trans h1.symm);omega
 refine aaJ (m:=p) aa p2 fun x=>⟨fun hx=>⟨fun y hy=>hx y (Hl.2 (.inl hy)),?_⟩,fun⟨hx,hxq⟩ y hy=>?_⟩
 .rintro rfl
  have:=hx q (Hl.2 (.inr (.inl ⟨p1.symm,q1⟩)));omega
 rcases Hl.1 hy with hy|⟨h1,h2⟩|⟨h1,h2⟩
 .exact hx y hy
 .have e1:=hx p (h1.trans p1);have e2:=p2 x (p1.symm.trans h1.symm);omega
 have e1:=hx q (h1.trans q1);have e2:=p2 y (p1.symm.trans h2);omega
def aaK{R:Nat->Nat->Prop}{α:Type}{f:Nat->α}(h:∀a b,R a b->f a=f b){n:Nat}{reps:a_}(hr:∀x∈reps,x<n)(hn:(reps.map f).Nodup):reps.length<=K (bG R) n:=by
 have key:∀reps:a_,(∀x∈reps,x<n)->(reps.map f).Nodup->∃L:a_,L.length=reps.length/\L.Nodup/\(∀m∈L,m<n/\ld (bG R) m)/\ ∀m∈L,f m∈reps.map f:=by
  intro reps
  induction reps with
  |nil=>intro _ _;exact⟨[],rfl,xO,af,af⟩
  |cons a r ih=>
   intro hr hn;rw[ek,rh]at hn;obtain⟨L,l1,l2,l3,l4⟩:=ih (fun x hx=>hr x (by simp[hx])) hn.2;obtain⟨m,m1,m2,m3⟩:=YF R a;have hfm:f m=f a:=(m1.inv h).symm;have ha:=hr a af;refine⟨m::L,by simp[l1],rh.2 ⟨fun hm=>hn.1 (hfm▸l4 m hm),l2⟩,fun x hx=>?_,fun x hx=>?_⟩
   .rcases bJ.1 hx with rfl|hx
    .exact⟨aa,m2⟩
    exact l3 x hx
   rcases bJ.1 hx with rfl|hx
   .rw[hfm];simp
   rw[ek];exact vq _ (l4 x hx)
 obtain⟨L,l1,l2,l3,_⟩:=key reps hr hn;rw[<-l1];unfold K;rw[aan];have sub:∀(L M:a_),L.Nodup->(∀x∈L,x∈M)->L.length<=M.length:=by
  intro L
  induction L with
  |nil=>intro M _ _;exact bR _
  |cons a L ih=>intro M hn hs;obtain⟨h1,h2⟩:=rh.1 hn;have ha:=hs a af;have:=ih (M.erase a) h2 fun x hx=>(T1 (by rintro rfl;exact h1 hx)).2 (hs x (by simp[hx]));rw[TZ ha]at this;have:0<M.length:=Mh ha;simp only[dI];omega
 exact sub L _ l2 fun x hx=>uz.2 ⟨im.2 (l3 x hx).1,K5.2 (l3 x hx).2⟩
def akK{R:Nat->Nat->Prop}{n:Nat}(h:∀x,x<n->bG R x 0):K (bG R) n<=1:=by
 unfold K;have hz:∀x∈List.range n,CA (bG R) x=true->x=0:=fun x hx hl=>by have:=K5.1 hl 0 (h x (im.1 hx));omega
 have:∀l:a_,l.Nodup->(∀x∈l,CA (bG R) x=true->x=0)->l.countP (CA (bG R))<=1:=by
  intro l
  induction l with
  |nil=>intro _ _;simp
  |cons a l ih=>
   intro hn hl;obtain⟨h1,h2⟩:=rh.1 hn;rw[xK];by_cases c:CA (bG R) a=true
   .have ha:=hl a af c;subst ha;have:l.countP (CA (bG R))=0:=Mb.2 fun x hx xn=>h1 (by have:=hl x (by simp[hx]) xn;subst this;exact hx);simp[c,this]
   have:=ih h2 fun x hx=>hl x (by simp[hx]);simp[c,this]
 exact this _ GH hz
structure Perm (n:Nat) (p:Nat->Nat):Prop where
 lt:∀x,x<n->p x<n
 inj:∀x y,x<n->y<n->p x=p y->x=y
abbrev gr(n:Nat)(p:Nat->Nat)(x y:Nat):Prop:=x<n/\y=p x
def tr (p:Nat->Nat)(t:Nat×Nat)(x:Nat):Nat:=if x=t.1 then p t.2 else if x=t.2 then p t.1 else p x
def TC(p:Nat->Nat)(a b x:Nat):tr p (a,b) x=p (if x=a then b else if x=b then a else x):=by
 unfold tr;simp only;split
 .rfl
 split<;>rfl
def Perm.tr{n:Nat}{p:Nat->Nat}(h:Perm n p){a b:Nat}(ha:a<n)(hb:b<n):Perm n (tr p (a,b)):=by
 have hs:∀x,x<n->(if x=a then b else if x=b then a else x)<n:=fun x hx=>by split<;>(try split)<;>assumption
 refine⟨fun x hx=>by rw[TC];exact h.lt _ (hs x hx),fun x y hx hy e=>?_⟩;rw[TC,TC]at e;have e:=h.inj _ _ (hs x hx) (hs y hy) e;by_cases x1:x=a
 .rw[aD x1]at e;by_cases y1:y=a
  .omega
  rw[au y1]at e;split at e<;>omega
 rw[au x1]at e;by_cases y1:y=a
 .rw[aD y1]at e;split at e<;>omega
 rw[au y1]at e;split at e<;>split at e<;>omega
def it (p:Nat->Nat):Nat->Nat->Nat
 |0,x=>x
 |k+1,x=>p (it p k x)
def Perm.Ij{n:Nat}{p:Nat->Nat}(h:Perm n p)(hx:x<n):∀k,it p k x<n:=by
 intro k
 induction k with
 |zero=>exact hx
 |succ k ih=>exact h.lt _ ih
def Perm.back{n:Nat}{p:Nat->Nat}(h:Perm n p)(hx:x<n):∀i j,it p (i+j) x=it p i x->it p j x=x:=by
 intro i
 induction i with
 |zero=>intro j e;rw[jx]at e;exact e
 |succ i ih=>intro j e;rw[show i+1+j=(i+j)+1 by omega]at e;exact ih j (h.inj _ _ (h.Ij hx _) (h.Ij hx _) e)
def LR:∀(L M:a_),L.Nodup->(∀x∈L,x∈M)->L.length<=M.length:=by
 intro L
 induction L with
 |nil=>intro M _ _;exact bR _
 |cons a L ih=>intro M hn hs;obtain⟨h1,h2⟩:=rh.1 hn;have ha:=hs a af;have:=ih (M.erase a) h2 fun x hx=>(T1 (by rintro rfl;exact h1 hx)).2 (hs x (by simp[hx]));rw[TZ ha]at this;have:0<M.length:=Mh ha;simp only[dI];omega
def Perm.acn{n:Nat}{p:Nat->Nat}(h:Perm n p)(hx:x<n):∃m,it p (m+1) x=x:=by
 apply TS;intro dR;have key:∀k,((List.range k).map fun i=>it p i x).Nodup:=by
  intro k
  induction k with
  |zero=>simp
  |succ k ih=>rw[yX,kS,GG];refine⟨ih,af,fun a ha b hb=>?_⟩;obtain⟨i,hi,rfl⟩:=cJ.1 ha;have hi:=im.1 hi;simp only[ek,kU,lI]at hb;subst hb;intro e;have:=h.back hx i (k-i) (by rw[show i+(k-i)=k by omega];exact e.symm);exact dR ⟨k-i-1,by rw[show k-i-1+1=k-i by omega];exact this⟩
 have:=LR _ (List.range n) (key (n+1)) fun y hy=>by obtain⟨i,_,rfl⟩:=cJ.1 hy;exact im.2 (h.Ij hx i)
 rw[cE,EX,EX]at this;omega
def afU(p:Nat->Nat)(x:Nat):∀k,it p (k+1) x=it p k (p x):=by
 intro k
 induction k with
 |zero=>rfl
 |succ k ih=>show p (it p (k+1) x)=p (it p k (p x));rw[ih]
def ajR{n:Nat}{p:Nat->Nat}(h:Perm n p){a b:Nat}(ha:a<n)(hb:b<n)(dL:¬bG (gr n p) a b):bG (gr n (tr p (a,b))) a b:=by
 obtain⟨m,hm⟩:=h.acn hb;have e0:tr p (a,b) a=p b:=by unfold tr;rw[aD rfl]
 have cS:∀k,bG (gr n p) b (it p k b):=by
  intro k
  induction k with
  |zero=>exact .refl _
  |succ k ih=>exact ih.trans (.rel ⟨h.Ij hb k,rfl⟩)
 have key:∀k,bG (gr n (tr p (a,b))) a b\/bG (gr n (tr p (a,b))) a (it p k (p b)):=by
  intro k
  induction k with
  |zero=>exact .inr (.rel ⟨ha,e0.symm⟩)
  |succ k ih=>
   rcases ih with ih|ih
   .exact .inl ih
   by_cases c:it p k (p b)=b
   .rw[c]at ih;exact .inl ih
   refine .inr (ih.trans (.rel ⟨h.Ij (h.lt _ hb) k,?_⟩));have na:it p k (p b)≠a:=fun e=>dL (by have:=cS (k+1);rw[afU,e]at this;exact this.symm)
   unfold tr;rw[au na,au c];rfl
 rcases key m with k|k
 .exact k
 rw[<-afU,hm]at k;exact k
def Uj{n:Nat}{p:Nat->Nat}{a b:Nat}(ha:a<n)(hb:b<n){S:Nat->Nat->Prop}{x y:Nat}:bG (rT (fun x y=>gr n (tr p (a,b)) x y\/S x y) a b) x y↔bG (rT (fun x y=>gr n p x y\/S x y) a b) x y:=by
 have ab:∀R:Nat->Nat->Prop,bG (rT R a b) a b:=fun R=>.rel (.inr ⟨rfl,rfl⟩);constructor
 .refine bG.mono fun u v r=>?_;rcases r with(⟨hu,rfl⟩|s)|⟨rfl,rfl⟩
  .unfold tr;simp only;by_cases c:u=a
   .subst c;rw[aD rfl];exact(ab _).trans (.rel (.inl (.inl ⟨hb,rfl⟩)))
   rw[au c];by_cases d:u=b
   .subst d;rw[aD rfl];exact(ab _).symm.trans (.rel (.inl (.inl ⟨ha,rfl⟩)))
   rw[au d];exact .rel (.inl (.inl ⟨hu,rfl⟩))
  .exact .rel (.inl (.inr s))
  exact ab _
 refine bG.mono fun u v r=>?_;rcases r with(⟨hu,rfl⟩|s)|⟨rfl,rfl⟩
 .by_cases c:u=a
  .subst c;refine(ab _).trans (.rel (.inl (.inl ⟨hb,?_⟩)));unfold tr;simp only;by_cases d:b=u
   .rw[aD d,d]
   rw[au d];simp
  by_cases d:u=b
  .subst d;refine(ab _).symm.trans (.rel (.inl (.inl ⟨ha,?_⟩)));unfold tr;rw[aD rfl]
  refine .rel (.inl (.inl ⟨hu,?_⟩));unfold tr;rw[au c,au d]
 .exact .rel (.inl (.inr s))
 exact ab _
abbrev inT(ts:v_)(x y:Nat):Prop:=(x,y)∈ts
abbrev zk(n:Nat)(p:Nat->Nat)(ts:v_)(x y:Nat):Prop:=gr n p x y\/inT ts x y
def aoe{n:Nat}:∀(ts:v_) (p:Nat->Nat),Perm n p->(∀t∈ts,t.1<n/\t.2<n)->
  K (bG (gr n (ts.foldl tr p))) n+K (bG (gr n p)) n<=2*K (bG (zk n p ts)) n+ts.length:=by
 intro ts
 induction ts with
 |nil=>
  intro p _ _;have:K (bG (zk n p [])) n=K (bG (gr n p)) n:=Jj (fun x y=>⟨bG.mono (R:=zk n p []) (R':=gr n p) (fun u v r=>by
   rcases r with r|r
   .exact .rel r
   cases r),bG.mono (R:=gr n p) (R':=zk n p []) (fun u v r=>.rel (.inl r))⟩) n
  rw[this];simp only[aas,fe];omega
 |cons t ts ih=>
  intro p hp ht;obtain⟨a,b⟩:=t;obtain⟨ha,hb⟩:=ht (a,b) af
  replace ha:a<n:=ha
  replace hb:b<n:=hb
  have ih:=ih (tr p (a,b)) (hp.tr ha hb) fun t h=>ht t (by simp[h]);have all:∀x y,bG (zk n p ((a,b)::ts)) x y↔bG (rT (zk n (tr p (a,b)) ts) a b) x y:=fun x y=>by
   refine Iff.trans ⟨bG.mono fun u v r=>?_,bG.mono fun u v r=>?_⟩ (Uj (S:=inT ts) ha hb).symm
   .rcases r with r|r
    .exact .rel (.inl (.inl r))
    rcases bJ.1 r with r|r
    .cases r;exact .rel (.inr ⟨rfl,rfl⟩)
    exact .rel (.inl (.inr r))
   rcases r with(r|r)|⟨rfl,rfl⟩
   .exact .rel (.inl r)
   .exact .rel (.inr (vq _ r))
   exact .rel (.inr (PS ..))
  have one:∀x y,bG (rT (gr n (tr p (a,b))) a b) x y↔bG (rT (gr n p) a b) x y:=fun x y=>by have h:=Uj (p:=p) (S:=fun _ _=>False) ha hb (x:=x) (y:=y);have e:∀q:Nat->Nat,(fun x y=>gr n q x y\/False)=gr n q:=fun q=>funext fun x=>funext fun y=>propext af;rw[e,e]at h;exact h
  rw[Jj all];simp only[BD,dI];have kj:K (bG (rT (gr n (tr p (a,b))) a b)) n=K (bG (rT (gr n p) a b)) n:=Jj one n;have sm:∀R:Nat->Nat->Prop,bG R a b->K (bG (rT R a b)) n=K (bG R) n:=fun R h=>T9 h n;have jn:∀R:Nat->Nat->Prop,¬bG R a b->K (bG R) n=K (bG (rT R a b)) n+1:=fun R h=>T8 ha hb h;rcases IY (bG (gr n p) a b)with c|c
  .have k1:=sm _ c;rcases IY (bG (gr n (tr p (a,b))) a b)with d|d
   .have k2:=sm _ d;have k3:=sm _ (d.mono (R':=zk n (tr p (a,b)) ts) fun u v r=>.rel (.inl r));omega
   have k2:=jn _ d;rcases IY (bG (zk n (tr p (a,b)) ts) a b)with d2|d2
   .have k3:=sm _ d2;omega
   have k3:=jn _ d2;omega
  have k1:=jn _ c;have d:=ajR hp ha hb c;have k2:=sm _ d;have k3:=sm _ (d.mono (R':=zk n (tr p (a,b)) ts) fun u v r=>.rel (.inl r));omega
def rv (x:Nat):Nat:=if x%2=0 then x+1 else x-1
def xE(k:Nat):rv (2*k)=2*k+1:=by unfold rv;rw[aD aa]
def CX(k:Nat):rv (2*k+1)=2*k:=by unfold rv;rw[au aa];rfl
def Af(x:Nat):rv (rv x)=x:=by
 rcases vt x with h|h
 .rw[show x=2*(x/2) by omega,xE,CX]
 rw[show x=2*(x/2)+1 by omega,CX,xE]
def Ae{m:Nat}(h:x<2*m):rv x<2*m:=by unfold rv;split<;>omega
def Ad(n v:Nat)(g:Bool):rv (dx n v g)=fV n v (!g):=by
 cases g with
 |true=>exact xE _
 |false=>exact CX _
def avf(n v:Nat)(g:Bool):rv (fV n v g)=dx n v (!g):=by
 cases g with
 |true=>exact xE _
 |false=>exact CX _
def xS{n v:Nat}(hv:v<n)(g:Bool):fV n v g<2*n:=by have:=de (v+n-1) (show 0<n by omega);unfold fV;split<;>omega
def Qp{n:Nat}(hx:x<2*n):x=fV n (if x%2=0 then(x/2+1)%n else x/2) (x%2==0):=by
 unfold fV;rcases vt x with h|h
 .simp only[h,Av,if_true];rw[v7 aa];omega
 simp only[h,show((1:Nat)==0)=false from rfl,dN,if_false,Mo];omega
section
variable {F:Nat} {ls:ai}
def ajX{v:Nat}{l:Let}(hl:ls[v]?=some l)(fw:Bool):aO ls (fV ls.length v fw)=if l.kind==2 then dx ls.length (fM ls v) (fw==(l.over==(l.sign==1)))
   else if dn ls v==fw then 2*ls.length+2*(aG ls).idxOf v else 2*ls.length+2*(((aG ls).idxOf v+(aG ls).length-1)%(aG ls).length)+1:=by
 have hv:=(aT.1 hl).1;have aA:=xS hv fw;refine ajW aa ?_ ?_ hl
 .unfold fV;cases fw<;>simp
 unfold fV;cases fw with
 |true=>simp only[if_true];rw[show 2*((v+ls.length-1)%ls.length)/2=(v+ls.length-1)%ls.length by omega,vZ hv]
 |false=>simp only[dN,if_false];omega
def yN{v:Nat}{l:Let}(hl:ls[v]?=some l)(hc:l.aB=true)(fw:Bool):aO ls (fV ls.length v fw)=dx ls.length (fM ls v) (fw==(l.over==(l.sign==1))):=by rw[ajX hl];unfold Let.aB at hc;rw[aD hc]
def Gz{v:Nat}{l:Let}(hl:ls[v]?=some l)(hp:l.aE=true)(fw:Bool):aO ls (fV ls.length v fw)=if dn ls v==fw then 2*ls.length+2*(aG ls).idxOf v else 2*ls.length+2*(((aG ls).idxOf v+(aG ls).length-1)%(aG ls).length)+1:=by have:=qS hp;unfold Let.aB at this;rw[ajX hl,au (by rw[this];decide)]
def EN(k:Nat):aO ls (2*ls.length+2*k)=dx ls.length ((aG ls).getD ((k+1)%(aG ls).length) 0) (!dn ls ((aG ls).getD ((k+1)%(aG ls).length) 0)):=by show iw _ _ _=_;unfold iw;rw[aD aa,aD aa,show(2*ls.length+2*k-2*ls.length)/2=k by omega]
def EM(k:Nat):aO ls (2*ls.length+2*k+1)=dx ls.length ((aG ls).getD k 0) (dn ls ((aG ls).getD k 0)):=by show iw _ _ _=_;unfold iw;rw[aD aa,au aa,show(2*ls.length+2*k+1-2*ls.length)/2=k by omega]
def GV{k:Nat}(hk:k<(aG ls).length):∃l,ls[(aG ls).getD k 0]?=some l/\l.aE=true:=by obtain⟨v,hv⟩:=aL hk;rw[dC,hv,oE];exact uF.1 (aV hv)
def Mx{v:Nat}{l:Let}(ok:fJ F ls)(hl:ls[v]?=some l)(hp:l.aE=true):(aG ls).idxOf v<(aG ls).length/\(aG ls).getD ((aG ls).idxOf v) 0=v:=by have h1:=Jx ok.ax hl hp;rw[Fh ok.ax hl hp];exact⟨(aT.1 h1).1,by rw[dC,h1];rfl⟩
def ajD(ok:fJ F ls){v:Nat}(hv:v<ls.length)(fw:Bool):aO ls (rv (aO ls (fV ls.length v fw)))=dx ls.length v fw:=by
 obtain⟨l,hl⟩:=aL hv;rcases ok.kinds l (aV hl)with hp|hc
 .obtain⟨h1,h2⟩:=Mx ok hl hp;rw[Gz hl hp];by_cases c:(dn ls v==fw)=true
  .rw[aD c,show 2*ls.length+2*(aG ls).idxOf v=2*(ls.length+(aG ls).idxOf v) by omega,xE,show 2*(ls.length+(aG ls).idxOf v)+1=2*ls.length+2*(aG ls).idxOf v+1 by omega,EM,h2];rw[eq_of_beq c]
  rw[au c];have c:dn ls v= !fw:=by revert c;cases dn ls v<;>cases fw<;>simp
  have hm:=de ((aG ls).idxOf v+(aG ls).length-1) (show 0<(aG ls).length by omega);rw[show 2*ls.length+2*(((aG ls).idxOf v+(aG ls).length-1)%(aG ls).length)+1=2*(ls.length+((aG ls).idxOf v+(aG ls).length-1)%(aG ls).length)+1 by omega,CX,
   show 2*(ls.length+((aG ls).idxOf v+(aG ls).length-1)%(aG ls).length)=2*ls.length+2*(((aG ls).idxOf v+(aG ls).length-1)%(aG ls).length) by omega,EN,vZ h1,h2,c,L8]
 obtain⟨h1,m,hm,mc,mi,mo,ms⟩:=sC ok.cr hl hc;rw[yN hl hc,Ad,yN hm mc,h1,mo,ms];cases fw<;>cases l.over<;>cases(l.sign==1)<;>rfl
def zI(ls:ai)(x:Nat):Nat:=
 if 2*ls.length<=x then(if x%2=0 then(aG ls).getD (((x-2*ls.length)/2+1)%(aG ls).length) 0 else(aG ls).getD ((x-2*ls.length)/2) 0)
 else if x%2=0 then(x/2+1)%ls.length else x/2
def acL(ls:ai)(x:Nat):Bool:=decide (2*ls.length<=x)||(match ls[zI ls x]? with|some l=>l.aB&&l.over|none=>false)
def l8(ls:ai)(i:Nat):Int×Int:=match ls[i]? with|some l=>if l.aB then(1,l.id)else(0,i)|none=>(2,0)
def NU{v:Nat}(hv:v<ls.length)(fw:Bool):zI ls (fV ls.length v fw)=v:=by
 have aA:=xS hv fw;unfold zI;rw[au aa];unfold fV;cases fw with
 |true=>simp only[if_true];rw[aD aa,show 2*((v+ls.length-1)%ls.length)/2=(v+ls.length-1)%ls.length by omega,vZ hv]
 |false=>simp only[dN,if_false];rw[au aa];omega
def Ug{v:Nat}{l:Let}(hl:ls[v]?=some l)(fw:Bool):acL ls (fV ls.length v fw)=(l.aB&&l.over):=by have hv:=(aT.1 hl).1;have aA:=xS hv fw;unfold acL;rw[NU hv,hl];have:¬2*ls.length<=fV ls.length v fw:=aa;simp[this]
def afa(k:Nat):zI ls (2*ls.length+2*k)=(aG ls).getD ((k+1)%(aG ls).length) 0:=by unfold zI;rw[aD aa,aD aa,show(2*ls.length+2*k-2*ls.length)/2=k by omega]
def ae9(k:Nat):zI ls (2*ls.length+2*k+1)=(aG ls).getD k 0:=by unfold zI;rw[aD aa,au aa,show(2*ls.length+2*k+1-2*ls.length)/2=k by omega]
def Uh(h:2*ls.length<=x):acL ls x=true:=by unfold acL;simp[h]
def axk(ok:fJ F ls)(hx:x<nD ls):l8 ls (zI ls (rv (aO ls x)))=l8 ls (zI ls x)/\acL ls (rv (aO ls x))= !acL ls x:=by
 unfold nD at hx;rcases P0 x (2*ls.length)with c|c
 .have hv:(if x%2=0 then(x/2+1)%ls.length else x/2)<ls.length:=by
   have:=de (x/2+1) (show 0<ls.length by omega);split<;>omega
  rw[Qp c];generalize(if x%2=0 then(x/2+1)%ls.length else x/2)=v at hv;generalize(x%2==0)=fw;obtain⟨l,hl⟩:=aL hv;rw[NU hv,Ug hl];rcases ok.kinds l (aV hl)with hp|hc
  .obtain⟨h1,h2⟩:=Mx ok hl hp;rw[qS hp,Gz hl hp];by_cases d:(dn ls v==fw)=true
   .rw[aD d,show 2*ls.length+2*(aG ls).idxOf v=2*(ls.length+(aG ls).idxOf v) by omega,xE,show 2*(ls.length+(aG ls).idxOf v)+1=2*ls.length+2*(aG ls).idxOf v+1 by omega,ae9,h2,Uh aa];exact⟨rfl,rfl⟩
   rw[au d,show 2*ls.length+2*(((aG ls).idxOf v+(aG ls).length-1)%(aG ls).length)+1=2*(ls.length+((aG ls).idxOf v+(aG ls).length-1)%(aG ls).length)+1 by omega,CX,
    show 2*(ls.length+((aG ls).idxOf v+(aG ls).length-1)%(aG ls).length)=2*ls.length+2*(((aG ls).idxOf v+(aG ls).length-1)%(aG ls).length) by omega,afa,vZ h1,h2,Uh aa]
   exact⟨rfl,rfl⟩
  obtain⟨h1,m,hm,mc,mi,mo,ms⟩:=sC ok.cr hl hc;have hw:=(aT.1 hm).1;rw[yN hl hc,Ad,NU hw,Ug hm];unfold l8;simp[hl,hm,hc,mc,mi,mo]
 rw[Uh c];have key:∀k,k<(aG ls).length->∀g,l8 ls (zI ls (rv (dx ls.length ((aG ls).getD k 0) g)))=l8 ls ((aG ls).getD k 0)/\acL ls (rv (dx ls.length ((aG ls).getD k 0) g))= !true:=fun k hk g=>by obtain⟨l,hl,hp⟩:=GV hk;rw[Ad,NU (aT.1 hl).1,Ug hl,qS hp];exact⟨rfl,rfl⟩
 rcases vt x with d|d
 .rw[show x=2*ls.length+2*((x-2*ls.length)/2) by omega,EN,afa];exact key _ (de _ aa) _
 rw[show x=2*ls.length+2*((x-2*ls.length)/2)+1 by omega,EM,ae9];exact key _ aa _
end
def axu{next:Nat->Nat}{N:Nat}{R:Nat->Nat->Prop}(aA:∀x,x<N->next x<N)(h:∀x,x<N->bG R x (next x)):∀(k x:Nat) (S:m_),x<N->∀y∈(fE next k x S).1,bG R x y:=by
 intro k
 induction k with
 |zero=>intro x S _ y hy;simp[fE]at hy
 |succ k ih=>
  intro x S hx y hy;unfold fE at hy;split at hy
  .simp at hy
  rcases bJ.1 hy with rfl|hy
  .exact .refl _
  exact(h x hx).trans (ih (next x) _ (aA x hx) y hy)
def axB{next:Nat->Nat}{N:Nat}(m:Ay next n2 N){R:Nat->Nat->Prop}(h:∀x,x<N->bG R x (next x)):∀k,k<=N->∀w∈(ef next N k).1,∀x∈w,∀y∈w,bG R x y:=by
 intro k
 induction k with
 |zero=>intro _ w hw;simp[ef]at hw
 |succ k ih=>
  intro hk w hw x hx y hy;rw[Am]at hw;unfold wD at hw;split at hw
  .exact ih aa w hw x hx y hy
  rcases eO.1 hw with hw|hw
  .exact ih aa w hw x hx y hy
  simp only[lI]at hw;subst hw;have hj:=axu (R:=R) m.lt h ((ef next N k).2.length+1) k (ef next N k).2 aa;exact(hj x hx).symm.trans (hj y hy)
def axF{next:Nat->Nat}{N:Nat}(m:Ay next n2 N):∀k,k<=n2->∀w∈(ef next N k).1,∀x∈w,next x∈w:=by
 intro k
 induction k with
 |zero=>intro _ w hw;simp[ef]at hw
 |succ k ih=>
  intro hk w hw x hx;obtain⟨c0,_⟩:=TK m k aa;obtain⟨c1,_⟩:=TK m (k+1) hk;rw[Am]at hw c1;unfold wD at hw c1;cases hs:(ef next N k).2.getD k true with
  |true=>rw[hs,aD rfl]at hw;exact ih aa w hw x hx
  |false=>
   rw[hs,au ae]at hw c1;rcases eO.1 hw with hw|hw
   .exact ih aa w hw x hx
   simp only[lI]at hw;subst hw;obtain⟨g1,g2,g3⟩:=aj5 next ((ef next N k).2.length+1) k (ef next N k).2;have Cs:x<N:=by have:=Tm (g1 x hx);have:=IQ next N k;omega
   have e0:=c0 x Cs;have e1:=c1 x Cs;rw[g3,g3,g1 x hx]at e1;rw[g1 x hx]at e0;simp only[De,hx,decide_true,<-e0]at e1;exact qx e1.symm
def yO{next:Nat->Nat}{N:Nat}(m:Ay next n2 N){w:a_}(hw:w∈gH next N)(hx:x∈w):next x∈w:=by unfold gH at hw;rw[aab m N m.le (bY _)]at hw;exact axF m n2 (bY _) w hw x hx
def aac{next:Nat->Nat}{N:Nat}(m:Ay next n2 N){R:Nat->Nat->Prop}(h:∀x,x<N->bG R x (next x)){w:a_}(hw:w∈gH next N){x y:Nat}(hx:x∈w)(hy:y∈w):bG R x y:=axB m h N (bY _) w hw x hx y hy
def ER(L:List a_)(x:Nat):Nat:=L.findIdx fun w=>w.contains x
def PD{L:List a_}(h:L.flatten.Nodup){i:Nat}{w:a_}(hi:L[i]?=some w)(hx:x∈w):ER L x=i:=by
 have hm:w.contains x=true:=by simpa using hx
 have aA:L.findIdx (fun w=>w.contains x)<L.length:=axS ⟨w,aV hi,hm⟩;have hp:=akx (w:=aA);have hj:L[L.findIdx fun w=>w.contains x]?=some (L[L.findIdx fun w=>w.contains x]'aA):=rS aA;exact Za h hj hi (by simpa using hp) hx
def aqZ:∀ {L:List a_},L.flatten.Nodup->(∀w∈L,w≠[])->((L.map (·.headD 0)).map (ER L))=List.range L.length:=by
 intro L h aH;apply xL;intro i;rw[fG,fG];by_cases hi:i<L.length
 .have e:=rS hi;rw[e,vp hi];simp only[nK];have hw:=aH _ (aV e);rw[PD h e (x:=L[i].headD 0) (by
   cases hL:L[i]with
   |nil=>exact absurd hL hw
   |cons a r=>simp)]
 rw[n9 aa,n9 (by simp;omega)];rfl
def fx (b:Bool)(s:Nat):Nat:=if b then 1-s else s
def Rj{b:Bool}{s:Nat}(h:s<2):fx b s<2:=by unfold fx;split<;>omega
def aeA{b:Bool}{s:Nat}(h:s<2):fx b (fx b s)=s:=by unfold fx;cases b<;>simp;omega
def uD(p:Nat->Bool)(y:Nat):Nat:=2*rv (y/2)+fx (p (y/2)) (y%2)
def sgC(p:Nat->Bool)(nx:Nat->Nat)(y:Nat):Nat:=2*nx (rv (y/2))+fx (p (y/2)) (y%2)
def tsC(p:Nat->Bool)(k:Nat):v_:=(List.range k).flatMap fun e=>[(4*e,uD p (4*e)),(4*e+1,uD p (4*e+1))]
def Uk(p:Nat->Bool)(e:Nat):uD p (4*e)=if p (2*e)then 4*e+3 else 4*e+2:=by unfold uD fx;rw[show 4*e/2=2*e by omega,xE,show 4*e%2=0 by omega];split<;>omega
def Ul(p:Nat->Bool)(e:Nat):uD p (4*e+1)=if p (2*e)then 4*e+2 else 4*e+3:=by unfold uD fx;rw[show(4*e+1)/2=2*e by omega,xE,show(4*e+1)%2=1 by omega];split<;>omega
def aln{p:Nat->Bool}(hp:∀x,p (rv x)=p x)(e:Nat):uD p (4*e+2)=if p (2*e)then 4*e+1 else 4*e:=by unfold uD fx;rw[show(4*e+2)/2=2*e+1 by omega,CX,show(4*e+2)%2=0 by omega,<-hp (2*e),xE];split<;>omega
def alo{p:Nat->Bool}(hp:∀x,p (rv x)=p x)(e:Nat):uD p (4*e+3)=if p (2*e)then 4*e else 4*e+1:=by unfold uD fx;rw[show(4*e+3)/2=2*e+1 by omega,CX,show(4*e+3)%2=1 by omega,<-hp (2*e),xE];split<;>omega
def axh(p:Nat->Bool){k e:Nat}(h:e<k):(4*e,uD p (4*e))∈tsC p k/\(4*e+1,uD p (4*e+1))∈tsC p k:=
 ⟨Di.2 ⟨e,im.2 h,af⟩,Di.2 ⟨e,im.2 h,af⟩⟩
def ag1{α β:Type}{P:α->β->Prop}{f:β->α}(hf:∀a b,P a b->f b=a):∀ {L:List α},(∀a∈L,∃b,P a b)->∃M:List β,M.map f=L/\ ∀b∈M,∃a∈L,P a b:=by
 intro L
 induction L with
 |nil=>intro _;exact⟨[],rfl,af⟩
 |cons a L ih=>
  intro h;obtain⟨b,hb⟩:=h a af;obtain⟨M,h1,h2⟩:=ih fun x hx=>h x (by simp[hx]);refine⟨b::M,by rw[ek,h1,hf a b hb],fun x hx=>?_⟩;rcases bJ.1 hx with rfl|hx
  .exact⟨a,af,hb⟩
  obtain⟨c,hc,hp⟩:=h2 x hx;exact⟨c,by simp[hc],hp⟩
section
variable {F:Nat} {ls:ai}
def alV(ok:fJ F ls):(aG ls).Nodup:=by have:=abm ok.ax ls.length (bY _);refine akp (fun{a b} h e=>?_) this;subst e;exact absurd h (Nat.lt_irrefl _)
def agX(ok:fJ F ls):ls.length=aq Let.aE ls+aq Let.aB ls:=by
 have:∀l:ai,(∀x∈l,x.aE=true\/x.aB=true)->l.length=aq Let.aE l+aq Let.aB l:=by
  intro l
  induction l with
  |nil=>intro _;rfl
  |cons a l ih=>
   intro h;have ih:=ih fun x hx=>h x (by simp[hx]);unfold aq at ih |-;rw[xK,xK,dI,ih];rcases h a af with c|c
   .rw[c,qS c];simp;omega
   have:a.aE=false:=by cases hp:a.aE;rfl;rw[qS hp]at c;cases c
   rw[c,this];simp;omega
 exact this ls ok.kinds
def axq(ok:fJ F ls):∃L:a_,L.length=aq Let.aE ls+aq Let.aB ls/2/\(∀j∈L,j<ls.length)/\(L.map (l8 ls)).Nodup:=by
 have hc:=ok.cr;unfold mJ at hc;simp only[cH,cZ]at hc;have hid:=hc.2
 let ids:u_:=(fA ls ls.length).map fun id=>(1,id)
 have apQ:∀a∈ids,∃j,(l8 ls j=a/\j<ls.length):=by intro a ha;obtain⟨id,hi,rfl⟩:=cJ.1 ha;obtain⟨j,o,hj,hh⟩:=(Ig (bY _)).1 hi;obtain⟨m,hm,mc,mi,_⟩:=Cd hh;refine⟨j,?_,hj⟩;unfold l8;rw[hm];simp[mc,mi]
 obtain⟨M,m1,m2⟩:=ag1 (P:=fun a j=>l8 ls j=a/\j<ls.length) (f:=l8 ls) (fun a b h=>h.1) apQ;have kI:∀i∈aG ls,i<ls.length/\l8 ls i=(0,(i:Int)):=fun i hi=>by obtain⟨l,hl,hp⟩:=uF.1 hi;refine⟨(aT.1 hl).1,?_⟩;unfold l8;rw[hl];simp[qS hp]
 refine⟨aG ls++M,?_,fun j hj=>?_,?_⟩
 .have:M.length=(fA ls ls.length).length:=by
   have:=congrArg List.length m1
   simpa [ids]using this
  rw[fS,this,hid,Dy]
 .rcases eO.1 hj with hj|hj
  .exact(kI j hj).1
  obtain⟨_,_,h⟩:=m2 j hj;exact h.2
 rw[kS,m1,GG];refine⟨?_,?_,?_⟩
 .have:(aG ls).map (l8 ls)=(aG ls).map fun i:Nat=>((0:Int),(i:Int)):=As fun i hi=>(kI i hi).2;rw[this];refine yW.2 (akp (fun{a b} h e=>h ?_) (alV ok));have:=congrArg Prod.snd e;simp only at this;omega
 .refine yW.2 (akp (fun{a b} h e=>h ?_) (Sf ls ls.length));exact congrArg Prod.snd e
 intro a ha b hb e;obtain⟨i,hi,rfl⟩:=cJ.1 ha;obtain⟨id,_,rfl⟩:=cJ.1 hb;rw[(kI i hi).2]at e;have:=congrArg Prod.fst e;simp at this
end
section
variable {F:Nat} {ls:ai} {p:Nat->Bool}
abbrev cvR(ls:ai)(p:Nat->Bool):Nat->Nat->Prop:=zk (2*nD ls) (sgC p (aO ls)) (tsC p (ls.length+(aG ls).length))
def Iw(ls:ai):nD ls=2*(ls.length+(aG ls).length):=by unfold nD;omega
def anx(hp:∀x,p (rv x)=p x){y:Nat}(hy:y<2*nD ls):bG (cvR ls p) y (uD p y):=by
 have hN:=Iw ls;obtain⟨h1,h2⟩:=axh p (k:=ls.length+(aG ls).length) (e:=y/4) aa;have r1:bG (cvR ls p) (4*(y/4)) (uD p (4*(y/4))):=.rel (.inr h1);have r2:bG (cvR ls p) (4*(y/4)+1) (uD p (4*(y/4)+1)):=.rel (.inr h2);have a2:=aln hp (y/4);have a3:=alo hp (y/4);rcases(by omega:y=4*(y/4)\/y=4*(y/4)+1\/y=4*(y/4)+2\/y=4*(y/4)+3)with e|e|e|e
 .rw[<-e]at r1;exact r1
 .rw[<-e]at r2;exact r2
 .rw[<-e]at a2;rw[a2];rw[Uk]at r1;rw[Ul]at r2;by_cases c:p (2*(y/4))=true
  .rw[aD c]at r2 |-;rw[<-e]at r2;exact r2.symm
  rw[au c]at r1 |-;rw[<-e]at r1;exact r1.symm
 rw[<-e]at a3;rw[a3];rw[Uk]at r1;rw[Ul]at r2;by_cases c:p (2*(y/4))=true
 .rw[aD c]at r1 |-;rw[<-e]at r1;exact r1.symm
 rw[au c]at r2 |-;rw[<-e]at r2;exact r2.symm
def acm(hp:∀x,p (rv x)=p x){x s:Nat}(hx:x<nD ls)(hs:s<2):bG (cvR ls p) (2*x+s) (2*rv x+fx (p x) s):=by have:=anx (ls:=ls) hp (y:=2*x+s) aa;unfold uD at this;rwa[show(2*x+s)/2=x by omega,show(2*x+s)%2=s by omega]at this
def ack(hp:∀x,p (rv x)=p x){x s:Nat}(hx:x<nD ls)(hs:s<2):bG (cvR ls p) (2*x+s) (2*aO ls x+s):=by
 have hN:=Iw ls;have hf:fx (p x) s<2:=Rj hs;refine(acm hp hx hs).trans (.rel (.inl ⟨?_,?_⟩))
 .have:rv x<nD ls:=by rw[hN];exact Ae aa
  omega
 unfold sgC;rw[show(2*rv x+fx (p x) s)/2=rv x by omega,show(2*rv x+fx (p x) s)%2=fx (p x) s by omega,Af,hp,aeA hs]
def BX(ls:ai)(p:Nat->Bool)(x:Nat):Prop:= ∃b,∀s,s<2->bG (cvR ls p) (2*x+s) (fx b s)
def apn(ls:ai)(p:Nat->Bool):BX ls p 0:=⟨false,fun s _=>by rw[show 2*0+s=s by omega];exact .refl _⟩
def ao8(a b:Bool){s:Nat}(h:s<2):fx a (fx b s)=fx (a !=b) s:=by unfold fx;cases a<;>cases b<;>simp;omega
def aeP(hp:∀x,p (rv x)=p x){x:Nat}(hx:x<nD ls)(h:BX ls p x):BX ls p (rv x):=by obtain⟨b,h⟩:=h;refine⟨b !=p x,fun s hs=>?_⟩;have h1:=(acm hp hx (s:=fx (p x) s) (Rj hs)).symm.trans (h (fx (p x) s) (Rj hs));rwa[aeA hs,ao8 _ _ hs]at h1
def aeO(hp:∀x,p (rv x)=p x){x:Nat}(hx:x<nD ls)(h:BX ls p x):BX ls p (aO ls x):=by obtain⟨t,h⟩:=h;exact⟨t,fun s hs=>(ack hp hx hs).symm.trans (h s hs)⟩
def apm(hp:∀x,p (rv x)=p x){x:Nat}(hx:x<nD ls)(h:BX ls p (aO ls x)):BX ls p x:=by obtain⟨t,h⟩:=h;exact⟨t,fun s hs=>(ack hp hx hs).trans (h s hs)⟩
def apl(hp:∀x,p (rv x)=p x)(ok:fJ F ls){x:Nat}(hx:x<nD ls):BX ls p x:=by
 have m:=maps ok;have hN:=Iw ls;have KJ:∀y,y<nD ls->rv y<nD ls:=fun y hy=>by rw[hN]at hy |-;exact Ae hy
 have fwd:∀i,i<ls.length->BX ls p (2*i):=by
  intro i
  induction i with
  |zero=>intro _;exact apn ls p
  |succ i ih=>
   intro hi;have h0:=ih aa;have h2:2*i<nD ls:=aa;have h3:=aeO hp h2 h0;have h4:=m.lt _ h2;have h5:=aeO hp (KJ _ h4) (aeP hp h4 h3);have e:2*i=fV ls.length (i+1) true:=by unfold fV;rw[aD rfl,show i+1+ls.length-1=i+ls.length by omega,ow,fT aa]
   rw[e,ajD ok hi]at h5;exact h5
 have str:∀y,y<2*ls.length->BX ls p y:=fun y hy=>by
  rcases vt y with c|c
  .rw[show y=2*(y/2) by omega];exact fwd _ aa
  have:=aeP hp (x:=2*(y/2)) aa (fwd (y/2) aa);rw[xE]at this;rw[show y=2*(y/2)+1 by omega];exact this
 rcases P0 x (2*ls.length)with c|c
 .exact str x c
 exact apm hp hx (str _ (m.ax x hx c))
end
section
variable {F:Nat} {ls:ai}
end
def axE{next:Nat->Nat}{N:Nat}(m:Ay next n2 N){α:Type}{φ:Nat->α}(hφ:∀x,x<N->φ (next x)=φ x){reps:a_}(hr:∀x∈reps,x<N)(hn:(reps.map φ).Nodup):reps.length<=(gH next N).length:=by
 have OB:=Dd next N;have jL:∀x,x<N->∃(i:Nat) (w:a_),(gH next N)[i]?=some w/\x∈w/\ER (gH next N) x=i:=fun x hx=>by obtain⟨w,hw,Ga⟩:=GF.1 (OB.2 x hx);obtain⟨i,hi⟩:=gV hw;exact⟨i,w,hi,Ga,PD OB.1 hi Ga⟩
 have apS:∀a b,bG (fun x y=>x<N/\y=next x) a b->φ a=φ b:=fun a b h=>by
  induction h with
  |rel h=>rw[h.2,hφ _ h.1]
  |refl _=>rfl
  |symm _ ih=>exact ih.symm
  |trans _ _ h1 h2=>exact h1.trans h2
 have Co:∀x,x<N->∀y,y<N->ER (gH next N) x=ER (gH next N) y->φ x=φ y:=fun x hx y hy e=>by obtain⟨i,w,hi,Ga,e1⟩:=jL x hx;obtain⟨j,v,hj,hyv,e2⟩:=jL y hy;rw[e1,e2]at e;subst e;rw[hi]at hj;cases hj;exact apS x y (aac m (R:=fun x y=>x<N/\y=next x) (fun z hz=>.rel ⟨hz,rfl⟩) (aV hi) Ga hyv)
 have h1:(reps.map (ER (gH next N))).Nodup:=by unfold List.Nodup at hn |-;rw[yW]at hn |-;refine hn.imp_of_mem fun{x y} hx hy h e=>?_;exact h (Co x (hr x hx) y (hr y hy) e)
 have h2:∀i∈reps.map (ER (gH next N)),i∈List.range (gH next N).length:=fun i hi=>by obtain⟨x,hx,rfl⟩:=cJ.1 hi;obtain⟨i,w,hi,_,e⟩:=jL x (hr x hx);rw[e];exact im.2 (aT.1 hi).1
 have:=LR _ _ h1 h2;rwa[cE,EX]at this
end
end Go.Abs
