/-
  Walks around faces.
-/
import Derived.Test.YtfdblnecoamlbaaGreatDoorWs
set_option linter.all false
set_option maxHeartbeats 16000000
namespace Go.Abs
section
variable{n2 x:Nat}{f:Fc}
def Sm{S:m_}(h:sn S x=false):x<S.length:=by
 rcases Nat.lt_or_ge x S.length with h1|h1
 .exact h1
 rw[sn,dA,qp h1] at h;cases h
def aiC(next:Nat->Nat):∀(k x:Nat) (S:m_),(∀y∈(fp next k x S).1,sn S y=false)/\(fp next k x S).1.Nodup/\ ∀y,sn (fp next k x S).2 y=(sn S y||decide (y∈(fp next k x S).1)):=by
 intro k
 induction k with
 |zero=>intro x S;simp[fp]
 |succ k ih=>
  intro x S;unfold fp;cases hx:S.getD x true with
  |true=>simp
  |false=>
   have hl:=Sm (S:=S) (x:=x) hx;obtain⟨h1,h2,h3⟩:=ih (next x) (S.set x true);simp only[dN,if_false];have iG:∀y,sn (S.set x true) y=if y=x then true else sn S y:=fun y=>OL hl;refine⟨fun y hy=>?_,?_,fun y=>?_⟩
   .rcases cD.1 hy with rfl|hy
    .exact hx
    have:=h1 y hy;rw[iG] at this;split at this
    .cases this
    exact this
   .refine qU.2 ⟨fun hm=>?_,h2⟩;have:=h1 x hm;rw[iG,aD rfl] at this;cases this
   rw[h3,iG];by_cases e:y=x
   .subst e;simp
   rw[ay e];have:decide (y∈x::(fp next k (next x) (S.set x true)).1)=decide (y∈(fp next k (next x) (S.set x true)).1):=by simp[e]
   rw[this]
def avR(next:Nat->Nat)(N:Nat):∀k,(dX next N k).1.flatten.Nodup/\(∀y,y<N->sn (dX next N k).2 y=decide (y∈(dX next N k).1.flatten))/\(∀y∈(dX next N k).1.flatten,y<N)/\ ∀x,x<k->x<N->sn (dX next N k).2 x=true:=by
 intro k
 induction k with
 |zero=>refine⟨by simp[dX],fun y hy=>?_,by simp[dX],fun x hx=>absurd hx (oN x)⟩;have:(dX next N 0).2=List.replicate N false:=rfl;rw[this,YG hy];simp[dX]
 |succ k ih=>
  obtain⟨h1,h2,h4,h3⟩:=ih;rw[zC];unfold vR;have hlen:=Is next N k;cases hk:(dX next N k).2.getD k true with
  |true=>
   rw[aD rfl];refine⟨h1,h2,h4,fun x hx BN=>?_⟩;rcases nN.1 hx with h|rfl
   .exact h3 x h BN
   exact hk
  |false=>
   rw[ay ae];have hkN:k<N:=by have:=Sm (S:=(dX next N k).2) hk;omega
   obtain⟨g1,g2,g3⟩:=aiC next ((dX next N k).2.length+1) k (dX next N k).2;have WJ:=aiB next ((dX next N k).2.length+1) k (dX next N k).2 (by have:=Lp (dX next N k).2;omega);refine⟨?_,fun y hy=>?_,?_,fun x hx BN=>?_⟩
   .rw[Eh,Gf];refine⟨h1,by simpa using g2,fun y hy z hz=>?_⟩;rintro rfl
    have e1:=g1 y (by simpa using hz);have hyN:=h4 y hy;rw[h2 y hyN] at e1;simp[hy] at e1
   .rw[g3,h2 y hy,Eh,Ef];simp
   .intro y hy;rw[Eh,eK] at hy;rcases hy with hy|hy
    .exact h4 y hy
    have:=Sm (g1 y (by simpa using hy));omega
   rcases nN.1 hx with h|rfl
   .rw[g3,h3 x h BN];rfl
   exact WJ
def Cv(next:Nat->Nat)(N:Nat):(gU next N).flatten.Nodup/\ ∀y,y<N->y∈(gU next N).flatten:=by obtain⟨h1,h2,_,h3⟩:=avR next N N;refine⟨h1,fun y hy=>?_⟩;have:=h3 y hy hy;rw[h2 y hy] at this;exact qu this
def X3{L:List a_}(h:L.flatten.Nodup){i j:Nat}{a b:a_}(hi:L[i]?=some a)(hj:L[j]?=some b)(ha:x∈a)(hb:x∈b):i=j:=by
 induction L generalizing i j with
 |nil=>simp at hi
 |cons l L ih=>
  rw[mX,Gf] at h;obtain⟨_,h2,h3⟩:=h;cases i with
  |zero=>
   simp at hi;subst hi;cases j with
   |zero=>rfl
   |succ j=>simp at hj;exact absurd rfl (h3 x ha x (Ge.2 ⟨b,aV hj,hb⟩))
  |succ i=>
   simp at hi;cases j with
   |zero=>simp at hj;subst hj;exact absurd rfl (h3 x hb x (Ge.2 ⟨a,aV hi,ha⟩))
   |succ j=>simp at hj;rw[ih h2 hi hj]
section
variable {F:Nat} {ls:ai}
def acO{j:Nat}(h:(eS F ls)[j]?=some f):∃w,(gU (aW ls) (nD ls))[j]?=some w/\f=nk F ls w:=by
 unfold eS at h;rw[fG] at h;cases hw:(gU (aW ls) (nD ls))[j]? with
 |none=>rw[hw] at h;cases h
 |some w=>rw[hw] at h;cases h;exact⟨w,rfl,rfl⟩
def abd{i j:Nat}{a b:Fc}{d:Nat}(hi:(eS F ls)[i]?=some a)(hj:(eS F ls)[j]?=some b)(ha:d∈a.cq)(hb:d∈b.cq):i=j:=by obtain⟨v,hv,rfl⟩:=acO hi;obtain⟨w,hw,rfl⟩:=acO hj;rw[Dd] at ha hb;exact X3 (Cv _ _).1 hv hw (u7.1 ha).1 (u7.1 hb).1
def abe(h:f∈eS F ls):f.cq.Nodup:=by obtain⟨w,hw,rfl⟩:=dh.1 h;rw[Dd];have:=(Cv (aW ls) (nD ls)).1;exact List.Pairwise.sublist List.filter_sublist (List.Pairwise.sublist (List.sublist_flatten_of_mem hw) this)
def alK{d:Nat}(hd:d<2*ls.length):∃(j:Nat) (f:Fc),(eS F ls)[j]?=some f/\d∈f.cq:=by
 have:=(Cv (aW ls) (nD ls)).2 d (by unfold nD;omega);obtain⟨w,hw,hdw⟩:=Ge.1 this;obtain⟨j,hj⟩:=iJ hw;have nz:(eS F ls)[j]?=some (nk F ls w):=by unfold eS;rw[fG,hj];rfl
 refine⟨j,nk F ls w,nz,?_⟩;rw[Dd];exact u7.2 ⟨hdw,by simpa using hd⟩
def ahH{ds:a_}{v:Nat}{d:Nat}:∀ {L:a_},d<L.length->(qo L ds v)[d]?=if d∈ds then some v else L[d]? :=by
 induction ds with
 |nil=>intro L _;simp[qo]
 |cons e ds ih=>
  intro L hd;show(qo (L.set e v) ds v)[d]?=_;rw[ih (by simpa using hd),qT];by_cases h1:d∈ds
  .simp[h1]
  by_cases h2:e=d
  .subst h2;simp[hd]
  have:d≠e:=fun h=>h2 h.symm;simp[h1,h2,this]
def apY{d:Nat}:∀ {fs:q_} {j:Nat} {L:a_},d<L.length->(∀f∈fs,d∉f.cq)->(rF fs j L)[d]?=L[d]? :=by
 intro fs
 induction fs with
 |nil=>intro j L _ _;rfl
 |cons f fs ih=>intro j L hd h;show(rF fs (j+1) (qo L f.cq j))[d]?=_;rw[ih (by rw[OH];exact hd) fun g hg=>h g (by simp[hg]),ahH hd,ay (h f af)]
def apX{d:Nat}:∀ {fs:q_} {j i:Nat} {L:a_} {f:Fc},d<L.length->fs[i]?=some f->d∈f.cq->(∀i' f',fs[i']?=some f'->d∈f'.cq->i'=i)->(rF fs j L)[d]?=some (j+i):=by
 intro fs
 induction fs with
 |nil=>intro j i L f _ h;simp at h
 |cons g fs ih=>
  intro j i L f hd hi hf hu;show(rF fs (j+1) (qo L g.cq j))[d]?=_;cases i with
  |zero=>
   simp at hi;subst hi;rw[apY (by rw[OH];exact hd),ahH hd,aD hf]
   .rfl
   intro f' hf' Hl;obtain⟨i',vA⟩:=iJ hf';have:=hu (i'+1) f' (by simpa using vA) Hl;omega
  |succ i=>simp at hi;rw[ih (by rw[OH];exact hd) hi hf fun i' f' h1 h2=>by have:=hu (i'+1) f' (by simpa using h1) h2;omega];congr 1;omega
def left_at{d j:Nat}(hd:d<2*ls.length)(hf:(eS F ls)[j]?=some f)(hm:d∈f.cq):(pK F ls)[d]?=some j:=by unfold pK;rw[apX (by simpa using hd) hf hm fun i' f' h1 h2=>abd h1 hf h2 hm];congr 1;omega
def V2{d:Nat}(hd:d<2*ls.length):∃j,(eS F ls)[j]?=some (lU F ls d)/\d∈(lU F ls d).cq/\(pK F ls)[d]?=some j:=by
 obtain⟨j,f,hf,hm⟩:=alK (F:=F) hd;have hl:=left_at hd hf hm;have e:lU F ls d=f:=by unfold lU;rw[dA (l:=pK F ls),hl,nO,dA,hf,nO]
 exact⟨j,e▸hf,e▸hm,hl⟩
def acN{d:Nat}(hd:d<2*ls.length)(hf:f∈eS F ls)(hm:d∈f.cq):lU F ls d=f:=by obtain⟨j,h1,h2,_⟩:=V2 (F:=F) hd;obtain⟨i,hi⟩:=iJ hf;have:=abd hi h1 hm h2;subst this;rw[h1] at hi;cases hi;rfl
def PW{d:Nat}(hd:d<2*ls.length):lU F ls d∈eS F ls:=by obtain⟨j,h1,_⟩:=V2 (F:=F) hd;exact aV h1
def KR(pl:Nat)(edges:a_)(f:Fc):Bool:=(f.cq.length==edges.length)&&((f.places.length==pl)&&edges.all fun e=> !(decide (2*e∈f.cq)==decide (2*e+1∈f.cq)))
def FU(F:Nat)(ls:ai)(pl:Nat)(edges:a_):Bool:=(eS F ls).any (KR pl edges)
def alM(h:f.cq.Nodup)(e:Nat):vj f e=(if 2*e∈f.cq then 1 else 0)+(if 2*e+1∈f.cq then 1 else 0):=by
 unfold vj;generalize f.cq=D at h
 induction D with
 |nil=>simp
 |cons d D ih=>
  obtain⟨h1,h2⟩:=qU.1 h;rw[xg,ih h2];by_cases e1:d=2*e
  .subst e1;have:(2*e/2==e)=true:=af;have e3:¬(2*e+1=2*e):=aa;simp[h1];omega
  by_cases e2:d=2*e+1
  .subst e2;have:((2*e+1)/2==e)=true:=by simp;omega
   have e3:¬(2*e=2*e+1):=aa;simp[this,h1]
  have:(d/2==e)=false:=by simp;omega
  have e3:¬(2*e=d):=fun h=>e1 h.symm;have e4:¬(2*e+1=d):=fun h=>e2 h.symm;simp[this,e3,e4]
def aaX(h:f.cq.Nodup)(pl:Nat)(edges:a_):we f pl edges=KR pl edges f:=by unfold we KR;congr 2;refine List.all_congr rfl fun e=>?_;rw[alM h];by_cases h1:2*e∈f.cq<;>by_cases h2:2*e+1∈f.cq<;>simp[h1,h2]
def EI{pl:Nat}{edges:a_}{e0:Nat}(h0:edges[0]?=some e0)(he0:e0<ls.length):lk F ls pl edges e0=FU F ls pl edges:=by
 unfold lk FU;have m1:=PW (F:=F) (ls:=ls) (d:=2*e0) aa;have m2:=PW (F:=F) (ls:=ls) (d:=2*e0+1) aa;rw[aaX (abe m1),aaX (abe m2),Ef,vT,zE];constructor
 .rintro (h|h)
  .exact⟨_,m1,h⟩
  exact⟨_,m2,h⟩
 rintro ⟨f,hf,h⟩
 have hm:=h;unfold KR at hm;simp only[cU,gO] at hm;have:=hm.2.2 e0 (aV h0);by_cases h1:2*e0∈f.cq
 .left;rw[acN aa hf h1];exact h
 by_cases h2:2*e0+1∈f.cq
 .right;rw[acN aa hf h2];exact h
 simp[h1,h2] at this
end
inductive bt (R:Nat->Nat->Prop):Nat->Nat->Prop
 |rel {a b:Nat}:R a b->bt R a b
 |refl (a:Nat):bt R a a
 |symm {a b:Nat}:bt R a b->bt R b a
 |trans {a b c:Nat}:bt R a b->bt R b c->bt R a c
def bt.mono{R R':Nat->Nat->Prop}(h:∀a b,R a b->bt R' a b){y:Nat}(e:bt R x y):bt R' x y:=by
 induction e with
 |rel r=>exact h _ _ r
 |refl a=>exact .refl a
 |symm _ ih=>exact .symm ih
 |trans _ _ i1 i2=>exact .trans i1 i2
def bt.inv{R:Nat->Nat->Prop}{α:Type}{f:Nat->α}(h:∀a b,R a b->f a=f b){y:Nat}(e:bt R x y):f x=f y:=by
 induction e with
 |rel r=>exact h _ _ r
 |refl a=>rfl
 |symm _ ih=>exact ih.symm
 |trans _ _ i1 i2=>exact i1.trans i2
def ld (E:Nat->Nat->Prop)(x:Nat):Prop:=∀y,E x y->x<=y
noncomputable def BT (E:Nat->Nat->Prop) (x:Nat):Bool:= @decide (ld E x) (Classical.propDecidable _)
def KA{E:Nat->Nat->Prop}:BT E x=true↔ld E x:=by unfold BT;exact @decide_eq_true_iff _ (Classical.propDecidable _)
noncomputable def K (E:Nat->Nat->Prop) (n:Nat):Nat:=(List.range n).countP (BT E)
def IL{E E':Nat->Nat->Prop}(h:∀x y,E x y↔E' x y)(n:Nat):K E n=K E' n:=by have:E=E':=funext fun x=>funext fun y=>propext (h x y);rw[this]
def exists_least{p:Nat->Prop}:∀n,p n->∃m,p m/\ ∀k,p k->m<=k:=by
 intro n
 induction n using Nat.strongRecOn with
 |ind n ih=>
  intro h;rcases Classical.em (∃k,k<n/\p k) with ⟨k,hk,hp⟩|dM
  .exact ih k hk hp
  exact⟨n,h,fun k hk=>Nat.le_of_not_lt fun aw=>dM ⟨k,aw,hk⟩⟩
def XG(R:Nat->Nat->Prop)(x:Nat):∃m,bt R x m/\ld (bt R) m/\m<=x:=by obtain⟨m,h1,h2⟩:=exists_least (p:=fun y=>bt R x y) x (.refl x);exact⟨m,h1,fun y hy=>h2 y (h1.trans hy),h2 x (.refl x)⟩
def alu{p:Nat->Bool}(hp:p x=true):∀ {l:a_},l.Nodup->x∈l->l.countP p=l.countP (fun y=>p y&&y !=x)+1:=by
 intro l
 induction l with
 |nil=>intro _ h;cases h
 |cons a l ih=>
  intro hn hm;obtain⟨h1,h2⟩:=qU.1 hn;rw[xg,xg];by_cases e:a=x
  .subst e;have hc:l.countP p=l.countP (fun y=>p y&&y !=a):=IC fun y hy=>by
    have:(y !=a)=true:=by simp;rintro rfl;exact h1 hy
    simp[this]
   simp[hp,hc]
  have hx:x∈l:=by rcases cD.1 hm with h|h;exact absurd h.symm e;exact h
  rw[ih h2 hx];have:(a !=x)=true:=by simp[e]
  simp only[this,vS];omega
abbrev rQ(R:Nat->Nat->Prop)(a b:Nat)(x y:Nat):Prop:=R x y\/(x=a/\y=b)
def GR{R:Nat->Nat->Prop}{a b y:Nat}:bt (rQ R a b) x y↔bt R x y\/(bt R x a/\bt R b y)\/(bt R x b/\bt R a y):=by
 constructor
 .intro h
  induction h with
  |rel r=>
   rcases r with r|⟨rfl,rfl⟩
   .exact .inl (.rel r)
   exact .inr (.inl ⟨.refl _,.refl _⟩)
  |refl a=>exact .inl (.refl a)
  |symm _ ih=>
   rcases ih with h|⟨h1,h2⟩|⟨h1,h2⟩
   .exact .inl h.symm
   .exact .inr (.inr ⟨h2.symm,h1.symm⟩)
   exact .inr (.inl ⟨h2.symm,h1.symm⟩)
  |trans _ _ i1 i2=>
   rcases i1 with h|⟨h1,h2⟩|⟨h1,h2⟩<;>rcases i2 with k|⟨k1,k2⟩|⟨k1,k2⟩
   .exact .inl (h.trans k)
   .exact .inr (.inl ⟨h.trans k1,k2⟩)
   .exact .inr (.inr ⟨h.trans k1,k2⟩)
   .exact .inr (.inl ⟨h1,h2.trans k⟩)
   .exact .inr (.inl ⟨h1,k2⟩)
   .exact .inl (h1.trans k2)
   .exact .inr (.inr ⟨h1,h2.trans k⟩)
   .exact .inl (h1.trans k2)
   exact .inr (.inr ⟨h1,k2⟩)
 have up:∀ {u v},bt R u v->bt (rQ R a b) u v:=fun h=>h.mono fun _ _ r=>.rel (.inl r);have ab:bt (rQ R a b) a b:=.rel (.inr ⟨rfl,rfl⟩);rintro (h|⟨h1,h2⟩|⟨h1,h2⟩)
 .exact up h
 .exact(up h1).trans (ab.trans (up h2))
 exact(up h1).trans (ab.symm.trans (up h2))
def SR{R:Nat->Nat->Prop}{a b:Nat}(h:bt R a b)(n:Nat):K (bt (rQ R a b)) n=K (bt R) n:=by
 refine IL (fun x y=>?_) n;rw[GR];constructor
 .rintro (k|⟨h1,h2⟩|⟨h1,h2⟩)
  .exact k
  .exact h1.trans (h.trans h2)
  exact h1.trans (h.symm.trans h2)
 exact .inl
def Zn{E E':Nat->Nat->Prop}{n m:Nat}(hm:m<n)(h0:ld E m)(h:∀x,ld E' x↔ld E x/\x≠m):K E n=K E' n+1:=by unfold K;rw[alu (p:=BT E) (x:=m) (KA.2 h0) Gg (gV.2 hm)];congr 1;refine IC fun x _=>?_;rw[KA,h,cU,KA];simp
def SQ{R:Nat->Nat->Prop}{a b n:Nat}(ha:a<n)(hb:b<n)(h:¬bt R a b):K (bt R) n=K (bt (rQ R a b)) n+1:=by
 obtain⟨p,p1,p2,p3⟩:=XG R a;obtain⟨q,q1,q2,q3⟩:=XG R b;have Ke:p≠q:=fun e=>h (p1.trans (e▸q1.symm));rcases Nat.lt_or_gt_of_ne Ke with c|c
 .refine Zn (m:=q) aa q2 fun x=>⟨fun hx=>⟨fun y hy=>hx y (GR.2 (.inl hy)),?_⟩,fun⟨hx,hxq⟩ y hy=>?_⟩
  .rintro rfl
   have:=hx p (GR.2 (.inr (.inr ⟨q1.symm,p1⟩)));omega
  rcases GR.1 hy with hy|⟨h1,h2⟩|⟨h1,h2⟩
  .exact hx y hy
  .have e1:=hx p (h1.trans p1);have e2:=q2 y (q1.symm.trans h2);omega
  have e1:=hx q (h1.trans q1);have e2:=q2 x (q1.symm.trans h1.symm);omega
 refine Zn (m:=p) aa p2 fun x=>⟨fun hx=>⟨fun y hy=>hx y (GR.2 (.inl hy)),?_⟩,fun⟨hx,hxq⟩ y hy=>?_⟩
 .rintro rfl
  have:=hx q (GR.2 (.inr (.inl ⟨p1.symm,q1⟩)));omega
 rcases GR.1 hy with hy|⟨h1,h2⟩|⟨h1,h2⟩
 .exact hx y hy
 .have e1:=hx p (h1.trans p1);have e2:=p2 x (p1.symm.trans h1.symm);omega
 have e1:=hx q (h1.trans q1);have e2:=p2 y (p1.symm.trans h2);omega
def Zo{R:Nat->Nat->Prop}{α:Type}{f:Nat->α}(h:∀a b,R a b->f a=f b){n:Nat}{reps:a_}(hr:∀x∈reps,x<n)(hn:(reps.map f).Nodup):reps.length<=K (bt R) n:=by
 have key:∀reps:a_,(∀x∈reps,x<n)->(reps.map f).Nodup->∃L:a_,L.length=reps.length/\L.Nodup/\(∀m∈L,m<n/\ld (bt R) m)/\ ∀m∈L,f m∈reps.map f:=by
  intro reps
  induction reps with
  |nil=>intro _ _;exact⟨[],rfl,xl,af,af⟩
  |cons a r ih=>
   intro hr hn;rw[eh,qU] at hn;obtain⟨L,l1,l2,l3,l4⟩:=ih (fun x hx=>hr x (by simp[hx])) hn.2;obtain⟨m,m1,m2,m3⟩:=XG R a;have hfm:f m=f a:=(m1.inv h).symm;have ha:=hr a af;refine⟨m::L,by simp[l1],qU.2 ⟨fun hm=>hn.1 (hfm▸l4 m hm),l2⟩,fun x hx=>?_,fun x hx=>?_⟩
   .rcases cD.1 hx with rfl|hx
    .exact⟨aa,m2⟩
    exact l3 x hx
   rcases cD.1 hx with rfl|hx
   .rw[hfm];simp
   rw[eh];exact u6 _ (l4 x hx)
 obtain⟨L,l1,l2,l3,_⟩:=key reps hr hn;rw[<- l1];unfold K;rw[List.countP_eq_length_filter];have sub:∀(L M:a_),L.Nodup->(∀x∈L,x∈M)->L.length<=M.length:=by
  intro L
  induction L with
  |nil=>intro M _ _;exact bG _
  |cons a L ih=>intro M hn hs;obtain⟨h1,h2⟩:=qU.1 hn;have ha:=hs a af;have:=ih (M.erase a) h2 fun x hx=>(List.mem_erase_of_ne (by rintro rfl;exact h1 hx)).2 (hs x (by simp[hx]));rw[SN ha] at this;have:0<M.length:=LH ha;simp only[dC];omega
 exact sub L _ l2 fun x hx=>u7.2 ⟨gV.2 (l3 x hx).1,KA.2 (l3 x hx).2⟩
def aiS{R:Nat->Nat->Prop}{n:Nat}(h:∀x,x<n->bt R x 0):K (bt R) n<=1:=by
 unfold K;have hz:∀x∈List.range n,BT (bt R) x=true->x=0:=fun x hx hl=>by have:=KA.1 hl 0 (h x (gV.1 hx));omega
 have:∀l:a_,l.Nodup->(∀x∈l,BT (bt R) x=true->x=0)->l.countP (BT (bt R))<=1:=by
  intro l
  induction l with
  |nil=>intro _ _;simp
  |cons a l ih=>
   intro hn hl;obtain⟨h1,h2⟩:=qU.1 hn;rw[xg];by_cases c:BT (bt R) a=true
   .have ha:=hl a af c;subst ha;have:l.countP (BT (bt R))=0:=Lx.2 fun x hx wO=>h1 (by have:=hl x (by simp[hx]) wO;subst this;exact hx);simp[c,this]
   have:=ih h2 fun x hx=>hl x (by simp[hx]);simp[c,this]
 exact this _ Gg hz
structure Perm (n:Nat) (p:Nat->Nat):Prop where
 lt:∀x,x<n->p x<n
 inj:∀x y,x<n->y<n->p x=p y->x=y
abbrev gr(n:Nat)(p:Nat->Nat)(x y:Nat):Prop:=x<n/\y=p x
def tr (p:Nat->Nat)(t:Nat×Nat)(x:Nat):Nat:=if x=t.1 then p t.2 else if x=t.2 then p t.1 else p x
def SA(p:Nat->Nat)(a b x:Nat):tr p (a,b) x=p (if x=a then b else if x=b then a else x):=by
 unfold tr;simp only;split
 .rfl
 split<;>rfl
def Perm.tr{n:Nat}{p:Nat->Nat}(h:Perm n p){a b:Nat}(ha:a<n)(hb:b<n):Perm n (tr p (a,b)):=by
 have hs:∀x,x<n->(if x=a then b else if x=b then a else x)<n:=fun x hx=>by split<;>(try split)<;>assumption
 refine⟨fun x hx=>by rw[SA];exact h.lt _ (hs x hx),fun x y hx hy e=>?_⟩;rw[SA,SA] at e;have e:=h.inj _ _ (hs x hx) (hs y hy) e;by_cases x1:x=a
 .rw[aD x1] at e;by_cases y1:y=a
  .omega
  rw[ay y1] at e;split at e<;>omega
 rw[ay x1] at e;by_cases y1:y=a
 .rw[aD y1] at e;split at e<;>omega
 rw[ay y1] at e;split at e<;>split at e<;>omega
def it (p:Nat->Nat):Nat->Nat->Nat
 |0,x=>x
 |k+1,x=>p (it p k x)
def Perm.HP{n:Nat}{p:Nat->Nat}(h:Perm n p)(hx:x<n):∀k,it p k x<n:=by
 intro k
 induction k with
 |zero=>exact hx
 |succ k ih=>exact h.lt _ ih
def Perm.back{n:Nat}{p:Nat->Nat}(h:Perm n p)(hx:x<n):∀i j,it p (i+j) x=it p i x->it p j x=x:=by
 intro i
 induction i with
 |zero=>intro j e;rw[js] at e;exact e
 |succ i ih=>intro j e;rw[show i+1+j=(i+j)+1 by omega] at e;exact ih j (h.inj _ _ (h.HP hx _) (h.HP hx _) e)
def Lg:∀(L M:a_),L.Nodup->(∀x∈L,x∈M)->L.length<=M.length:=by
 intro L
 induction L with
 |nil=>intro M _ _;exact bG _
 |cons a L ih=>intro M hn hs;obtain⟨h1,h2⟩:=qU.1 hn;have ha:=hs a af;have:=ih (M.erase a) h2 fun x hx=>(List.mem_erase_of_ne (by rintro rfl;exact h1 hx)).2 (hs x (by simp[hx]));rw[SN ha] at this;have:0<M.length:=LH ha;simp only[dC];omega
def Perm.aa7{n:Nat}{p:Nat->Nat}(h:Perm n p)(hx:x<n):∃m,it p (m+1) x=x:=by
 apply Classical.byContradiction;intro dM;have key:∀k,((List.range k).map fun i=>it p i x).Nodup:=by
  intro k
  induction k with
  |zero=>simp
  |succ k ih=>rw[yn,kZ,Gf];refine⟨ih,af,fun a ha b hb=>?_⟩;obtain⟨i,hi,rfl⟩:=dh.1 ha;have hi:=gV.1 hi;simp only[eh,lQ,k9] at hb;subst hb;intro e;have:=h.back hx i (k-i) (by rw[show i+(k-i)=k by omega];exact e.symm);exact dM ⟨k-i-1,by rw[show k-i-1+1=k-i by omega];exact this⟩
 have:=Lg _ (List.range n) (key (n+1)) fun y hy=>by obtain⟨i,_,rfl⟩:=dh.1 hy;exact gV.2 (h.HP hx i)
 rw[cM,Ek,Ek] at this;omega
def aeG(p:Nat->Nat)(x:Nat):∀k,it p (k+1) x=it p k (p x):=by
 intro k
 induction k with
 |zero=>rfl
 |succ k ih=>show p (it p (k+1) x)=p (it p k (p x));rw[ih]
def aiq{n:Nat}{p:Nat->Nat}(h:Perm n p){a b:Nat}(ha:a<n)(hb:b<n)(ef:¬bt (gr n p) a b):bt (gr n (tr p (a,b))) a b:=by
 obtain⟨m,hm⟩:=h.aa7 hb;have e0:tr p (a,b) a=p b:=by unfold tr;rw[aD rfl]
 have bN:∀k,bt (gr n p) b (it p k b):=by
  intro k
  induction k with
  |zero=>exact .refl _
  |succ k ih=>exact ih.trans (.rel ⟨h.HP hb k,rfl⟩)
 have key:∀k,bt (gr n (tr p (a,b))) a b\/bt (gr n (tr p (a,b))) a (it p k (p b)):=by
  intro k
  induction k with
  |zero=>exact .inr (.rel ⟨ha,e0.symm⟩)
  |succ k ih=>
   rcases ih with ih|ih
   .exact .inl ih
   by_cases c:it p k (p b)=b
   .rw[c] at ih;exact .inl ih
   refine .inr (ih.trans (.rel ⟨h.HP (h.lt _ hb) k,?_⟩));have na:it p k (p b)≠a:=fun e=>ef (by have:=bN (k+1);rw[aeG,e] at this;exact this.symm)
   unfold tr;rw[ay na,ay c];rfl
 rcases key m with k|k
 .exact k
 rw[<- aeG,hm] at k;exact k
def S6{n:Nat}{p:Nat->Nat}{a b:Nat}(ha:a<n)(hb:b<n){S:Nat->Nat->Prop}{x y:Nat}:bt (rQ (fun x y=>gr n (tr p (a,b)) x y\/S x y) a b) x y↔bt (rQ (fun x y=>gr n p x y\/S x y) a b) x y:=by
 have ab:∀R:Nat->Nat->Prop,bt (rQ R a b) a b:=fun R=>.rel (.inr ⟨rfl,rfl⟩);constructor
 .refine bt.mono fun u v r=>?_;rcases r with (⟨hu,rfl⟩|s)|⟨rfl,rfl⟩
  .unfold tr;simp only;by_cases c:u=a
   .subst c;rw[aD rfl];exact(ab _).trans (.rel (.inl (.inl ⟨hb,rfl⟩)))
   rw[ay c];by_cases d:u=b
   .subst d;rw[aD rfl];exact(ab _).symm.trans (.rel (.inl (.inl ⟨ha,rfl⟩)))
   rw[ay d];exact .rel (.inl (.inl ⟨hu,rfl⟩))
  .exact .rel (.inl (.inr s))
  exact ab _
 refine bt.mono fun u v r=>?_;rcases r with (⟨hu,rfl⟩|s)|⟨rfl,rfl⟩
 .by_cases c:u=a
  .subst c;refine(ab _).trans (.rel (.inl (.inl ⟨hb,?_⟩)));unfold tr;simp only;by_cases d:b=u
   .rw[aD d,d]
   rw[ay d];simp
  by_cases d:u=b
  .subst d;refine(ab _).symm.trans (.rel (.inl (.inl ⟨ha,?_⟩)));unfold tr;rw[aD rfl]
  refine .rel (.inl (.inl ⟨hu,?_⟩));unfold tr;rw[ay c,ay d]
 .exact .rel (.inl (.inr s))
 exact ab _
abbrev inT(ts:v_)(x y:Nat):Prop:=(x,y)∈ts
abbrev yD(n:Nat)(p:Nat->Nat)(ts:v_)(x y:Nat):Prop:=gr n p x y\/inT ts x y
def aml{n:Nat}:∀(ts:v_) (p:Nat->Nat),Perm n p->(∀t∈ts,t.1<n/\t.2<n)->
  K (bt (gr n (ts.foldl tr p))) n+K (bt (gr n p)) n<=2*K (bt (yD n p ts)) n+ts.length:=by
 intro ts
 induction ts with
 |nil=>
  intro p _ _;have:K (bt (yD n p [])) n=K (bt (gr n p)) n:=IL (fun x y=>⟨bt.mono (R:=yD n p []) (R':=gr n p) (fun u v r=>by
   rcases r with r|r
   .exact .rel r
   cases r),bt.mono (R:=gr n p) (R':=yD n p []) (fun u v r=>.rel (.inl r))⟩) n
  rw[this];simp only[List.foldl_nil,fe];omega
 |cons t ts ih=>
  intro p hp ht;obtain⟨a,b⟩:=t;obtain⟨ha,hb⟩:=ht (a,b) af
  replace ha:a<n:=ha
  replace hb:b<n:=hb
  have ih:=ih (tr p (a,b)) (hp.tr ha hb) fun t h=>ht t (by simp[h]);have all:∀x y,bt (yD n p ((a,b)::ts)) x y↔bt (rQ (yD n (tr p (a,b)) ts) a b) x y:=fun x y=>by
   refine Iff.trans ⟨bt.mono fun u v r=>?_,bt.mono fun u v r=>?_⟩ (S6 (S:=inT ts) ha hb).symm
   .rcases r with r|r
    .exact .rel (.inl (.inl r))
    rcases cD.1 r with r|r
    .cases r;exact .rel (.inr ⟨rfl,rfl⟩)
    exact .rel (.inl (.inr r))
   rcases r with (r|r)|⟨rfl,rfl⟩
   .exact .rel (.inl r)
   .exact .rel (.inr (u6 _ r))
   exact .rel (.inr (O1 ..))
  have one:∀x y,bt (rQ (gr n (tr p (a,b))) a b) x y↔bt (rQ (gr n p) a b) x y:=fun x y=>by have h:=S6 (p:=p) (S:=fun _ _=>False) ha hb (x:=x) (y:=y);have e:∀q:Nat->Nat,(fun x y=>gr n q x y\/False)=gr n q:=fun q=>funext fun x=>funext fun y=>propext af;rw[e,e] at h;exact h
  rw[IL all];simp only[Bc,dC];have kj:K (bt (rQ (gr n (tr p (a,b))) a b)) n=K (bt (rQ (gr n p) a b)) n:=IL one n;have sm:∀R:Nat->Nat->Prop,bt R a b->K (bt (rQ R a b)) n=K (bt R) n:=fun R h=>SR h n;have jn:∀R:Nat->Nat->Prop,¬bt R a b->K (bt R) n=K (bt (rQ R a b)) n+1:=fun R h=>SQ ha hb h;rcases Classical.em (bt (gr n p) a b) with c|c
  .have k1:=sm _ c;rcases Classical.em (bt (gr n (tr p (a,b))) a b) with d|d
   .have k2:=sm _ d;have k3:=sm _ (d.mono (R':=yD n (tr p (a,b)) ts) fun u v r=>.rel (.inl r));omega
   have k2:=jn _ d;rcases Classical.em (bt (yD n (tr p (a,b)) ts) a b) with d2|d2
   .have k3:=sm _ d2;omega
   have k3:=jn _ d2;omega
  have k1:=jn _ c;have d:=aiq hp ha hb c;have k2:=sm _ d;have k3:=sm _ (d.mono (R':=yD n (tr p (a,b)) ts) fun u v r=>.rel (.inl r));omega
def rv (x:Nat):Nat:=if x%2=0 then x+1 else x-1
def wZ(k:Nat):rv (2*k)=2*k+1:=by unfold rv;rw[aD aa]
def Cl(k:Nat):rv (2*k+1)=2*k:=by unfold rv;rw[ay aa];rfl
def A3(x:Nat):rv (rv x)=x:=by
 rcases xn x with h|h
 .rw[show x=2*(x/2) by omega,wZ,Cl]
 rw[show x=2*(x/2)+1 by omega,Cl,wZ]
def A2{m:Nat}(h:x<2*m):rv x<2*m:=by unfold rv;split<;>omega
def A1(n v:Nat)(g:Bool):rv (dF n v g)=gE n v (!g):=by
 cases g with
 |true=>exact wZ _
 |false=>exact Cl _
def ato(n v:Nat)(g:Bool):rv (gE n v g)=dF n v (!g):=by
 cases g with
 |true=>exact wZ _
 |false=>exact Cl _
def yv{n v:Nat}(hv:v<n)(g:Bool):gE n v g<2*n:=by have:=dr (v+n-1) (show 0<n by omega);unfold gE;split<;>omega
def Ph{n:Nat}(hx:x<2*n):x=gE n (if x%2=0 then (x/2+1)%n else x/2) (x%2==0):=by
 unfold gE;rcases xn x with h|h
 .simp only[h,Cy,if_true];rw[xY aa];omega
 simp only[h,show((1:Nat)==0)=false from rfl,dN,if_false,Nat.one_ne_zero];omega
section
variable {F:Nat} {ls:ai}
def aiu{v:Nat}{l:Let}(hl:ls[v]?=some l)(fw:Bool):aW ls (gE ls.length v fw)=if l.kind==2 then dF ls.length (fJ ls v) (fw==(l.over==(l.sign==1)))
   else if dn ls v==fw then 2*ls.length+2*(aG ls).idxOf v else 2*ls.length+2*(((aG ls).idxOf v+(aG ls).length-1)%(aG ls).length)+1:=by
 have hv:=(aT.1 hl).1;have aw:=yv hv fw;refine ait aa ?_ ?_ hl
 .unfold gE;cases fw<;>simp
 unfold gE;cases fw with
 |true=>simp only[if_true];rw[show 2*((v+ls.length-1)%ls.length)/2=(v+ls.length-1)%ls.length by omega,vH hv]
 |false=>simp only[dN,if_false];omega
def zA{v:Nat}{l:Let}(hl:ls[v]?=some l)(hc:l.aA=true)(fw:Bool):aW ls (gE ls.length v fw)=dF ls.length (fJ ls v) (fw==(l.over==(l.sign==1))):=by rw[aiu hl];unfold Let.aA at hc;rw[aD hc]
def Ip{v:Nat}{l:Let}(hl:ls[v]?=some l)(hp:l.aE=true)(fw:Bool):aW ls (gE ls.length v fw)=if dn ls v==fw then 2*ls.length+2*(aG ls).idxOf v else 2*ls.length+2*(((aG ls).idxOf v+(aG ls).length-1)%(aG ls).length)+1:=by have:=qN hp;unfold Let.aA at this;rw[aiu hl,ay (by rw[this];decide)]
def F9(k:Nat):aW ls (2*ls.length+2*k)=dF ls.length ((aG ls).getD ((k+1)%(aG ls).length) 0) (!dn ls ((aG ls).getD ((k+1)%(aG ls).length) 0)):=by show iC _ _ _=_;unfold iC;rw[aD aa,aD aa,show(2*ls.length+2*k-2*ls.length)/2=k by omega]
def F8(k:Nat):aW ls (2*ls.length+2*k+1)=dF ls.length ((aG ls).getD k 0) (dn ls ((aG ls).getD k 0)):=by show iC _ _ _=_;unfold iC;rw[aD aa,ay aa,show(2*ls.length+2*k+1-2*ls.length)/2=k by omega]
def Gw{k:Nat}(hk:k<(aG ls).length):∃l,ls[(aG ls).getD k 0]?=some l/\l.aE=true:=by obtain⟨v,hv⟩:=aM hk;rw[dA,hv,nO];exact ui.1 (aV hv)
def LV{v:Nat}{l:Let}(ok:fA F ls)(hl:ls[v]?=some l)(hp:l.aE=true):(aG ls).idxOf v<(aG ls).length/\(aG ls).getD ((aG ls).idxOf v) 0=v:=by have h1:=Pm ok.ax hl hp;rw[Gy ok.ax hl hp];exact⟨(aT.1 h1).1,by rw[dA,h1];rfl⟩
def aid(ok:fA F ls){v:Nat}(hv:v<ls.length)(fw:Bool):aW ls (rv (aW ls (gE ls.length v fw)))=dF ls.length v fw:=by
 obtain⟨l,hl⟩:=aM hv;rcases ok.kinds l (aV hl) with hp|hc
 .obtain⟨h1,h2⟩:=LV ok hl hp;rw[Ip hl hp];by_cases c:(dn ls v==fw)=true
  .rw[aD c,show 2*ls.length+2*(aG ls).idxOf v=2*(ls.length+(aG ls).idxOf v) by omega,wZ,show 2*(ls.length+(aG ls).idxOf v)+1=2*ls.length+2*(aG ls).idxOf v+1 by omega,F8,h2];rw[eq_of_beq c]
  rw[ay c];have c:dn ls v= !fw:=by revert c;cases dn ls v<;>cases fw<;>simp
  have hm:=dr ((aG ls).idxOf v+(aG ls).length-1) (show 0<(aG ls).length by omega);rw[show 2*ls.length+2*(((aG ls).idxOf v+(aG ls).length-1)%(aG ls).length)+1=2*(ls.length+((aG ls).idxOf v+(aG ls).length-1)%(aG ls).length)+1 by omega,Cl,
   show 2*(ls.length+((aG ls).idxOf v+(aG ls).length-1)%(aG ls).length)=2*ls.length+2*(((aG ls).idxOf v+(aG ls).length-1)%(aG ls).length) by omega,F9,vH h1,h2,c,Bool.not_not]
 obtain⟨h1,m,hm,mc,mi,mo,ms⟩:=sC ok.cr hl hc;rw[zA hl hc,A1,zA hm mc,h1,mo,ms];cases fw<;>cases l.over<;>cases (l.sign==1)<;>rfl
def yR(ls:ai)(x:Nat):Nat:=
 if 2*ls.length<=x then (if x%2=0 then (aG ls).getD (((x-2*ls.length)/2+1)%(aG ls).length) 0 else (aG ls).getD ((x-2*ls.length)/2) 0)
 else if x%2=0 then (x/2+1)%ls.length else x/2
def acL(ls:ai)(x:Nat):Bool:=decide (2*ls.length<=x)||(match ls[yR ls x]? with|some l=>l.aA&&l.over|none=>false)
def mh(ls:ai)(i:Nat):Int×Int:=match ls[i]? with|some l=>if l.aA then (1,l.id) else (0,i)|none=>(2,0)
def Nd{v:Nat}(hv:v<ls.length)(fw:Bool):yR ls (gE ls.length v fw)=v:=by
 have aw:=yv hv fw;unfold yR;rw[ay aa];unfold gE;cases fw with
 |true=>simp only[if_true];rw[aD aa,show 2*((v+ls.length-1)%ls.length)/2=(v+ls.length-1)%ls.length by omega,vH hv]
 |false=>simp only[dN,if_false];rw[ay aa];omega
def S2{v:Nat}{l:Let}(hl:ls[v]?=some l)(fw:Bool):acL ls (gE ls.length v fw)=(l.aA&&l.over):=by have hv:=(aT.1 hl).1;have aw:=yv hv fw;unfold acL;rw[Nd hv,hl];have:¬2*ls.length<=gE ls.length v fw:=aa;simp[this]
def adV(k:Nat):yR ls (2*ls.length+2*k)=(aG ls).getD ((k+1)%(aG ls).length) 0:=by unfold yR;rw[aD aa,aD aa,show(2*ls.length+2*k-2*ls.length)/2=k by omega]
def adU(k:Nat):yR ls (2*ls.length+2*k+1)=(aG ls).getD k 0:=by unfold yR;rw[aD aa,ay aa,show(2*ls.length+2*k+1-2*ls.length)/2=k by omega]
def S3(h:2*ls.length<=x):acL ls x=true:=by unfold acL;simp[h]
def avz(ok:fA F ls)(hx:x<nD ls):mh ls (yR ls (rv (aW ls x)))=mh ls (yR ls x)/\acL ls (rv (aW ls x))= !acL ls x:=by
 unfold nD at hx;rcases Nat.lt_or_ge x (2*ls.length) with c|c
 .have hv:(if x%2=0 then (x/2+1)%ls.length else x/2)<ls.length:=by
   have:=dr (x/2+1) (show 0<ls.length by omega);split<;>omega
  rw[Ph c];generalize (if x%2=0 then (x/2+1)%ls.length else x/2)=v at hv;generalize (x%2==0)=fw;obtain⟨l,hl⟩:=aM hv;rw[Nd hv,S2 hl];rcases ok.kinds l (aV hl) with hp|hc
  .obtain⟨h1,h2⟩:=LV ok hl hp;rw[qN hp,Ip hl hp];by_cases d:(dn ls v==fw)=true
   .rw[aD d,show 2*ls.length+2*(aG ls).idxOf v=2*(ls.length+(aG ls).idxOf v) by omega,wZ,show 2*(ls.length+(aG ls).idxOf v)+1=2*ls.length+2*(aG ls).idxOf v+1 by omega,adU,h2,S3 aa];exact⟨rfl,rfl⟩
   rw[ay d,show 2*ls.length+2*(((aG ls).idxOf v+(aG ls).length-1)%(aG ls).length)+1=2*(ls.length+((aG ls).idxOf v+(aG ls).length-1)%(aG ls).length)+1 by omega,Cl,
    show 2*(ls.length+((aG ls).idxOf v+(aG ls).length-1)%(aG ls).length)=2*ls.length+2*(((aG ls).idxOf v+(aG ls).length-1)%(aG ls).length) by omega,adV,vH h1,h2,S3 aa]
   exact⟨rfl,rfl⟩
  obtain⟨h1,m,hm,mc,mi,mo,ms⟩:=sC ok.cr hl hc;have hw:=(aT.1 hm).1;rw[zA hl hc,A1,Nd hw,S2 hm];unfold mh;simp[hl,hm,hc,mc,mi,mo]
 rw[S3 c];have key:∀k,k<(aG ls).length->∀g,mh ls (yR ls (rv (dF ls.length ((aG ls).getD k 0) g)))=mh ls ((aG ls).getD k 0)/\acL ls (rv (dF ls.length ((aG ls).getD k 0) g))= !true:=fun k hk g=>by obtain⟨l,hl,hp⟩:=Gw hk;rw[A1,Nd (aT.1 hl).1,S2 hl,qN hp];exact⟨rfl,rfl⟩
 rcases xn x with d|d
 .rw[show x=2*ls.length+2*((x-2*ls.length)/2) by omega,F9,adV];exact key _ (dr _ aa) _
 rw[show x=2*ls.length+2*((x-2*ls.length)/2)+1 by omega,F8,adU];exact key _ aa _
end
def avI{next:Nat->Nat}{N:Nat}{R:Nat->Nat->Prop}(aw:∀x,x<N->next x<N)(h:∀x,x<N->bt R x (next x)):∀(k x:Nat) (S:m_),x<N->∀y∈(fp next k x S).1,bt R x y:=by
 intro k
 induction k with
 |zero=>intro x S _ y hy;simp[fp] at hy
 |succ k ih=>
  intro x S hx y hy;unfold fp at hy;split at hy
  .simp at hy
  rcases cD.1 hy with rfl|hy
  .exact .refl _
  exact(h x hx).trans (ih (next x) _ (aw x hx) y hy)
def avP{next:Nat->Nat}{N:Nat}(m:zM next n2 N){R:Nat->Nat->Prop}(h:∀x,x<N->bt R x (next x)):∀k,k<=N->∀w∈(dX next N k).1,∀x∈w,∀y∈w,bt R x y:=by
 intro k
 induction k with
 |zero=>intro _ w hw;simp[dX] at hw
 |succ k ih=>
  intro hk w hw x hx y hy;rw[zC] at hw;unfold vR at hw;split at hw
  .exact ih aa w hw x hx y hy
  rcases eK.1 hw with hw|hw
  .exact ih aa w hw x hx y hy
  simp only[k9] at hw;subst hw;have hj:=avI (R:=R) m.lt h ((dX next N k).2.length+1) k (dX next N k).2 aa;exact(hj x hx).symm.trans (hj y hy)
def avT{next:Nat->Nat}{N:Nat}(m:zM next n2 N):∀k,k<=n2->∀w∈(dX next N k).1,∀x∈w,next x∈w:=by
 intro k
 induction k with
 |zero=>intro _ w hw;simp[dX] at hw
 |succ k ih=>
  intro hk w hw x hx;obtain⟨c0,_⟩:=SG m k aa;obtain⟨c1,_⟩:=SG m (k+1) hk;rw[zC] at hw c1;unfold vR at hw c1;cases hs:(dX next N k).2.getD k true with
  |true=>rw[hs,aD rfl] at hw;exact ih aa w hw x hx
  |false=>
   rw[hs,ay ae] at hw c1;rcases eK.1 hw with hw|hw
   .exact ih aa w hw x hx
   simp only[k9] at hw;subst hw;obtain⟨g1,g2,g3⟩:=aiC next ((dX next N k).2.length+1) k (dX next N k).2;have BN:x<N:=by have:=Sm (g1 x hx);have:=Is next N k;omega
   have e0:=c0 x BN;have e1:=c1 x BN;rw[g3,g3,g1 x hx] at e1;rw[g1 x hx] at e0;simp only[Cw,hx,decide_true,<- e0] at e1;exact qu e1.symm
def Cu{next:Nat->Nat}{N:Nat}(m:zM next n2 N){w:a_}(hw:w∈gU next N)(hx:x∈w):next x∈w:=by unfold gU at hw;rw[Zd m N m.le (bR _)] at hw;exact avT m n2 (bR _) w hw x hx
def Ze{next:Nat->Nat}{N:Nat}(m:zM next n2 N){R:Nat->Nat->Prop}(h:∀x,x<N->bt R x (next x)){w:a_}(hw:w∈gU next N){x y:Nat}(hx:x∈w)(hy:y∈w):bt R x y:=avP m h N (bR _) w hw x hx y hy
def Ee(L:List a_)(x:Nat):Nat:=L.findIdx fun w=>w.contains x
def OT{L:List a_}(h:L.flatten.Nodup){i:Nat}{w:a_}(hi:L[i]?=some w)(hx:x∈w):Ee L x=i:=by
 have hm:w.contains x=true:=by simpa using hx
 have aw:L.findIdx (fun w=>w.contains x)<L.length:=List.findIdx_lt_length_of_exists ⟨w,aV hi,hm⟩;have hp:=List.findIdx_getElem (w:=aw);have hj:L[L.findIdx fun w=>w.contains x]?=some (L[L.findIdx fun w=>w.contains x]'aw):=rL aw;exact X3 h hj hi (by simpa using hp) hx
def apd:∀ {L:List a_},L.flatten.Nodup->(∀w∈L,w≠[])->((L.map (·.headD 0)).map (Ee L))=List.range L.length:=by
 intro L h aI;apply Bb;intro i;rw[fG,fG];by_cases hi:i<L.length
 .have e:=rL hi;rw[e,u5 hi];simp only[nQ];have hw:=aI _ (aV e);rw[OT h e (x:=L[i].headD 0) (by
   cases hL:L[i] with
   |nil=>exact absurd hL hw
   |cons a r=>simp)]
 rw[qp aa,qp (by simp;omega)];rfl
def fx (b:Bool)(s:Nat):Nat:=if b then 1-s else s
def Qc{b:Bool}{s:Nat}(h:s<2):fx b s<2:=by unfold fx;split<;>omega
def adm{b:Bool}{s:Nat}(h:s<2):fx b (fx b s)=s:=by unfold fx;cases b<;>simp;omega
def uh(p:Nat->Bool)(y:Nat):Nat:=2*rv (y/2)+fx (p (y/2)) (y%2)
def sgC(p:Nat->Bool)(nx:Nat->Nat)(y:Nat):Nat:=2*nx (rv (y/2))+fx (p (y/2)) (y%2)
def tsC(p:Nat->Bool)(k:Nat):v_:=(List.range k).flatMap fun e=>[(4*e,uh p (4*e)),(4*e+1,uh p (4*e+1))]
def S7(p:Nat->Bool)(e:Nat):uh p (4*e)=if p (2*e) then 4*e+3 else 4*e+2:=by unfold uh fx;rw[show 4*e/2=2*e by omega,wZ,show 4*e%2=0 by omega];split<;>omega
def S8(p:Nat->Bool)(e:Nat):uh p (4*e+1)=if p (2*e) then 4*e+2 else 4*e+3:=by unfold uh fx;rw[show(4*e+1)/2=2*e by omega,wZ,show(4*e+1)%2=1 by omega];split<;>omega
def ajt{p:Nat->Bool}(hp:∀x,p (rv x)=p x)(e:Nat):uh p (4*e+2)=if p (2*e) then 4*e+1 else 4*e:=by unfold uh fx;rw[show(4*e+2)/2=2*e+1 by omega,Cl,show(4*e+2)%2=0 by omega,<- hp (2*e),wZ];split<;>omega
def aju{p:Nat->Bool}(hp:∀x,p (rv x)=p x)(e:Nat):uh p (4*e+3)=if p (2*e) then 4*e else 4*e+1:=by unfold uh fx;rw[show(4*e+3)/2=2*e+1 by omega,Cl,show(4*e+3)%2=1 by omega,<- hp (2*e),wZ];split<;>omega
def avw(p:Nat->Bool){k e:Nat}(h:e<k):(4*e,uh p (4*e))∈tsC p k/\(4*e+1,uh p (4*e+1))∈tsC p k:=
 ⟨Gd.2 ⟨e,gV.2 h,af⟩,Gd.2 ⟨e,gV.2 h,af⟩⟩
def afL{α β:Type}{P:α->β->Prop}{f:β->α}(hf:∀a b,P a b->f b=a):∀ {L:List α},(∀a∈L,∃b,P a b)->∃M:List β,M.map f=L/\ ∀b∈M,∃a∈L,P a b:=by
 intro L
 induction L with
 |nil=>intro _;exact⟨[],rfl,af⟩
 |cons a L ih=>
  intro h;obtain⟨b,hb⟩:=h a af;obtain⟨M,h1,h2⟩:=ih fun x hx=>h x (by simp[hx]);refine⟨b::M,by rw[eh,h1,hf a b hb],fun x hx=>?_⟩;rcases cD.1 hx with rfl|hx
  .exact⟨a,af,hb⟩
  obtain⟨c,hc,hp⟩:=h2 x hx;exact⟨c,by simp[hc],hp⟩
section
variable {F:Nat} {ls:ai}
def aj2(ok:fA F ls):(aG ls).Nodup:=by have:=Z6 ok.ax ls.length (bR _);refine List.Pairwise.imp (fun {a b} h e=>?_) this;subst e;exact absurd h (Nat.lt_irrefl _)
def afI(ok:fA F ls):ls.length=aq Let.aE ls+aq Let.aA ls:=by
 have:∀l:ai,(∀x∈l,x.aE=true\/x.aA=true)->l.length=aq Let.aE l+aq Let.aA l:=by
  intro l
  induction l with
  |nil=>intro _;rfl
  |cons a l ih=>
   intro h;have ih:=ih fun x hx=>h x (by simp[hx]);unfold aq at ih |-;rw[xg,xg,dC,ih];rcases h a af with c|c
   .rw[c,qN c];simp;omega
   have:a.aE=false:=by cases hp:a.aE;rfl;rw[qN hp] at c;cases c
   rw[c,this];simp;omega
 exact this ls ok.kinds
def avE(ok:fA F ls):∃L:a_,L.length=aq Let.aE ls+aq Let.aA ls/2/\(∀j∈L,j<ls.length)/\(L.map (mh ls)).Nodup:=by
 have hc:=ok.cr;unfold mO at hc;simp only[cU,dk] at hc;have hid:=hc.2
 let ids:u_:=(fi ls ls.length).map fun id=>(1,id)
 have an1:∀a∈ids,∃j,(mh ls j=a/\j<ls.length):=by intro a ha;obtain⟨id,hi,rfl⟩:=dh.1 ha;obtain⟨j,o,hj,hh⟩:=(HM (bR _)).1 hi;obtain⟨m,hm,mc,mi,_⟩:=BB hh;refine⟨j,?_,hj⟩;unfold mh;rw[hm];simp[mc,mi]
 obtain⟨M,m1,m2⟩:=afL (P:=fun a j=>mh ls j=a/\j<ls.length) (f:=mh ls) (fun a b h=>h.1) an1;have kQ:∀i∈aG ls,i<ls.length/\mh ls i=(0,(i:Int)):=fun i hi=>by obtain⟨l,hl,hp⟩:=ui.1 hi;refine⟨(aT.1 hl).1,?_⟩;unfold mh;rw[hl];simp[qN hp]
 refine⟨aG ls++M,?_,fun j hj=>?_,?_⟩
 .have:M.length=(fi ls ls.length).length:=by
   have:=congrArg List.length m1
   simpa [ids] using this
  rw[fS,this,hid,Gx]
 .rcases eK.1 hj with hj|hj
  .exact(kQ j hj).1
  obtain⟨_,_,h⟩:=m2 j hj;exact h.2
 rw[kZ,m1,Gf];refine⟨?_,?_,?_⟩
 .have:(aG ls).map (mh ls)=(aG ls).map fun i:Nat=>((0:Int),(i:Int)):=Bd fun i hi=>(kQ i hi).2;rw[this];refine ym.2 (List.Pairwise.imp (fun {a b} h e=>h ?_) (aj2 ok));have:=congrArg Prod.snd e;simp only at this;omega
 .refine ym.2 (List.Pairwise.imp (fun {a b} h e=>h ?_) (QN ls ls.length));exact congrArg Prod.snd e
 intro a ha b hb e;obtain⟨i,hi,rfl⟩:=dh.1 ha;obtain⟨id,_,rfl⟩:=dh.1 hb;rw[(kQ i hi).2] at e;have:=congrArg Prod.fst e;simp at this
end
section
variable {F:Nat} {ls:ai} {p:Nat->Bool}
abbrev cvR(ls:ai)(p:Nat->Bool):Nat->Nat->Prop:=yD (2*nD ls) (sgC p (aW ls)) (tsC p (ls.length+(aG ls).length))
def HY(ls:ai):nD ls=2*(ls.length+(aG ls).length):=by unfold nD;omega
def alD(hp:∀x,p (rv x)=p x){y:Nat}(hy:y<2*nD ls):bt (cvR ls p) y (uh p y):=by
 have hN:=HY ls;obtain⟨h1,h2⟩:=avw p (k:=ls.length+(aG ls).length) (e:=y/4) aa;have r1:bt (cvR ls p) (4*(y/4)) (uh p (4*(y/4))):=.rel (.inr h1);have r2:bt (cvR ls p) (4*(y/4)+1) (uh p (4*(y/4)+1)):=.rel (.inr h2);have a2:=ajt hp (y/4);have a3:=aju hp (y/4);rcases(by omega:y=4*(y/4)\/y=4*(y/4)+1\/y=4*(y/4)+2\/y=4*(y/4)+3) with e|e|e|e
 .rw[<- e] at r1;exact r1
 .rw[<- e] at r2;exact r2
 .rw[<- e] at a2;rw[a2];rw[S7] at r1;rw[S8] at r2;by_cases c:p (2*(y/4))=true
  .rw[aD c] at r2 |-;rw[<- e] at r2;exact r2.symm
  rw[ay c] at r1 |-;rw[<- e] at r1;exact r1.symm
 rw[<- e] at a3;rw[a3];rw[S7] at r1;rw[S8] at r2;by_cases c:p (2*(y/4))=true
 .rw[aD c] at r1 |-;rw[<- e] at r1;exact r1.symm
 rw[ay c] at r2 |-;rw[<- e] at r2;exact r2.symm
def aa6(hp:∀x,p (rv x)=p x){x s:Nat}(hx:x<nD ls)(hs:s<2):bt (cvR ls p) (2*x+s) (2*rv x+fx (p x) s):=by have:=alD (ls:=ls) hp (y:=2*x+s) aa;unfold uh at this;rwa[show(2*x+s)/2=x by omega,show(2*x+s)%2=s by omega] at this
def aa5(hp:∀x,p (rv x)=p x){x s:Nat}(hx:x<nD ls)(hs:s<2):bt (cvR ls p) (2*x+s) (2*aW ls x+s):=by
 have hN:=HY ls;have hf:fx (p x) s<2:=Qc hs;refine(aa6 hp hx hs).trans (.rel (.inl ⟨?_,?_⟩))
 .have:rv x<nD ls:=by rw[hN];exact A2 aa
  omega
 unfold sgC;rw[show(2*rv x+fx (p x) s)/2=rv x by omega,show(2*rv x+fx (p x) s)%2=fx (p x) s by omega,A3,hp,adm hs]
def Bu(ls:ai)(p:Nat->Bool)(x:Nat):Prop:= ∃b,∀s,s<2->bt (cvR ls p) (2*x+s) (fx b s)
def anB(ls:ai)(p:Nat->Bool):Bu ls p 0:=⟨false,fun s _=>by rw[show 2*0+s=s by omega];exact .refl _⟩
def ank(a b:Bool){s:Nat}(h:s<2):fx a (fx b s)=fx (a !=b) s:=by unfold fx;cases a<;>cases b<;>simp;omega
def adB(hp:∀x,p (rv x)=p x){x:Nat}(hx:x<nD ls)(h:Bu ls p x):Bu ls p (rv x):=by obtain⟨b,h⟩:=h;refine⟨b !=p x,fun s hs=>?_⟩;have h1:=(aa6 hp hx (s:=fx (p x) s) (Qc hs)).symm.trans (h (fx (p x) s) (Qc hs));rwa[adm hs,ank _ _ hs] at h1
def adA(hp:∀x,p (rv x)=p x){x:Nat}(hx:x<nD ls)(h:Bu ls p x):Bu ls p (aW ls x):=by obtain⟨t,h⟩:=h;exact⟨t,fun s hs=>(aa5 hp hx hs).symm.trans (h s hs)⟩
def anA(hp:∀x,p (rv x)=p x){x:Nat}(hx:x<nD ls)(h:Bu ls p (aW ls x)):Bu ls p x:=by obtain⟨t,h⟩:=h;exact⟨t,fun s hs=>(aa5 hp hx hs).trans (h s hs)⟩
def anz(hp:∀x,p (rv x)=p x)(ok:fA F ls){x:Nat}(hx:x<nD ls):Bu ls p x:=by
 have m:=maps ok;have hN:=HY ls;have Ki:∀y,y<nD ls->rv y<nD ls:=fun y hy=>by rw[hN] at hy |-;exact A2 hy
 have fwd:∀i,i<ls.length->Bu ls p (2*i):=by
  intro i
  induction i with
  |zero=>intro _;exact anB ls p
  |succ i ih=>
   intro hi;have h0:=ih aa;have h2:2*i<nD ls:=aa;have h3:=adA hp h2 h0;have h4:=m.lt _ h2;have h5:=adA hp (Ki _ h4) (adB hp h4 h3);have e:2*i=gE ls.length (i+1) true:=by unfold gE;rw[aD rfl,show i+1+ls.length-1=i+ls.length by omega,qV,gY aa]
   rw[e,aid ok hi] at h5;exact h5
 have str:∀y,y<2*ls.length->Bu ls p y:=fun y hy=>by
  rcases xn y with c|c
  .rw[show y=2*(y/2) by omega];exact fwd _ aa
  have:=adB hp (x:=2*(y/2)) aa (fwd (y/2) aa);rw[wZ] at this;rw[show y=2*(y/2)+1 by omega];exact this
 rcases Nat.lt_or_ge x (2*ls.length) with c|c
 .exact str x c
 exact anA hp hx (str _ (m.ax x hx c))
end
section
variable {F:Nat} {ls:ai}
end
def avS{next:Nat->Nat}{N:Nat}(m:zM next n2 N){α:Type}{φ:Nat->α}(hφ:∀x,x<N->φ (next x)=φ x){reps:a_}(hr:∀x∈reps,x<N)(hn:(reps.map φ).Nodup):reps.length<=(gU next N).length:=by
 have NO:=Cv next N;have jS:∀x,x<N->∃(i:Nat) (w:a_),(gU next N)[i]?=some w/\x∈w/\Ee (gU next N) x=i:=fun x hx=>by obtain⟨w,hw,FD⟩:=Ge.1 (NO.2 x hx);obtain⟨i,hi⟩:=iJ hw;exact⟨i,w,hi,FD,OT NO.1 hi FD⟩
 have an4:∀a b,bt (fun x y=>x<N/\y=next x) a b->φ a=φ b:=fun a b h=>by
  induction h with
  |rel h=>rw[h.2,hφ _ h.1]
  |refl _=>rfl
  |symm _ ih=>exact ih.symm
  |trans _ _ h1 h2=>exact h1.trans h2
 have BM:∀x,x<N->∀y,y<N->Ee (gU next N) x=Ee (gU next N) y->φ x=φ y:=fun x hx y hy e=>by obtain⟨i,w,hi,FD,e1⟩:=jS x hx;obtain⟨j,v,hj,hyv,e2⟩:=jS y hy;rw[e1,e2] at e;subst e;rw[hi] at hj;cases hj;exact an4 x y (Ze m (R:=fun x y=>x<N/\y=next x) (fun z hz=>.rel ⟨hz,rfl⟩) (aV hi) FD hyv)
 have h1:(reps.map (Ee (gU next N))).Nodup:=by unfold List.Nodup at hn |-;rw[ym] at hn |-;refine hn.imp_of_mem fun {x y} hx hy h e=>?_;exact h (BM x (hr x hx) y (hr y hy) e)
 have h2:∀i∈reps.map (Ee (gU next N)),i∈List.range (gU next N).length:=fun i hi=>by obtain⟨x,hx,rfl⟩:=dh.1 hi;obtain⟨i,w,hi,_,e⟩:=jS x (hr x hx);rw[e];exact gV.2 (aT.1 hi).1
 have:=Lg _ _ h1 h2;rwa[cM,Ek] at this
end
end Go.Abs
