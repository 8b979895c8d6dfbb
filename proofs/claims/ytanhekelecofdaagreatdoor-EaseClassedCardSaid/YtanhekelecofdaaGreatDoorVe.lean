/-
  Walks around faces.
-/
import Derived.Test.YtanhekelecofdaaGreatDoorWs
set_option linter.all false
set_option maxHeartbeats 16000000
namespace Go.Abs
section
variable{n2 x:Nat}{f:Fc}
def Vg{S:l_}(h:sn S x=false):x<S.length:=by
 rcases Nat.lt_or_ge x S.length with h1|h1
 .exact h1
 rw[sn,dK,nZ h1] at h;cases h
def aiF(next:Nat->Nat):∀(k x:Nat) (S:l_),(∀y∈(fK next k x S).1,sn S y=false)/\(fK next k x S).1.Nodup/\ ∀y,sn (fK next k x S).2 y=(sn S y||decide (y∈(fK next k x S).1)):=by
 intro k
 induction k with
 |zero=>intro x S;simp[fK]
 |succ k ih=>
  intro x S;unfold fK;cases hx:S.getD x true with
  |true=>simp
  |false=>
   have hl:=Vg (S:=S) (x:=x) hx;obtain⟨h1,h2,h3⟩:=ih (next x) (S.set x true);simp only[dR,if_false];have iF:∀y,sn (S.set x true) y=if y=x then true else sn S y:=fun y=>Po hl;refine⟨fun y hy=>?_,?_,fun y=>?_⟩
   .rcases ch.1 hy with rfl|hy
    .exact hx
    have:=h1 y hy;rw[iF] at this;split at this
    .cases this
    exact this
   .refine rj.2 ⟨fun hm=>?_,h2⟩;have:=h1 x hm;rw[iF,aG rfl] at this;cases this
   rw[h3,iF];by_cases e:y=x
   .subst e;simp
   rw[aC e];have:decide (y∈x::(fK next k (next x) (S.set x true)).1)=decide (y∈(fK next k (next x) (S.set x true)).1):=by simp[e]
   rw[this]
def avu(next:Nat->Nat)(N:Nat):∀k,(eB next N k).1.flatten.Nodup/\(∀y,y<N->sn (eB next N k).2 y=decide (y∈(eB next N k).1.flatten))/\(∀y∈(eB next N k).1.flatten,y<N)/\ ∀x,x<k->x<N->sn (eB next N k).2 x=true:=by
 intro k
 induction k with
 |zero=>refine⟨by simp[eB],fun y hy=>?_,by simp[eB],fun x hx=>absurd hx (o9 x)⟩;have:(eB next N 0).2=List.replicate N false:=rfl;rw[this,ZF hy];simp[eB]
 |succ k ih=>
  obtain⟨h1,h2,h4,h3⟩:=ih;rw[Ab];unfold vT;have hlen:=IA next N k;cases hk:(eB next N k).2.getD k true with
  |true=>
   rw[aG rfl];refine⟨h1,h2,h4,fun x hx Cd=>?_⟩;rcases og.1 hx with h|rfl
   .exact h3 x h Cd
   exact hk
  |false=>
   rw[aC ae];have hkN:k<N:=by have:=Vg (S:=(eB next N k).2) hk;omega
   obtain⟨g1,g2,g3⟩:=aiF next ((eB next N k).2.length+1) k (eB next N k).2;have XL:=aiE next ((eB next N k).2.length+1) k (eB next N k).2 (by have:=LQ (eB next N k).2;omega);refine⟨?_,fun y hy=>?_,?_,fun x hx Cd=>?_⟩
   .rw[EH,EL];refine⟨h1,by simpa using g2,fun y hy z hz=>?_⟩;rintro rfl
    have e1:=g1 y (by simpa using hz);have hyN:=h4 y hy;rw[h2 y hyN] at e1;simp[hy] at e1
   .rw[g3,h2 y hy,EH,EG];simp
   .intro y hy;rw[EH,eX] at hy;rcases hy with hy|hy
    .exact h4 y hy
    have:=Vg (g1 y (by simpa using hy));omega
   rcases og.1 hx with h|rfl
   .rw[g3,h3 x h Cd];rfl
   exact XL
def CN(next:Nat->Nat)(N:Nat):(gO next N).flatten.Nodup/\ ∀y,y<N->y∈(gO next N).flatten:=by obtain⟨h1,h2,_,h3⟩:=avu next N N;refine⟨h1,fun y hy=>?_⟩;have:=h3 y hy hy;rw[h2 y hy] at this;exact qA this
def Y0{L:List a_}(h:L.flatten.Nodup){i j:Nat}{a b:a_}(hi:L[i]?=some a)(hj:L[j]?=some b)(ha:x∈a)(hb:x∈b):i=j:=by
 induction L generalizing i j with
 |nil=>simp at hi
 |cons l L ih=>
  rw[mS,EL] at h;obtain⟨_,h2,h3⟩:=h;cases i with
  |zero=>
   simp at hi;subst hi;cases j with
   |zero=>rfl
   |succ j=>simp at hj;exact absurd rfl (h3 x ha x (Gm.2 ⟨b,aZ hj,hb⟩))
  |succ i=>
   simp at hi;cases j with
   |zero=>simp at hj;subst hj;exact absurd rfl (h3 x hb x (Gm.2 ⟨a,aZ hi,ha⟩))
   |succ j=>simp at hj;rw[ih h2 hi hj]
section
variable {F:Nat} {ls:ai}
def acG{j:Nat}(h:(ff F ls)[j]?=some f):∃w,(gO (aQ ls) (nD ls))[j]?=some w/\f=mf F ls w:=by
 unfold ff at h;rw[gk] at h;cases hw:(gO (aQ ls) (nD ls))[j]? with
 |none=>rw[hw] at h;cases h
 |some w=>rw[hw] at h;cases h;exact⟨w,rfl,rfl⟩
def abZ{i j:Nat}{a b:Fc}{d:Nat}(hi:(ff F ls)[i]?=some a)(hj:(ff F ls)[j]?=some b)(ha:d∈a.cG)(hb:d∈b.cG):i=j:=by obtain⟨v,hv,rfl⟩:=acG hi;obtain⟨w,hw,rfl⟩:=acG hj;rw[BG] at ha hb;exact Y0 (CN _ _).1 hv hw (uv.1 ha).1 (uv.1 hb).1
def ab0(h:f∈ff F ls):f.cG.Nodup:=by obtain⟨w,hw,rfl⟩:=cV.1 h;rw[BG];have:=(CN (aQ ls) (nD ls)).1;exact List.Pairwise.sublist List.filter_sublist (List.Pairwise.sublist (List.sublist_flatten_of_mem hw) this)
def alF{d:Nat}(hd:d<2*ls.length):∃(j:Nat) (f:Fc),(ff F ls)[j]?=some f/\d∈f.cG:=by
 have:=(CN (aQ ls) (nD ls)).2 d (by unfold nD;omega);obtain⟨w,hw,hdw⟩:=Gm.1 this;obtain⟨j,hj⟩:=ia hw;have nh:(ff F ls)[j]?=some (mf F ls w):=by unfold ff;rw[gk,hj];rfl
 refine⟨j,mf F ls w,nh,?_⟩;rw[BG];exact uv.2 ⟨hdw,by simpa using hd⟩
def ahC{ds:a_}{v:Nat}{d:Nat}:∀ {L:a_},d<L.length->(qu L ds v)[d]?=if d∈ds then some v else L[d]? :=by
 induction ds with
 |nil=>intro L _;simp[qu]
 |cons e ds ih=>
  intro L hd;show(qu (L.set e v) ds v)[d]?=_;rw[ih (by simpa using hd),rh];by_cases h1:d∈ds
  .simp[h1]
  by_cases h2:e=d
  .subst h2;simp[hd]
  have:d≠e:=fun h=>h2 h.symm;simp[h1,h2,this]
def apK{d:Nat}:∀ {fs:q_} {j:Nat} {L:a_},d<L.length->(∀f∈fs,d∉f.cG)->(rL fs j L)[d]?=L[d]? :=by
 intro fs
 induction fs with
 |nil=>intro j L _ _;rfl
 |cons f fs ih=>intro j L hd h;show(rL fs (j+1) (qu L f.cG j))[d]?=_;rw[ih (by rw[Pk];exact hd) fun g hg=>h g (by simp[hg]),ahC hd,aC (h f af)]
def apJ{d:Nat}:∀ {fs:q_} {j i:Nat} {L:a_} {f:Fc},d<L.length->fs[i]?=some f->d∈f.cG->(∀i' f',fs[i']?=some f'->d∈f'.cG->i'=i)->(rL fs j L)[d]?=some (j+i):=by
 intro fs
 induction fs with
 |nil=>intro j i L f _ h;simp at h
 |cons g fs ih=>
  intro j i L f hd hi hf hu;show(rL fs (j+1) (qu L g.cG j))[d]?=_;cases i with
  |zero=>
   simp at hi;subst hi;rw[apK (by rw[Pk];exact hd),ahC hd,aG hf]
   .rfl
   intro f' hf' yg;obtain⟨i',vz⟩:=ia hf';have:=hu (i'+1) f' (by simpa using vz) yg;omega
  |succ i=>simp at hi;rw[ih (by rw[Pk];exact hd) hi hf fun i' f' h1 h2=>by have:=hu (i'+1) f' (by simpa using h1) h2;omega];congr 1;omega
def left_at{d j:Nat}(hd:d<2*ls.length)(hf:(ff F ls)[j]?=some f)(hm:d∈f.cG):(qj F ls)[d]?=some j:=by unfold qj;rw[apJ (by simpa using hd) hf hm fun i' f' h1 h2=>abZ h1 hf h2 hm];congr 1;omega
def W8{d:Nat}(hd:d<2*ls.length):∃j,(ff F ls)[j]?=some (lJ F ls d)/\d∈(lJ F ls d).cG/\(qj F ls)[d]?=some j:=by
 obtain⟨j,f,hf,hm⟩:=alF (F:=F) hd;have hl:=left_at hd hf hm;have e:lJ F ls d=f:=by unfold lJ;rw[dK (l:=qj F ls),hl,ow,dK,hf,ow]
 exact⟨j,e▸hf,e▸hm,hl⟩
def acE{d:Nat}(hd:d<2*ls.length)(hf:f∈ff F ls)(hm:d∈f.cG):lJ F ls d=f:=by obtain⟨j,h1,h2,_⟩:=W8 (F:=F) hd;obtain⟨i,hi⟩:=ia hf;have:=abZ hi h1 hm h2;subst this;rw[h1] at hi;cases hi;rfl
def Tv{d:Nat}(hd:d<2*ls.length):lJ F ls d∈ff F ls:=by obtain⟨j,h1,_⟩:=W8 (F:=F) hd;exact aZ h1
def Ik(pl:Nat)(edges:a_)(f:Fc):Bool:=(f.cG.length==edges.length)&&((f.places.length==pl)&&edges.all fun e=> !(decide (2*e∈f.cG)==decide (2*e+1∈f.cG)))
def vM(F:Nat)(ls:ai)(pl:Nat)(edges:a_):Bool:=(ff F ls).any (Ik pl edges)
def alH(h:f.cG.Nodup)(e:Nat):vk f e=(if 2*e∈f.cG then 1 else 0)+(if 2*e+1∈f.cG then 1 else 0):=by
 unfold vk;generalize f.cG=D at h
 induction D with
 |nil=>simp
 |cons d D ih=>
  obtain⟨h1,h2⟩:=rj.1 h;rw[vY,ih h2];by_cases e1:d=2*e
  .subst e1;have:(2*e/2==e)=true:=af;have e3:¬(2*e+1=2*e):=aa;simp[h1];omega
  by_cases e2:d=2*e+1
  .subst e2;have:((2*e+1)/2==e)=true:=by simp;omega
   have e3:¬(2*e=2*e+1):=aa;simp[this,h1]
  have:(d/2==e)=false:=by simp;omega
  have e3:¬(2*e=d):=fun h=>e1 h.symm;have e4:¬(2*e+1=d):=fun h=>e2 h.symm;simp[this,e3,e4]
def abM(h:f.cG.Nodup)(pl:Nat)(edges:a_):wx f pl edges=Ik pl edges f:=by unfold wx Ik;congr 2;refine List.all_congr rfl fun e=>?_;rw[alH h];by_cases h1:2*e∈f.cG<;>by_cases h2:2*e+1∈f.cG<;>simp[h1,h2]
def BC{pl:Nat}{edges:a_}{e0:Nat}(h0:edges[0]?=some e0)(he0:e0<ls.length):kQ F ls pl edges e0=vM F ls pl edges:=by
 unfold kQ vM;have m1:=Tv (F:=F) (ls:=ls) (d:=2*e0) aa;have m2:=Tv (F:=F) (ls:=ls) (d:=2*e0+1) aa;rw[abM (ab0 m1),abM (ab0 m2),EG,vU,u5];constructor
 .rintro (h|h)
  .exact⟨_,m1,h⟩
  exact⟨_,m2,h⟩
 rintro ⟨f,hf,h⟩
 have hm:=h;unfold Ik at hm;simp only[cJ,gj] at hm;have:=hm.2.2 e0 (aZ h0);by_cases h1:2*e0∈f.cG
 .left;rw[acE aa hf h1];exact h
 by_cases h2:2*e0+1∈f.cG
 .right;rw[acE aa hf h2];exact h
 simp[h1,h2] at this
end
inductive bQ (R:Nat->Nat->Prop):Nat->Nat->Prop
 |rel {a b:Nat}:R a b->bQ R a b
 |refl (a:Nat):bQ R a a
 |symm {a b:Nat}:bQ R a b->bQ R b a
 |trans {a b c:Nat}:bQ R a b->bQ R b c->bQ R a c
def bQ.mono{R R':Nat->Nat->Prop}(h:∀a b,R a b->bQ R' a b){y:Nat}(e:bQ R x y):bQ R' x y:=by
 induction e with
 |rel r=>exact h _ _ r
 |refl a=>exact .refl a
 |symm _ ih=>exact .symm ih
 |trans _ _ i1 i2=>exact .trans i1 i2
def bQ.inv{R:Nat->Nat->Prop}{α:Type}{f:Nat->α}(h:∀a b,R a b->f a=f b){y:Nat}(e:bQ R x y):f x=f y:=by
 induction e with
 |rel r=>exact h _ _ r
 |refl a=>rfl
 |symm _ ih=>exact ih.symm
 |trans _ _ i1 i2=>exact i1.trans i2
def ld (E:Nat->Nat->Prop)(x:Nat):Prop:=∀y,E x y->x<=y
noncomputable def Cj (E:Nat->Nat->Prop) (x:Nat):Bool:= @decide (ld E x) (Classical.propDecidable _)
def KT{E:Nat->Nat->Prop}:Cj E x=true↔ld E x:=by unfold Cj;exact @decide_eq_true_iff _ (Classical.propDecidable _)
noncomputable def K (E:Nat->Nat->Prop) (n:Nat):Nat:=(List.range n).countP (Cj E)
def IS{E E':Nat->Nat->Prop}(h:∀x y,E x y↔E' x y)(n:Nat):K E n=K E' n:=by have:E=E':=funext fun x=>funext fun y=>propext (h x y);rw[this]
def acA{p:Nat->Prop}:∀n,p n->∃m,p m/\ ∀k,p k->m<=k:=by
 intro n
 induction n using Nat.strongRecOn with
 |ind n ih=>
  intro h;rcases Classical.em (∃k,k<n/\p k) with ⟨k,hk,hp⟩|eh
  .exact ih k hk hp
  exact⟨n,h,fun k hk=>Nat.le_of_not_lt fun aB=>eh ⟨k,aB,hk⟩⟩
def YF(R:Nat->Nat->Prop)(x:Nat):∃m,bQ R x m/\ld (bQ R) m/\m<=x:=by obtain⟨m,h1,h2⟩:=acA (p:=fun y=>bQ R x y) x (.refl x);exact⟨m,h1,fun y hy=>h2 y (h1.trans hy),h2 x (.refl x)⟩
def aln{p:Nat->Bool}(hp:p x=true):∀ {l:a_},l.Nodup->x∈l->l.countP p=l.countP (fun y=>p y&&y !=x)+1:=by
 intro l
 induction l with
 |nil=>intro _ h;cases h
 |cons a l ih=>
  intro hn hm;obtain⟨h1,h2⟩:=rj.1 hn;rw[vY,vY];by_cases e:a=x
  .subst e;have hc:l.countP p=l.countP (fun y=>p y&&y !=a):=IH fun y hy=>by
    have:(y !=a)=true:=by simp;rintro rfl;exact h1 hy
    simp[this]
   simp[hp,hc]
  have hx:x∈l:=by rcases ch.1 hm with h|h;exact absurd h.symm e;exact h
  rw[ih h2 hx];have:(a !=x)=true:=by simp[e]
  simp only[this,Bs];omega
abbrev rS(R:Nat->Nat->Prop)(a b:Nat)(x y:Nat):Prop:=R x y\/(x=a/\y=b)
def GZ{R:Nat->Nat->Prop}{a b y:Nat}:bQ (rS R a b) x y↔bQ R x y\/(bQ R x a/\bQ R b y)\/(bQ R x b/\bQ R a y):=by
 constructor
 .intro h
  induction h with
  |rel r=>
   rcases r with r|⟨rfl,rfl⟩
   .exact .inl (.rel r)
   exact .inr (.inl ⟨.refl _,.refl _⟩)
  |refl a=>exact .inl (.refl a)
  |symm _ ih=>
   rcases ih with h|⟨h1,h2⟩|⟨h1,h2⟩
   .exact .inl h.symm
   .exact .inr (.inr ⟨h2.symm,h1.symm⟩)
   exact .inr (.inl ⟨h2.symm,h1.symm⟩)
  |trans _ _ i1 i2=>
   rcases i1 with h|⟨h1,h2⟩|⟨h1,h2⟩<;>rcases i2 with k|⟨k1,k2⟩|⟨k1,k2⟩
   .exact .inl (h.trans k)
   .exact .inr (.inl ⟨h.trans k1,k2⟩)
   .exact .inr (.inr ⟨h.trans k1,k2⟩)
   .exact .inr (.inl ⟨h1,h2.trans k⟩)
   .exact .inr (.inl ⟨h1,k2⟩)
   .exact .inl (h1.trans k2)
   .exact .inr (.inr ⟨h1,h2.trans k⟩)
   .exact .inl (h1.trans k2)
   exact .inr (.inr ⟨h1,k2⟩)
 have up:∀ {u v},bQ R u v->bQ (rS R a b) u v:=fun h=>h.mono fun _ _ r=>.rel (.inl r);have ab:bQ (rS R a b) a b:=.rel (.inr ⟨rfl,rfl⟩);rintro (h|⟨h1,h2⟩|⟨h1,h2⟩)
 .exact up h
 .exact(up h1).trans (ab.trans (up h2))
 exact(up h1).trans (ab.symm.trans (up h2))
def VO{R:Nat->Nat->Prop}{a b:Nat}(h:bQ R a b)(n:Nat):K (bQ (rS R a b)) n=K (bQ R) n:=by
 refine IS (fun x y=>?_) n;rw[GZ];constructor
 .rintro (k|⟨h1,h2⟩|⟨h1,h2⟩)
  .exact k
  .exact h1.trans (h.trans h2)
  exact h1.trans (h.symm.trans h2)
 exact .inl
def aah{E E':Nat->Nat->Prop}{n m:Nat}(hm:m<n)(h0:ld E m)(h:∀x,ld E' x↔ld E x/\x≠m):K E n=K E' n+1:=by unfold K;rw[aln (p:=Cj E) (x:=m) (KT.2 h0) Gn (iv.2 hm)];congr 1;refine IH fun x _=>?_;rw[KT,h,cJ,KT];simp
def VN{R:Nat->Nat->Prop}{a b n:Nat}(ha:a<n)(hb:b<n)(h:¬bQ R a b):K (bQ R) n=K (bQ (rS R a b)) n+1:=by
 obtain⟨p,p1,p2,p3⟩:=YF R a;obtain⟨q,q1,q2,q3⟩:=YF R b;have wR:p≠q:=fun e=>h (p1.trans (e▸q1.symm));rcases Nat.lt_or_gt_of_ne wR with c|c
 .refine aah (m:=q) aa q2 fun x=>⟨fun hx=>⟨fun y hy=>hx y (GZ.2 (.inl hy)),?_⟩,fun⟨hx,hxq⟩ y hy=>?_⟩
  .rintro rfl
   have:=hx p (GZ.2 (.inr (.inr ⟨q1.symm,p1⟩)));omega
  rcases GZ.1 hy with hy|⟨h1,h2⟩|⟨h1,h2⟩
  .exact hx y hy
  .have e1:=hx p (h1.trans p1);have e2:=q2 y (q1.symm.trans h2);omega
  have e1:=hx q (h1.trans q1);have e2:=q2 x (q1.symm.trans h1.symm);omega
 refine aah (m:=p) aa p2 fun x=>⟨fun hx=>⟨fun y hy=>hx y (GZ.2 (.inl hy)),?_⟩,fun⟨hx,hxq⟩ y hy=>?_⟩
 .rintro rfl
  have:=hx q (GZ.2 (.inr (.inl ⟨p1.symm,q1⟩)));omega
 rcases GZ.1 hy with hy|⟨h1,h2⟩|⟨h1,h2⟩
 .exact hx y hy
 .have e1:=hx p (h1.trans p1);have e2:=p2 x (p1.symm.trans h1.symm);omega
 have e1:=hx q (h1.trans q1);have e2:=p2 y (p1.symm.trans h2);omega
def aai{R:Nat->Nat->Prop}{α:Type}{f:Nat->α}(h:∀a b,R a b->f a=f b){n:Nat}{reps:a_}(hr:∀x∈reps,x<n)(hn:(reps.map f).Nodup):reps.length<=K (bQ R) n:=by
 have key:∀reps:a_,(∀x∈reps,x<n)->(reps.map f).Nodup->∃L:a_,L.length=reps.length/\L.Nodup/\(∀m∈L,m<n/\ld (bQ R) m)/\ ∀m∈L,f m∈reps.map f:=by
  intro reps
  induction reps with
  |nil=>intro _ _;exact⟨[],rfl,xE,af,af⟩
  |cons a r ih=>
   intro hr hn;rw[eD,rj] at hn;obtain⟨L,l1,l2,l3,l4⟩:=ih (fun x hx=>hr x (by simp[hx])) hn.2;obtain⟨m,m1,m2,m3⟩:=YF R a;have hfm:f m=f a:=(m1.inv h).symm;have ha:=hr a af;refine⟨m::L,by simp[l1],rj.2 ⟨fun hm=>hn.1 (hfm▸l4 m hm),l2⟩,fun x hx=>?_,fun x hx=>?_⟩
   .rcases ch.1 hx with rfl|hx
    .exact⟨aa,m2⟩
    exact l3 x hx
   rcases ch.1 hx with rfl|hx
   .rw[hfm];simp
   rw[eD];exact u6 _ (l4 x hx)
 obtain⟨L,l1,l2,l3,_⟩:=key reps hr hn;rw[<- l1];unfold K;rw[List.countP_eq_length_filter];have sub:∀(L M:a_),L.Nodup->(∀x∈L,x∈M)->L.length<=M.length:=by
  intro L
  induction L with
  |nil=>intro M _ _;exact cA _
  |cons a L ih=>intro M hn hs;obtain⟨h1,h2⟩:=rj.1 hn;have ha:=hs a af;have:=ih (M.erase a) h2 fun x hx=>(List.mem_erase_of_ne (by rintro rfl;exact h1 hx)).2 (hs x (by simp[hx]));rw[VJ ha] at this;have:0<M.length:=L7 ha;simp only[dL];omega
 exact sub L _ l2 fun x hx=>uv.2 ⟨iv.2 (l3 x hx).1,KT.2 (l3 x hx).2⟩
def aiV{R:Nat->Nat->Prop}{n:Nat}(h:∀x,x<n->bQ R x 0):K (bQ R) n<=1:=by
 unfold K;have hz:∀x∈List.range n,Cj (bQ R) x=true->x=0:=fun x hx hl=>by have:=KT.1 hl 0 (h x (iv.1 hx));omega
 have:∀l:a_,l.Nodup->(∀x∈l,Cj (bQ R) x=true->x=0)->l.countP (Cj (bQ R))<=1:=by
  intro l
  induction l with
  |nil=>intro _ _;simp
  |cons a l ih=>
   intro hn hl;obtain⟨h1,h2⟩:=rj.1 hn;rw[vY];by_cases c:Cj (bQ R) a=true
   .have ha:=hl a af c;subst ha;have:l.countP (Cj (bQ R))=0:=L2.2 fun x hx wX=>h1 (by have:=hl x (by simp[hx]) wX;subst this;exact hx);simp[c,this]
   have:=ih h2 fun x hx=>hl x (by simp[hx]);simp[c,this]
 exact this _ Gn hz
structure Perm (n:Nat) (p:Nat->Nat):Prop where
 lt:∀x,x<n->p x<n
 inj:∀x y,x<n->y<n->p x=p y->x=y
abbrev gr(n:Nat)(p:Nat->Nat)(x y:Nat):Prop:=x<n/\y=p x
def tr (p:Nat->Nat)(t:Nat×Nat)(x:Nat):Nat:=if x=t.1 then p t.2 else if x=t.2 then p t.1 else p x
def Vw(p:Nat->Nat)(a b x:Nat):tr p (a,b) x=p (if x=a then b else if x=b then a else x):=by
 unfold tr;simp only;split
 .rfl
 split<;>rfl
def Perm.tr{n:Nat}{p:Nat->Nat}(h:Perm n p){a b:Nat}(ha:a<n)(hb:b<n):Perm n (tr p (a,b)):=by
 have hs:∀x,x<n->(if x=a then b else if x=b then a else x)<n:=fun x hx=>by split<;>(try split)<;>assumption
 refine⟨fun x hx=>by rw[Vw];exact h.lt _ (hs x hx),fun x y hx hy e=>?_⟩;rw[Vw,Vw] at e;have e:=h.inj _ _ (hs x hx) (hs y hy) e;by_cases x1:x=a
 .rw[aG x1] at e;by_cases y1:y=a
  .omega
  rw[aC y1] at e;split at e<;>omega
 rw[aC x1] at e;by_cases y1:y=a
 .rw[aG y1] at e;split at e<;>omega
 rw[aC y1] at e;split at e<;>split at e<;>omega
def it (p:Nat->Nat):Nat->Nat->Nat
 |0,x=>x
 |k+1,x=>p (it p k x)
def Perm.HS{n:Nat}{p:Nat->Nat}(h:Perm n p)(hx:x<n):∀k,it p k x<n:=by
 intro k
 induction k with
 |zero=>exact hx
 |succ k ih=>exact h.lt _ ih
def Perm.back{n:Nat}{p:Nat->Nat}(h:Perm n p)(hx:x<n):∀i j,it p (i+j) x=it p i x->it p j x=x:=by
 intro i
 induction i with
 |zero=>intro j e;rw[jr] at e;exact e
 |succ i ih=>intro j e;rw[show i+1+j=(i+j)+1 by omega] at e;exact ih j (h.inj _ _ (h.HS hx _) (h.HS hx _) e)
def LD:∀(L M:a_),L.Nodup->(∀x∈L,x∈M)->L.length<=M.length:=by
 intro L
 induction L with
 |nil=>intro M _ _;exact cA _
 |cons a L ih=>intro M hn hs;obtain⟨h1,h2⟩:=rj.1 hn;have ha:=hs a af;have:=ih (M.erase a) h2 fun x hx=>(List.mem_erase_of_ne (by rintro rfl;exact h1 hx)).2 (hs x (by simp[hx]));rw[VJ ha] at this;have:0<M.length:=L7 ha;simp only[dL];omega
def Perm.abU{n:Nat}{p:Nat->Nat}(h:Perm n p)(hx:x<n):∃m,it p (m+1) x=x:=by
 apply Classical.byContradiction;intro eh;have key:∀k,((List.range k).map fun i=>it p i x).Nodup:=by
  intro k
  induction k with
  |zero=>simp
  |succ k ih=>rw[yO,ki,EL];refine⟨ih,af,fun a ha b hb=>?_⟩;obtain⟨i,hi,rfl⟩:=cV.1 ha;have hi:=iv.1 hi;simp only[eD,kL,lQ] at hb;subst hb;intro e;have:=h.back hx i (k-i) (by rw[show i+(k-i)=k by omega];exact e.symm);exact eh ⟨k-i-1,by rw[show k-i-1+1=k-i by omega];exact this⟩
 have:=LD _ (List.range n) (key (n+1)) fun y hy=>by obtain⟨i,_,rfl⟩:=cV.1 hy;exact iv.2 (h.HS hx i)
 rw[cU,EJ,EJ] at this;omega
def aez(p:Nat->Nat)(x:Nat):∀k,it p (k+1) x=it p k (p x):=by
 intro k
 induction k with
 |zero=>rfl
 |succ k ih=>show p (it p (k+1) x)=p (it p k (p x));rw[ih]
def air{n:Nat}{p:Nat->Nat}(h:Perm n p){a b:Nat}(ha:a<n)(hb:b<n)(dU:¬bQ (gr n p) a b):bQ (gr n (tr p (a,b))) a b:=by
 obtain⟨m,hm⟩:=h.abU hb;have e0:tr p (a,b) a=p b:=by unfold tr;rw[aG rfl]
 have cK:∀k,bQ (gr n p) b (it p k b):=by
  intro k
  induction k with
  |zero=>exact .refl _
  |succ k ih=>exact ih.trans (.rel ⟨h.HS hb k,rfl⟩)
 have key:∀k,bQ (gr n (tr p (a,b))) a b\/bQ (gr n (tr p (a,b))) a (it p k (p b)):=by
  intro k
  induction k with
  |zero=>exact .inr (.rel ⟨ha,e0.symm⟩)
  |succ k ih=>
   rcases ih with ih|ih
   .exact .inl ih
   by_cases c:it p k (p b)=b
   .rw[c] at ih;exact .inl ih
   refine .inr (ih.trans (.rel ⟨h.HS (h.lt _ hb) k,?_⟩));have na:it p k (p b)≠a:=fun e=>dU (by have:=cK (k+1);rw[aez,e] at this;exact this.symm)
   unfold tr;rw[aC na,aC c];rfl
 rcases key m with k|k
 .exact k
 rw[<- aez,hm] at k;exact k
def V1{n:Nat}{p:Nat->Nat}{a b:Nat}(ha:a<n)(hb:b<n){S:Nat->Nat->Prop}{x y:Nat}:bQ (rS (fun x y=>gr n (tr p (a,b)) x y\/S x y) a b) x y↔bQ (rS (fun x y=>gr n p x y\/S x y) a b) x y:=by
 have ab:∀R:Nat->Nat->Prop,bQ (rS R a b) a b:=fun R=>.rel (.inr ⟨rfl,rfl⟩);constructor
 .refine bQ.mono fun u v r=>?_;rcases r with (⟨hu,rfl⟩|s)|⟨rfl,rfl⟩
  .unfold tr;simp only;by_cases c:u=a
   .subst c;rw[aG rfl];exact(ab _).trans (.rel (.inl (.inl ⟨hb,rfl⟩)))
   rw[aC c];by_cases d:u=b
   .subst d;rw[aG rfl];exact(ab _).symm.trans (.rel (.inl (.inl ⟨ha,rfl⟩)))
   rw[aC d];exact .rel (.inl (.inl ⟨hu,rfl⟩))
  .exact .rel (.inl (.inr s))
  exact ab _
 refine bQ.mono fun u v r=>?_;rcases r with (⟨hu,rfl⟩|s)|⟨rfl,rfl⟩
 .by_cases c:u=a
  .subst c;refine(ab _).trans (.rel (.inl (.inl ⟨hb,?_⟩)));unfold tr;simp only;by_cases d:b=u
   .rw[aG d,d]
   rw[aC d];simp
  by_cases d:u=b
  .subst d;refine(ab _).symm.trans (.rel (.inl (.inl ⟨ha,?_⟩)));unfold tr;rw[aG rfl]
  refine .rel (.inl (.inl ⟨hu,?_⟩));unfold tr;rw[aC c,aC d]
 .exact .rel (.inl (.inr s))
 exact ab _
abbrev inT(ts:v_)(x y:Nat):Prop:=(x,y)∈ts
abbrev y9(n:Nat)(p:Nat->Nat)(ts:v_)(x y:Nat):Prop:=gr n p x y\/inT ts x y
def amf{n:Nat}:∀(ts:v_) (p:Nat->Nat),Perm n p->(∀t∈ts,t.1<n/\t.2<n)->
  K (bQ (gr n (ts.foldl tr p))) n+K (bQ (gr n p)) n<=2*K (bQ (y9 n p ts)) n+ts.length:=by
 intro ts
 induction ts with
 |nil=>
  intro p _ _;have:K (bQ (y9 n p [])) n=K (bQ (gr n p)) n:=IS (fun x y=>⟨bQ.mono (R:=y9 n p []) (R':=gr n p) (fun u v r=>by
   rcases r with r|r
   .exact .rel r
   cases r),bQ.mono (R:=gr n p) (R':=y9 n p []) (fun u v r=>.rel (.inl r))⟩) n
  rw[this];simp only[List.foldl_nil,fv];omega
 |cons t ts ih=>
  intro p hp ht;obtain⟨a,b⟩:=t;obtain⟨ha,hb⟩:=ht (a,b) af
  replace ha:a<n:=ha
  replace hb:b<n:=hb
  have ih:=ih (tr p (a,b)) (hp.tr ha hb) fun t h=>ht t (by simp[h]);have all:∀x y,bQ (y9 n p ((a,b)::ts)) x y↔bQ (rS (y9 n (tr p (a,b)) ts) a b) x y:=fun x y=>by
   refine Iff.trans ⟨bQ.mono fun u v r=>?_,bQ.mono fun u v r=>?_⟩ (V1 (S:=inT ts) ha hb).symm
   .rcases r with r|r
    .exact .rel (.inl (.inl r))
    rcases ch.1 r with r|r
    .cases r;exact .rel (.inr ⟨rfl,rfl⟩)
    exact .rel (.inl (.inr r))
   rcases r with (r|r)|⟨rfl,rfl⟩
   .exact .rel (.inl r)
   .exact .rel (.inr (u6 _ r))
   exact .rel (.inr (PI ..))
  have one:∀x y,bQ (rS (gr n (tr p (a,b))) a b) x y↔bQ (rS (gr n p) a b) x y:=fun x y=>by have h:=V1 (p:=p) (S:=fun _ _=>False) ha hb (x:=x) (y:=y);have e:∀q:Nat->Nat,(fun x y=>gr n q x y\/False)=gr n q:=fun q=>funext fun x=>funext fun y=>propext af;rw[e,e] at h;exact h
  rw[IS all];simp only[Bt,dL];have kj:K (bQ (rS (gr n (tr p (a,b))) a b)) n=K (bQ (rS (gr n p) a b)) n:=IS one n;have sm:∀R:Nat->Nat->Prop,bQ R a b->K (bQ (rS R a b)) n=K (bQ R) n:=fun R h=>VO h n;have jn:∀R:Nat->Nat->Prop,¬bQ R a b->K (bQ R) n=K (bQ (rS R a b)) n+1:=fun R h=>VN ha hb h;rcases Classical.em (bQ (gr n p) a b) with c|c
  .have k1:=sm _ c;rcases Classical.em (bQ (gr n (tr p (a,b))) a b) with d|d
   .have k2:=sm _ d;have k3:=sm _ (d.mono (R':=y9 n (tr p (a,b)) ts) fun u v r=>.rel (.inl r));omega
   have k2:=jn _ d;rcases Classical.em (bQ (y9 n (tr p (a,b)) ts) a b) with d2|d2
   .have k3:=sm _ d2;omega
   have k3:=jn _ d2;omega
  have k1:=jn _ c;have d:=air hp ha hb c;have k2:=sm _ d;have k3:=sm _ (d.mono (R':=y9 n (tr p (a,b)) ts) fun u v r=>.rel (.inl r));omega
def rv (x:Nat):Nat:=if x%2=0 then x+1 else x-1
def xt(k:Nat):rv (2*k)=2*k+1:=by unfold rv;rw[aG aa]
def CG(k:Nat):rv (2*k+1)=2*k:=by unfold rv;rw[aC aa];rfl
def zX(x:Nat):rv (rv x)=x:=by
 rcases u9 x with h|h
 .rw[show x=2*(x/2) by omega,xt,CG]
 rw[show x=2*(x/2)+1 by omega,CG,xt]
def zW{m:Nat}(h:x<2*m):rv x<2*m:=by unfold rv;split<;>omega
def zV(n v:Nat)(g:Bool):rv (dB n v g)=fZ n v (!g):=by
 cases g with
 |true=>exact xt _
 |false=>exact CG _
def as4(n v:Nat)(g:Bool):rv (fZ n v g)=dB n v (!g):=by
 cases g with
 |true=>exact xt _
 |false=>exact CG _
def xM{n v:Nat}(hv:v<n)(g:Bool):fZ n v g<2*n:=by have:=dk (v+n-1) (show 0<n by omega);unfold fZ;split<;>omega
def P9{n:Nat}(hx:x<2*n):x=fZ n (if x%2=0 then (x/2+1)%n else x/2) (x%2==0):=by
 unfold fZ;rcases u9 x with h|h
 .simp only[h,Ak,if_true];rw[vI aa];omega
 simp only[h,show((1:Nat)==0)=false from rfl,dR,if_false,Ma];omega
section
variable {F:Nat} {ls:ai}
def aix{v:Nat}{l:Let}(hl:ls[v]?=some l)(fw:Bool):aQ ls (fZ ls.length v fw)=if l.kind==2 then dB ls.length (fQ ls v) (fw==(l.over==(l.sign==1)))
   else if dn ls v==fw then 2*ls.length+2*(aI ls).idxOf v else 2*ls.length+2*(((aI ls).idxOf v+(aI ls).length-1)%(aI ls).length)+1:=by
 have hv:=(aW.1 hl).1;have aB:=xM hv fw;refine aiw aa ?_ ?_ hl
 .unfold fZ;cases fw<;>simp
 unfold fZ;cases fw with
 |true=>simp only[if_true];rw[show 2*((v+ls.length-1)%ls.length)/2=(v+ls.length-1)%ls.length by omega,vH hv]
 |false=>simp only[dR,if_false];omega
def yK{v:Nat}{l:Let}(hl:ls[v]?=some l)(hc:l.aD=true)(fw:Bool):aQ ls (fZ ls.length v fw)=dB ls.length (fQ ls v) (fw==(l.over==(l.sign==1))):=by rw[aix hl];unfold Let.aD at hc;rw[aG hc]
def Gf{v:Nat}{l:Let}(hl:ls[v]?=some l)(hp:l.aF=true)(fw:Bool):aQ ls (fZ ls.length v fw)=if dn ls v==fw then 2*ls.length+2*(aI ls).idxOf v else 2*ls.length+2*(((aI ls).idxOf v+(aI ls).length-1)%(aI ls).length)+1:=by have:=qV hp;unfold Let.aD at this;rw[aix hl,aC (by rw[this];decide)]
def EA(k:Nat):aQ ls (2*ls.length+2*k)=dB ls.length ((aI ls).getD ((k+1)%(aI ls).length) 0) (!dn ls ((aI ls).getD ((k+1)%(aI ls).length) 0)):=by show iA _ _ _=_;unfold iA;rw[aG aa,aG aa,show(2*ls.length+2*k-2*ls.length)/2=k by omega]
def Ez(k:Nat):aQ ls (2*ls.length+2*k+1)=dB ls.length ((aI ls).getD k 0) (dn ls ((aI ls).getD k 0)):=by show iA _ _ _=_;unfold iA;rw[aG aa,aC aa,show(2*ls.length+2*k+1-2*ls.length)/2=k by omega]
def GF{k:Nat}(hk:k<(aI ls).length):∃l,ls[(aI ls).getD k 0]?=some l/\l.aF=true:=by obtain⟨v,hv⟩:=aN hk;rw[dK,hv,ow];exact uz.1 (aZ hv)
def Mj{v:Nat}{l:Let}(ok:fN F ls)(hl:ls[v]?=some l)(hp:l.aF=true):(aI ls).idxOf v<(aI ls).length/\(aI ls).getD ((aI ls).idxOf v) 0=v:=by have h1:=Je ok.ax hl hp;rw[EX ok.ax hl hp];exact⟨(aW.1 h1).1,by rw[dK,h1];rfl⟩
def aib(ok:fN F ls){v:Nat}(hv:v<ls.length)(fw:Bool):aQ ls (rv (aQ ls (fZ ls.length v fw)))=dB ls.length v fw:=by
 obtain⟨l,hl⟩:=aN hv;rcases ok.kinds l (aZ hl) with hp|hc
 .obtain⟨h1,h2⟩:=Mj ok hl hp;rw[Gf hl hp];by_cases c:(dn ls v==fw)=true
  .rw[aG c,show 2*ls.length+2*(aI ls).idxOf v=2*(ls.length+(aI ls).idxOf v) by omega,xt,show 2*(ls.length+(aI ls).idxOf v)+1=2*ls.length+2*(aI ls).idxOf v+1 by omega,Ez,h2];rw[eq_of_beq c]
  rw[aC c];have c:dn ls v= !fw:=by revert c;cases dn ls v<;>cases fw<;>simp
  have hm:=dk ((aI ls).idxOf v+(aI ls).length-1) (show 0<(aI ls).length by omega);rw[show 2*ls.length+2*(((aI ls).idxOf v+(aI ls).length-1)%(aI ls).length)+1=2*(ls.length+((aI ls).idxOf v+(aI ls).length-1)%(aI ls).length)+1 by omega,CG,
   show 2*(ls.length+((aI ls).idxOf v+(aI ls).length-1)%(aI ls).length)=2*ls.length+2*(((aI ls).idxOf v+(aI ls).length-1)%(aI ls).length) by omega,EA,vH h1,h2,c,Bool.not_not]
 obtain⟨h1,m,hm,mc,mi,mo,ms⟩:=sD ok.cr hl hc;rw[yK hl hc,zV,yK hm mc,h1,mo,ms];cases fw<;>cases l.over<;>cases (l.sign==1)<;>rfl
def zt(ls:ai)(x:Nat):Nat:=
 if 2*ls.length<=x then (if x%2=0 then (aI ls).getD (((x-2*ls.length)/2+1)%(aI ls).length) 0 else (aI ls).getD ((x-2*ls.length)/2) 0)
 else if x%2=0 then (x/2+1)%ls.length else x/2
def Gx(ls:ai)(x:Nat):Bool:=decide (2*ls.length<=x)||(match ls[zt ls x]? with|some l=>l.aD&&l.over|none=>false)
def l6(ls:ai)(i:Nat):Int×Int:=match ls[i]? with|some l=>if l.aD then (1,l.id) else (0,i)|none=>(2,0)
def N4{v:Nat}(hv:v<ls.length)(fw:Bool):zt ls (fZ ls.length v fw)=v:=by
 have aB:=xM hv fw;unfold zt;rw[aC aa];unfold fZ;cases fw with
 |true=>simp only[if_true];rw[aG aa,show 2*((v+ls.length-1)%ls.length)/2=(v+ls.length-1)%ls.length by omega,vH hv]
 |false=>simp only[dR,if_false];rw[aC aa];omega
def VX{v:Nat}{l:Let}(hl:ls[v]?=some l)(fw:Bool):Gx ls (fZ ls.length v fw)=(l.aD&&l.over):=by have hv:=(aW.1 hl).1;have aB:=xM hv fw;unfold Gx;rw[N4 hv,hl];have:¬2*ls.length<=fZ ls.length v fw:=aa;simp[this]
def adO(k:Nat):zt ls (2*ls.length+2*k)=(aI ls).getD ((k+1)%(aI ls).length) 0:=by unfold zt;rw[aG aa,aG aa,show(2*ls.length+2*k-2*ls.length)/2=k by omega]
def adN(k:Nat):zt ls (2*ls.length+2*k+1)=(aI ls).getD k 0:=by unfold zt;rw[aG aa,aC aa,show(2*ls.length+2*k+1-2*ls.length)/2=k by omega]
def VY(h:2*ls.length<=x):Gx ls x=true:=by unfold Gx;simp[h]
def avc(ok:fN F ls)(hx:x<nD ls):l6 ls (zt ls (rv (aQ ls x)))=l6 ls (zt ls x)/\Gx ls (rv (aQ ls x))= !Gx ls x:=by
 unfold nD at hx;rcases Nat.lt_or_ge x (2*ls.length) with c|c
 .have hv:(if x%2=0 then (x/2+1)%ls.length else x/2)<ls.length:=by
   have:=dk (x/2+1) (show 0<ls.length by omega);split<;>omega
  rw[P9 c];generalize (if x%2=0 then (x/2+1)%ls.length else x/2)=v at hv;generalize (x%2==0)=fw;obtain⟨l,hl⟩:=aN hv;rw[N4 hv,VX hl];rcases ok.kinds l (aZ hl) with hp|hc
  .obtain⟨h1,h2⟩:=Mj ok hl hp;rw[qV hp,Gf hl hp];by_cases d:(dn ls v==fw)=true
   .rw[aG d,show 2*ls.length+2*(aI ls).idxOf v=2*(ls.length+(aI ls).idxOf v) by omega,xt,show 2*(ls.length+(aI ls).idxOf v)+1=2*ls.length+2*(aI ls).idxOf v+1 by omega,adN,h2,VY aa];exact⟨rfl,rfl⟩
   rw[aC d,show 2*ls.length+2*(((aI ls).idxOf v+(aI ls).length-1)%(aI ls).length)+1=2*(ls.length+((aI ls).idxOf v+(aI ls).length-1)%(aI ls).length)+1 by omega,CG,
    show 2*(ls.length+((aI ls).idxOf v+(aI ls).length-1)%(aI ls).length)=2*ls.length+2*(((aI ls).idxOf v+(aI ls).length-1)%(aI ls).length) by omega,adO,vH h1,h2,VY aa]
   exact⟨rfl,rfl⟩
  obtain⟨h1,m,hm,mc,mi,mo,ms⟩:=sD ok.cr hl hc;have hw:=(aW.1 hm).1;rw[yK hl hc,zV,N4 hw,VX hm];unfold l6;simp[hl,hm,hc,mc,mi,mo]
 rw[VY c];have key:∀k,k<(aI ls).length->∀g,l6 ls (zt ls (rv (dB ls.length ((aI ls).getD k 0) g)))=l6 ls ((aI ls).getD k 0)/\Gx ls (rv (dB ls.length ((aI ls).getD k 0) g))= !true:=fun k hk g=>by obtain⟨l,hl,hp⟩:=GF hk;rw[zV,N4 (aW.1 hl).1,VX hl,qV hp];exact⟨rfl,rfl⟩
 rcases u9 x with d|d
 .rw[show x=2*ls.length+2*((x-2*ls.length)/2) by omega,EA,adO];exact key _ (dk _ aa) _
 rw[show x=2*ls.length+2*((x-2*ls.length)/2)+1 by omega,Ez,adN];exact key _ aa _
end
def avl{next:Nat->Nat}{N:Nat}{R:Nat->Nat->Prop}(aB:∀x,x<N->next x<N)(h:∀x,x<N->bQ R x (next x)):∀(k x:Nat) (S:l_),x<N->∀y∈(fK next k x S).1,bQ R x y:=by
 intro k
 induction k with
 |zero=>intro x S _ y hy;simp[fK] at hy
 |succ k ih=>
  intro x S hx y hy;unfold fK at hy;split at hy
  .simp at hy
  rcases ch.1 hy with rfl|hy
  .exact .refl _
  exact(h x hx).trans (ih (next x) _ (aB x hx) y hy)
def avs{next:Nat->Nat}{N:Nat}(m:An next n2 N){R:Nat->Nat->Prop}(h:∀x,x<N->bQ R x (next x)):∀k,k<=N->∀w∈(eB next N k).1,∀x∈w,∀y∈w,bQ R x y:=by
 intro k
 induction k with
 |zero=>intro _ w hw;simp[eB] at hw
 |succ k ih=>
  intro hk w hw x hx y hy;rw[Ab] at hw;unfold vT at hw;split at hw
  .exact ih aa w hw x hx y hy
  rcases eX.1 hw with hw|hw
  .exact ih aa w hw x hx y hy
  simp only[lQ] at hw;subst hw;have hj:=avl (R:=R) m.lt h ((eB next N k).2.length+1) k (eB next N k).2 aa;exact(hj x hx).symm.trans (hj y hy)
def avw{next:Nat->Nat}{N:Nat}(m:An next n2 N):∀k,k<=n2->∀w∈(eB next N k).1,∀x∈w,next x∈w:=by
 intro k
 induction k with
 |zero=>intro _ w hw;simp[eB] at hw
 |succ k ih=>
  intro hk w hw x hx;obtain⟨c0,_⟩:=VD m k aa;obtain⟨c1,_⟩:=VD m (k+1) hk;rw[Ab] at hw c1;unfold vT at hw c1;cases hs:(eB next N k).2.getD k true with
  |true=>rw[hs,aG rfl] at hw;exact ih aa w hw x hx
  |false=>
   rw[hs,aC ae] at hw c1;rcases eX.1 hw with hw|hw
   .exact ih aa w hw x hx
   simp only[lQ] at hw;subst hw;obtain⟨g1,g2,g3⟩:=aiF next ((eB next N k).2.length+1) k (eB next N k).2;have Cd:x<N:=by have:=Vg (g1 x hx);have:=IA next N k;omega
   have e0:=c0 x Cd;have e1:=c1 x Cd;rw[g3,g3,g1 x hx] at e1;rw[g1 x hx] at e0;simp only[CO,hx,decide_true,<- e0] at e1;exact qA e1.symm
def yL{next:Nat->Nat}{N:Nat}(m:An next n2 N){w:a_}(hw:w∈gO next N)(hx:x∈w):next x∈w:=by unfold gO at hw;rw[Z7 m N m.le (cD _)] at hw;exact avw m n2 (cD _) w hw x hx
def Z8{next:Nat->Nat}{N:Nat}(m:An next n2 N){R:Nat->Nat->Prop}(h:∀x,x<N->bQ R x (next x)){w:a_}(hw:w∈gO next N){x y:Nat}(hx:x∈w)(hy:y∈w):bQ R x y:=avs m h N (cD _) w hw x hx y hy
def ED(L:List a_)(x:Nat):Nat:=L.findIdx fun w=>w.contains x
def Pz{L:List a_}(h:L.flatten.Nodup){i:Nat}{w:a_}(hi:L[i]?=some w)(hx:x∈w):ED L x=i:=by
 have hm:w.contains x=true:=by simpa using hx
 have aB:L.findIdx (fun w=>w.contains x)<L.length:=List.findIdx_lt_length_of_exists ⟨w,aZ hi,hm⟩;have hp:=List.findIdx_getElem (w:=aB);have hj:L[L.findIdx fun w=>w.contains x]?=some (L[L.findIdx fun w=>w.contains x]'aB):=rR aB;exact Y0 h hj hi (by simpa using hp) hx
def aoY:∀ {L:List a_},L.flatten.Nodup->(∀w∈L,w≠[])->((L.map (·.headD 0)).map (ED L))=List.range L.length:=by
 intro L h aK;apply xA;intro i;rw[gk,gk];by_cases hi:i<L.length
 .have e:=rR hi;rw[e,tM hi];simp only[nE];have hw:=aK _ (aZ e);rw[Pz h e (x:=L[i].headD 0) (by
   cases hL:L[i] with
   |nil=>exact absurd hL hw
   |cons a r=>simp)]
 rw[nZ aa,nZ (by simp;omega)];rfl
def fx (b:Bool)(s:Nat):Nat:=if b then 1-s else s
def TD{b:Bool}{s:Nat}(h:s<2):fx b s<2:=by unfold fx;split<;>omega
def adb{b:Bool}{s:Nat}(h:s<2):fx b (fx b s)=s:=by unfold fx;cases b<;>simp;omega
def uy(p:Nat->Bool)(y:Nat):Nat:=2*rv (y/2)+fx (p (y/2)) (y%2)
def sgC(p:Nat->Bool)(nx:Nat->Nat)(y:Nat):Nat:=2*nx (rv (y/2))+fx (p (y/2)) (y%2)
def tsC(p:Nat->Bool)(k:Nat):v_:=(List.range k).flatMap fun e=>[(4*e,uy p (4*e)),(4*e+1,uy p (4*e+1))]
def V2(p:Nat->Bool)(e:Nat):uy p (4*e)=if p (2*e) then 4*e+3 else 4*e+2:=by unfold uy fx;rw[show 4*e/2=2*e by omega,xt,show 4*e%2=0 by omega];split<;>omega
def V4(p:Nat->Bool)(e:Nat):uy p (4*e+1)=if p (2*e) then 4*e+2 else 4*e+3:=by unfold uy fx;rw[show(4*e+1)/2=2*e by omega,xt,show(4*e+1)%2=1 by omega];split<;>omega
def aju{p:Nat->Bool}(hp:∀x,p (rv x)=p x)(e:Nat):uy p (4*e+2)=if p (2*e) then 4*e+1 else 4*e:=by unfold uy fx;rw[show(4*e+2)/2=2*e+1 by omega,CG,show(4*e+2)%2=0 by omega,<- hp (2*e),xt];split<;>omega
def ajv{p:Nat->Bool}(hp:∀x,p (rv x)=p x)(e:Nat):uy p (4*e+3)=if p (2*e) then 4*e else 4*e+1:=by unfold uy fx;rw[show(4*e+3)/2=2*e+1 by omega,CG,show(4*e+3)%2=1 by omega,<- hp (2*e),xt];split<;>omega
def au9(p:Nat->Bool){k e:Nat}(h:e<k):(4*e,uy p (4*e))∈tsC p k/\(4*e+1,uy p (4*e+1))∈tsC p k:=
 ⟨CR.2 ⟨e,iv.2 h,af⟩,CR.2 ⟨e,iv.2 h,af⟩⟩
def afE{α β:Type}{P:α->β->Prop}{f:β->α}(hf:∀a b,P a b->f b=a):∀ {L:List α},(∀a∈L,∃b,P a b)->∃M:List β,M.map f=L/\ ∀b∈M,∃a∈L,P a b:=by
 intro L
 induction L with
 |nil=>intro _;exact⟨[],rfl,af⟩
 |cons a L ih=>
  intro h;obtain⟨b,hb⟩:=h a af;obtain⟨M,h1,h2⟩:=ih fun x hx=>h x (by simp[hx]);refine⟨b::M,by rw[eD,h1,hf a b hb],fun x hx=>?_⟩;rcases ch.1 hx with rfl|hx
  .exact⟨a,af,hb⟩
  obtain⟨c,hc,hp⟩:=h2 x hx;exact⟨c,by simp[hc],hp⟩
section
variable {F:Nat} {ls:ai}
def ajZ(ok:fN F ls):(aI ls).Nodup:=by have:=aaW ok.ax ls.length (cD _);refine List.Pairwise.imp (fun {a b} h e=>?_) this;subst e;exact absurd h (Nat.lt_irrefl _)
def afB(ok:fN F ls):ls.length=aq Let.aF ls+aq Let.aD ls:=by
 have:∀l:ai,(∀x∈l,x.aF=true\/x.aD=true)->l.length=aq Let.aF l+aq Let.aD l:=by
  intro l
  induction l with
  |nil=>intro _;rfl
  |cons a l ih=>
   intro h;have ih:=ih fun x hx=>h x (by simp[hx]);unfold aq at ih |-;rw[vY,vY,dL,ih];rcases h a af with c|c
   .rw[c,qV c];simp;omega
   have:a.aF=false:=by cases hp:a.aF;rfl;rw[qV hp] at c;cases c
   rw[c,this];simp;omega
 exact this ls ok.kinds
def avh(ok:fN F ls):∃L:a_,L.length=aq Let.aF ls+aq Let.aD ls/2/\(∀j∈L,j<ls.length)/\(L.map (l6 ls)).Nodup:=by
 have hc:=ok.cr;unfold mI at hc;simp only[cJ,dh] at hc;have hid:=hc.2
 let ids:u_:=(fJ ls ls.length).map fun id=>(1,id)
 have anO:∀a∈ids,∃j,(l6 ls j=a/\j<ls.length):=by intro a ha;obtain⟨id,hi,rfl⟩:=cV.1 ha;obtain⟨j,o,hj,hh⟩:=(HP (cD _)).1 hi;obtain⟨m,hm,mc,mi,_⟩:=BS hh;refine⟨j,?_,hj⟩;unfold l6;rw[hm];simp[mc,mi]
 obtain⟨M,m1,m2⟩:=afE (P:=fun a j=>l6 ls j=a/\j<ls.length) (f:=l6 ls) (fun a b h=>h.1) anO;have kD:∀i∈aI ls,i<ls.length/\l6 ls i=(0,(i:Int)):=fun i hi=>by obtain⟨l,hl,hp⟩:=uz.1 hi;refine⟨(aW.1 hl).1,?_⟩;unfold l6;rw[hl];simp[qV hp]
 refine⟨aI ls++M,?_,fun j hj=>?_,?_⟩
 .have:M.length=(fJ ls ls.length).length:=by
   have:=congrArg List.length m1
   simpa [ids] using this
  rw[gJ,this,hid,Db]
 .rcases eX.1 hj with hj|hj
  .exact(kD j hj).1
  obtain⟨_,_,h⟩:=m2 j hj;exact h.2
 rw[ki,m1,EL];refine⟨?_,?_,?_⟩
 .have:(aI ls).map (l6 ls)=(aI ls).map fun i:Nat=>((0:Int),(i:Int)):=Ai fun i hi=>(kD i hi).2;rw[this];refine yN.2 (List.Pairwise.imp (fun {a b} h e=>h ?_) (ajZ ok));have:=congrArg Prod.snd e;simp only at this;omega
 .refine yN.2 (List.Pairwise.imp (fun {a b} h e=>h ?_) (Ua ls ls.length));exact congrArg Prod.snd e
 intro a ha b hb e;obtain⟨i,hi,rfl⟩:=cV.1 ha;obtain⟨id,_,rfl⟩:=cV.1 hb;rw[(kD i hi).2] at e;have:=congrArg Prod.fst e;simp at this
end
section
variable {F:Nat} {ls:ai} {p:Nat->Bool}
abbrev cvR(ls:ai)(p:Nat->Bool):Nat->Nat->Prop:=y9 (2*nD ls) (sgC p (aQ ls)) (tsC p (ls.length+(aI ls).length))
def Ic(ls:ai):nD ls=2*(ls.length+(aI ls).length):=by unfold nD;omega
def alv(hp:∀x,p (rv x)=p x){y:Nat}(hy:y<2*nD ls):bQ (cvR ls p) y (uy p y):=by
 have hN:=Ic ls;obtain⟨h1,h2⟩:=au9 p (k:=ls.length+(aI ls).length) (e:=y/4) aa;have r1:bQ (cvR ls p) (4*(y/4)) (uy p (4*(y/4))):=.rel (.inr h1);have r2:bQ (cvR ls p) (4*(y/4)+1) (uy p (4*(y/4)+1)):=.rel (.inr h2);have a2:=aju hp (y/4);have a3:=ajv hp (y/4);rcases(by omega:y=4*(y/4)\/y=4*(y/4)+1\/y=4*(y/4)+2\/y=4*(y/4)+3) with e|e|e|e
 .rw[<- e] at r1;exact r1
 .rw[<- e] at r2;exact r2
 .rw[<- e] at a2;rw[a2];rw[V2] at r1;rw[V4] at r2;by_cases c:p (2*(y/4))=true
  .rw[aG c] at r2 |-;rw[<- e] at r2;exact r2.symm
  rw[aC c] at r1 |-;rw[<- e] at r1;exact r1.symm
 rw[<- e] at a3;rw[a3];rw[V2] at r1;rw[V4] at r2;by_cases c:p (2*(y/4))=true
 .rw[aG c] at r1 |-;rw[<- e] at r1;exact r1.symm
 rw[aC c] at r2 |-;rw[<- e] at r2;exact r2.symm
def abT(hp:∀x,p (rv x)=p x){x s:Nat}(hx:x<nD ls)(hs:s<2):bQ (cvR ls p) (2*x+s) (2*rv x+fx (p x) s):=by have:=alv (ls:=ls) hp (y:=2*x+s) aa;unfold uy at this;rwa[show(2*x+s)/2=x by omega,show(2*x+s)%2=s by omega] at this
def abS(hp:∀x,p (rv x)=p x){x s:Nat}(hx:x<nD ls)(hs:s<2):bQ (cvR ls p) (2*x+s) (2*aQ ls x+s):=by
 have hN:=Ic ls;have hf:fx (p x) s<2:=TD hs;refine(abT hp hx hs).trans (.rel (.inl ⟨?_,?_⟩))
 .have:rv x<nD ls:=by rw[hN];exact zW aa
  omega
 unfold sgC;rw[show(2*rv x+fx (p x) s)/2=rv x by omega,show(2*rv x+fx (p x) s)%2=fx (p x) s by omega,zX,hp,adb hs]
def BM(ls:ai)(p:Nat->Bool)(x:Nat):Prop:= ∃b,∀s,s<2->bQ (cvR ls p) (2*x+s) (fx b s)
def anm(ls:ai)(p:Nat->Bool):BM ls p 0:=⟨false,fun s _=>by rw[show 2*0+s=s by omega];exact .refl _⟩
def am7(a b:Bool){s:Nat}(h:s<2):fx a (fx b s)=fx (a !=b) s:=by unfold fx;cases a<;>cases b<;>simp;omega
def adt(hp:∀x,p (rv x)=p x){x:Nat}(hx:x<nD ls)(h:BM ls p x):BM ls p (rv x):=by obtain⟨b,h⟩:=h;refine⟨b !=p x,fun s hs=>?_⟩;have h1:=(abT hp hx (s:=fx (p x) s) (TD hs)).symm.trans (h (fx (p x) s) (TD hs));rwa[adb hs,am7 _ _ hs] at h1
def ads(hp:∀x,p (rv x)=p x){x:Nat}(hx:x<nD ls)(h:BM ls p x):BM ls p (aQ ls x):=by obtain⟨t,h⟩:=h;exact⟨t,fun s hs=>(abS hp hx hs).symm.trans (h s hs)⟩
def anl(hp:∀x,p (rv x)=p x){x:Nat}(hx:x<nD ls)(h:BM ls p (aQ ls x)):BM ls p x:=by obtain⟨t,h⟩:=h;exact⟨t,fun s hs=>(abS hp hx hs).trans (h s hs)⟩
def ank(hp:∀x,p (rv x)=p x)(ok:fN F ls){x:Nat}(hx:x<nD ls):BM ls p x:=by
 have m:=maps ok;have hN:=Ic ls;have KB:∀y,y<nD ls->rv y<nD ls:=fun y hy=>by rw[hN] at hy |-;exact zW hy
 have fwd:∀i,i<ls.length->BM ls p (2*i):=by
  intro i
  induction i with
  |zero=>intro _;exact anm ls p
  |succ i ih=>
   intro hi;have h0:=ih aa;have h2:2*i<nD ls:=aa;have h3:=ads hp h2 h0;have h4:=m.lt _ h2;have h5:=ads hp (KB _ h4) (adt hp h4 h3);have e:2*i=fZ ls.length (i+1) true:=by unfold fZ;rw[aG rfl,show i+1+ls.length-1=i+ls.length by omega,n9,fX aa]
   rw[e,aib ok hi] at h5;exact h5
 have str:∀y,y<2*ls.length->BM ls p y:=fun y hy=>by
  rcases u9 y with c|c
  .rw[show y=2*(y/2) by omega];exact fwd _ aa
  have:=adt hp (x:=2*(y/2)) aa (fwd (y/2) aa);rw[xt] at this;rw[show y=2*(y/2)+1 by omega];exact this
 rcases Nat.lt_or_ge x (2*ls.length) with c|c
 .exact str x c
 exact anl hp hx (str _ (m.ax x hx c))
end
section
variable {F:Nat} {ls:ai}
end
def avv{next:Nat->Nat}{N:Nat}(m:An next n2 N){α:Type}{φ:Nat->α}(hφ:∀x,x<N->φ (next x)=φ x){reps:a_}(hr:∀x∈reps,x<N)(hn:(reps.map φ).Nodup):reps.length<=(gO next N).length:=by
 have OD:=CN next N;have jC:∀x,x<N->∃(i:Nat) (w:a_),(gO next N)[i]?=some w/\x∈w/\ED (gO next N) x=i:=fun x hx=>by obtain⟨w,hw,FW⟩:=Gm.1 (OD.2 x hx);obtain⟨i,hi⟩:=ia hw;exact⟨i,w,hi,FW,Pz OD.1 hi FW⟩
 have anQ:∀a b,bQ (fun x y=>x<N/\y=next x) a b->φ a=φ b:=fun a b h=>by
  induction h with
  |rel h=>rw[h.2,hφ _ h.1]
  |refl _=>rfl
  |symm _ ih=>exact ih.symm
  |trans _ _ h1 h2=>exact h1.trans h2
 have Cb:∀x,x<N->∀y,y<N->ED (gO next N) x=ED (gO next N) y->φ x=φ y:=fun x hx y hy e=>by obtain⟨i,w,hi,FW,e1⟩:=jC x hx;obtain⟨j,v,hj,hyv,e2⟩:=jC y hy;rw[e1,e2] at e;subst e;rw[hi] at hj;cases hj;exact anQ x y (Z8 m (R:=fun x y=>x<N/\y=next x) (fun z hz=>.rel ⟨hz,rfl⟩) (aZ hi) FW hyv)
 have h1:(reps.map (ED (gO next N))).Nodup:=by unfold List.Nodup at hn |-;rw[yN] at hn |-;refine hn.imp_of_mem fun {x y} hx hy h e=>?_;exact h (Cb x (hr x hx) y (hr y hy) e)
 have h2:∀i∈reps.map (ED (gO next N)),i∈List.range (gO next N).length:=fun i hi=>by obtain⟨x,hx,rfl⟩:=cV.1 hi;obtain⟨i,w,hi,_,e⟩:=jC x (hr x hx);rw[e];exact iv.2 (aW.1 hi).1
 have:=LD _ _ h1 h2;rwa[cU,EJ] at this
end
end Go.Abs
