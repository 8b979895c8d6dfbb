/-
  Walks around faces.
-/
import Derived.Test.YtkdkhndppjfpmaaGreatDoorWs
set_option linter.all false
open List renaming length->I
set_option maxHeartbeats 16000000
namespace Go.Abs
variable{L:List aF}{j m:Nat}{R E z:Nat->Nat->Prop}{h:aF}
section
variable{N n u v x y:Nat}{f:dt}
def Vh{S:dS}(h:dL S x=false):x<I S:=by
 rcases I9 x (I S) with H|H
 .exact H
 rw[dL,dC,pF H]at h;cases h
def aja(next:Nat->Nat):∀(k x:Nat) (S:dS),(∀y∈(g_ next k x S).1,dL S y=false)/\(g_ next k x S).1.Nodup/\ ∀y,dL (g_ next k x S).2 y=(dL S y||decide (y∈(g_ next k x S).1)):=by
 intro k
 induction k with
 |zero=>intro x S;simp[g_]
 |succ k u=>
  intro x S;unfold g_;cases H:S.getD x true with
  |true=>simp
  |false=>
   have hl:=Vh (S:=S) (x:=x) H;obtain⟨g,j,m⟩:=u (next x) (S.set x true);simp only[eI,if_false];have f:∀y,dL (S.set x true) y=if y=x then true else dL S y:=λy=>NZ hl;refine⟨λy h=>?_,?_,λy=>?_⟩
   .rcases dr.1 h with rfl|h
    .exact H
    have:=g y h;rw[f]at this;split at this
    .cases this
    exact this
   .refine nR.2 ⟨λn=>?_,j⟩;have:=g x n;rw[f,aD rfl]at this;cases this
   rw[m,f];by_cases e:y=x
   .subst e;simp
   rw[aC e];have:decide (y∈x::(g_ next k (next x) (S.set x true)).1)=decide (y∈(g_ next k (next x) (S.set x true)).1):=by simp[e]
   rw[this]
def aA1(next:Nat->Nat)(N:Nat):∀k,(fe next N k).1.flatten.Nodup/\(∀y,y<N->dL (fe next N k).2 y=decide (y∈(fe next N k).1.flatten))/\(∀y∈(fe next N k).1.flatten,y<N)/\ ∀x,x<k->x<N->dL (fe next N k).2 x:=by
 intro k
 induction k with
 |zero=>refine⟨by simp[fe],λy H=>?_,by simp[fe],λx f=>absurd f (pG x)⟩;have:(fe next N 0).2=List.replicate N false:=rfl;rw[this,W3 H];simp[fe]
 |succ k Q=>
  obtain⟨u,g,m,B⟩:=Q;rw[zO];unfold wz;have v:=Hj next N k;cases n:(fe next N k).2.getD k true with
  |true=>
   rw[aD rfl];refine⟨u,g,m,λx f D=>?_⟩;rcases mQ.1 f with h|rfl
   .exact B x h D
   exact n
  |false=>
   rw[aC U];have O:k<N:=by have:=Vh (S:=(fe next N k).2) n;omega
   obtain⟨g1,L,F⟩:=aja next ((fe next N k).2.length+1) k (fe next N k).2;have A:=aeD next ((fe next N k).2.length+1) k (fe next N k).2 (by have:=Mf (fe next N k).2;omega);refine⟨?_,λy H=>?_,?_,λx f D=>?_⟩
   .rw[EP,Cc];refine⟨u,by simpa using L,λy H z M=>?_⟩;rintro rfl
    have E:=g1 y (by simpa using M);have j:=m y H;rw[g y j]at E;simp[H]at E
   .rw[F,g y H,EP,pS];simp
   .intro y H;rw[EP,iW]at H;rcases H with H|H
    .exact m y H
    have:=Vh (g1 y (by simpa using H));omega
   rcases mQ.1 f with h|rfl
   .rw[F,B x h D];rfl
   exact A
def GG(next:Nat->Nat)(N:Nat):(fz next N).flatten.Nodup/\ ∀y,y<N->y∈(fz next N).flatten:=by obtain⟨f,H,_,g⟩:=aA1 next N N;refine⟨f,λy h=>?_⟩;have:=g y h h;rw[H y h]at this;exact pJ this
def aj0(h:L.flatten.Nodup){i:Nat}{a b:aF}(H:L[i]?=some a)(f:L[j]?=some b)(n:x∈a)(m:x∈b):i=j:=by
 induction L generalizing i j with
 |nil=>simp at H
 |cons l L v=>
  rw[mO,Cc]at h;obtain⟨_,u,g⟩:=h;cases i with
  |zero=>
   simp at H;subst H;cases j with
   |zero=>rfl
   |succ j=>simp at f;exact absurd rfl (g x n x (EE.2 ⟨b,bR f,m⟩))
  |succ i=>
   simp at H;cases j with
   |zero=>simp at f;subst f;exact absurd rfl (g x m x (EE.2 ⟨a,bR H,n⟩))
   |succ j=>simp at f;rw[v u H f]
section
variable {F:Nat} {g:ai}
def SL(h:(dG F g)[j]?=some f):∃w,(fz (bz g) (bt g))[j]?=some w/\f=jg F g w:=by
 unfold dG at h;rw[ig]at h;cases H:(fz (bz g) (bt g))[j]? with
 |none=>rw[H]at h;cases h
 |some w=>rw[H]at h;cases h;exact⟨w,rfl,rfl⟩
def Ro{i:Nat}{a b:dt}{d:Nat}(u:(dG F g)[i]?=some a)(m:(dG F g)[j]?=some b)(h:d∈a.bQ)(H:d∈b.bQ):i=j:=by obtain⟨v,n,rfl⟩:=SL u;obtain⟨w,f,rfl⟩:=SL m;rw[AB]at h H;exact aj0 (GG _ _).1 n f (rY.1 h).1 (rY.1 H).1
def akT(h:f∈dG F g):f.bQ.Nodup:=by obtain⟨w,H,rfl⟩:=dY.1 h;rw[AB];have:=(GG (bz g) (bt g)).1;exact List.Pairwise.sublist List.filter_sublist (List.Pairwise.sublist (List.sublist_flatten_of_mem H) this)
def ap9{d:Nat}(h:d<2*I g):∃(j:Nat) (f:dt),(dG F g)[j]?=some f/\d∈f.bQ:=by
 have:=(GG (bz g) (bt g)).2 d (by unfold bt;omega);obtain⟨w,H,u⟩:=EE.1 this;obtain⟨j,n⟩:=j9 H;have m:(dG F g)[j]?=some (jg F g w):=by unfold dG;rw[ig,n];rfl
 refine⟨j,jg F g w,m,?_⟩;rw[AB];exact rY.2 ⟨u,by simpa using h⟩
def aiW{D:aF}{d:Nat}:∀ {L:aF},d<I L->(qQ L D v)[d]?=if d∈D then some v else L[d]? :=by
 induction D with
 |nil=>intro L _;simp[qQ]
 |cons e D j=>
  intro L f;show(qQ (L.set e v) D v)[d]?=_;rw[j (by simpa using f),mT];by_cases g:d∈D
  .simp[g]
  by_cases H:e=d
  .subst H;simp[f]
  have:d≠e:=λh=>H h.symm;simp[g,H,this]
def awd{d:Nat}:∀ {fs:D4}{j:Nat}{L:aF},d<I L->(∀f∈fs,d∉f.bQ)->(se fs j L)[d]?=L[d]? :=by
 intro fs
 induction fs with
 |nil=>intro j L _ _;rfl
 |cons f fs m=>intro j L H h;show(se fs (j+1) (qQ L f.bQ j))[d]?=_;rw[m (by rw[Nt];exact H) λg n=>h g (by simp[n]),aiW H,aC (h f aP)]
def avp{d:Nat}:∀ {fs:D4}{j i:Nat}{L:aF}{f:dt},d<I L->fs[i]?=some f->d∈f.bQ->(∀m F,fs[m]?=some F->d∈F.bQ->m=i)->(se fs j L)[d]?=some (j+i):=by
 intro fs
 induction fs with
 |nil=>intro j i L f _ h;simp at h
 |cons g fs z=>
  intro j i L f n H u v;show(se fs (j+1) (qQ L g.bQ j))[d]?=_;cases i with
  |zero=>
   simp at H;subst H;rw[awd (by rw[Nt];exact n),aiW n,aD u]
   .rfl
   intro F x B;obtain⟨m,D⟩:=j9 x;have:=v (m+1) F (by simpa using D) B;omega
  |succ i=>simp at H;rw[z (by rw[Nt];exact n) H u λm F A y=>by have:=v (m+1) F (by simpa using A) y;omega];congr 1;omega
def left_at{d:Nat}(n:d<2*I g)(h:(dG F g)[j]?=some f)(H:d∈f.bQ):(kO F g)[d]?=some j:=by unfold kO;rw[avp (by simpa using n) h H λx v m u=>Ro m h u H];congr 1;omega
def B6{d:Nat}(H:d<2*I g):∃j,(dG F g)[j]?=some (dF F g d)/\d∈(dF F g d).bQ/\(kO F g)[d]?=some j:=by
 obtain⟨j,f,h,m⟩:=ap9 (F:=F) H;have hl:=left_at H h m;have e:dF F g d=f:=by unfold dF;rw[dC (l:=kO F g),hl,kZ,dC,h,kZ]
 exact⟨j,e▸h,e▸m,hl⟩
def ac8{d:Nat}(m:d<2*I g)(u:f∈dG F g)(n:d∈f.bQ):dF F g d=f:=by obtain⟨j,H,v,_⟩:=B6 (F:=F) m;obtain⟨i,h⟩:=j9 u;have:=Ro h H n v;subst this;rw[H]at h;cases h;rfl
def Gr{d:Nat}(h:d<2*I g):dF F g d∈dG F g:=by obtain⟨j,H,_⟩:=B6 (F:=F) h;exact bR H
def aoi{d:Nat}(H:d<2*I g):(dG F g).find? (λf=>f.bQ.contains d)=some (dF F g d):=by
 cases h:(dG F g).find? (λf=>f.bQ.contains d)with
 |none=>have:=G9.1 h _ (Gr H);obtain⟨_,_,j,_⟩:=B6 (F:=F) H;simp[j]at this
 |some f=>have m:=Cg h;have j:=HA h;rw[ac8 H m (by simpa using j)]
def De(pl:Nat)(E:aF)(f:dt):Bool:=(I f.bQ==I E)&&((I f.places==pl)&&E.all λe=> !(decide (2*e∈f.bQ)==decide (2*e+1∈f.bQ)))
def vF(F:Nat)(g:ai)(pl:Nat)(E:aF):Bool:=(dG F g).any (De pl E)
def atd(h:f.bQ.Nodup)(e:Nat):zd f e=(if 2*e∈f.bQ then 1 else 0)+(if 2*e+1∈f.bQ then 1 else 0):=by
 unfold zd;generalize f.bQ=D at h
 induction D with
 |nil=>simp
 |cons d D m=>
  obtain⟨H,n⟩:=nR.1 h;rw[tA,m n];by_cases g:d=2*e
  .subst g;have:(2*e/2==e):=aP;have E:¬(2*e+1=2*e):=J;simp[this,H,E];omega
  by_cases j:d=2*e+1
  .subst j;have:((2*e+1)/2==e):=by simp;omega
   have E:¬(2*e=2*e+1):=J;simp[this,H,E]
  have:(d/2==e)=false:=by simp;omega
  have E:¬(2*e=d):=λh=>g h.symm;have u:¬(2*e+1=d):=λh=>j h.symm;simp[this,E,u]
def anv(h:f.bQ.Nodup)(pl:Nat)(E:aF):B8 f pl E=De pl E f:=by unfold B8 De;congr 2;refine List.all_congr rfl λe=>?_;rw[atd h];by_cases H:2*e∈f.bQ<;>by_cases g:2*e+1∈f.bQ<;>simp[H,g]
def acI{pl:Nat}{E:aF}{j:Nat}(y:E[0]?=some j)(x:j<I g):r4 F g pl E j=vF F g pl E:=by
 unfold r4 vF;have v:=Gr (F:=F) (g:=g) (d:=2*j) J;have M:=Gr (F:=F) (g:=g) (d:=2*j+1) J;rw[anv (akT v),anv (akT M),pS,pB,G_];constructor
 .rintro (h|h)
  .exact⟨_,v,h⟩
  exact⟨_,M,h⟩
 rintro⟨f,m,h⟩
 have H:=h;unfold De at H;simp only[c6,kr]at H;have:=H.2.2 j (bR y);by_cases u:2*j∈f.bQ
 .left;rw[ac8 J m u];exact h
 by_cases n:2*j+1∈f.bQ
 .right;rw[ac8 J m n];exact h
 simp[u,n]at this
end
inductive cH (R:Nat->Nat->Prop):Nat->Nat->Prop
 |rel {a b:Nat}:R a b->cH R a b
 |refl (a:Nat):cH R a a
 |symm {a b:Nat}:cH R a b->cH R b a
 |trans {a b c:Nat}:cH R a b->cH R b c->cH R a c
def cH.mono{R':Nat->Nat->Prop}(h:∀a b,R a b->cH R' a b)(e:cH R x y):cH R' x y:=by
 induction e with
 |rel r=>exact h _ _ r
 |refl a=>exact .refl a
 |symm _ f=>exact .symm f
 |trans _ _ i1 i2=>exact .trans i1 i2
def cH.inv{α:Type}{f:Nat->α}(h:∀a b,R a b->f a=f b)(e:cH R x y):f x=f y:=by
 induction e with
 |rel r=>exact h _ _ r
 |refl a=>rfl
 |symm _ g=>exact g.symm
 |trans _ _ i1 i2=>exact i1.trans i2
def uI (E:Nat->Nat->Prop)(x:Nat):Prop:=∀y,E x y->x<=y
noncomputable def CE (E:Nat->Nat->Prop) (x:Nat):Bool:= @decide (uI E x) (Classical.propDecidable _)
def ML:CE E x↔uI E x:=by unfold CE;exact@decide_eq_true_iff _ (Classical.propDecidable _)
noncomputable def bY (E:Nat->Nat->Prop) (n:Nat):Nat:=(List.range n).countP (CE E)
def Jn(h:∀x y,E x y↔z x y)(n:Nat):bY E n=bY z n:=by have:E=z:=funext λx=>funext λy=>propext (h x y);rw[this]
def ahW{p:Nat->Prop}:∀n,p n->∃m,p m/\ ∀k,p k->m<=k:=by
 intro n
 induction n using Nat.strongRecOn with
 |ind n f=>
  intro h;rcases Classical.em (∃k,k<n/\p k)with⟨k,H,hp⟩|D
  .exact f k H hp
  exact⟨n,h,λk H=>Wb λA=>D ⟨k,A,H⟩⟩
def aco(R:Nat->Nat->Prop)(x:Nat):∃m,cH R x m/\uI (cH R) m/\m<=x:=by obtain⟨m,h,H⟩:=ahW (p:=λy=>cH R x y) x (.refl x);exact⟨m,h,λy f=>H y (h.trans f),H x (.refl x)⟩
def ayb{p:Nat->Bool}(hp:p x):∀ {l:aF},l.Nodup->x∈l->l.countP p=l.countP (λy=>p y&&y !=x)+1:=by
 intro l
 induction l with
 |nil=>intro _ h;cases h
 |cons a l n=>
  intro j m;obtain⟨u,f⟩:=nR.1 j;rw[tA,tA];by_cases e:a=x
  .subst e;have v:l.countP p=l.countP (λy=>p y&&y !=a):=LM λy H=>by
    have:(y !=a):=by simp;rintro rfl;exact u H
    simp[this]
   simp[hp,v]
  have g:x∈l:=by rcases dr.1 m with h|h;exact absurd h.symm e;exact h
  rw[n f g];have:(a !=x):=by simp[e]
  simp only[this,AH];omega
abbrev sQ(R:Nat->Nat->Prop)(a b:Nat)(x y:Nat):Prop:=R x y\/(x=a/\y=b)
def Ip{a b:Nat}:cH (sQ R a b) x y↔cH R x y\/(cH R x a/\cH R b y)\/(cH R x b/\cH R a y):=by
 constructor
 .intro h
  induction h with
  |rel r=>
   rcases r with r|⟨rfl,rfl⟩
   .exact .inl (.rel r)
   exact .inr (.inl ⟨.refl _,.refl _⟩)
  |refl a=>exact .inl (.refl a)
  |symm _ m=>
   rcases m with h|⟨H,f⟩|⟨H,f⟩
   .exact .inl h.symm
   .exact .inr (.inr ⟨f.symm,H.symm⟩)
   exact .inr (.inl ⟨f.symm,H.symm⟩)
  |trans _ _ i1 i2=>
   rcases i1 with h|⟨H,f⟩|⟨H,f⟩<;>rcases i2 with k|⟨j,g⟩|⟨j,g⟩
   .exact .inl (h.trans k)
   .exact .inr (.inl ⟨h.trans j,g⟩)
   .exact .inr (.inr ⟨h.trans j,g⟩)
   .exact .inr (.inl ⟨H,f.trans k⟩)
   .exact .inr (.inl ⟨H,g⟩)
   .exact .inl (H.trans g)
   .exact .inr (.inr ⟨H,f.trans k⟩)
   .exact .inl (H.trans g)
   exact .inr (.inr ⟨H,g⟩)
 have up:∀ {u v},cH R u v->cH (sQ R a b) u v:=λh=>h.mono λ_ _ r=>.rel (.inl r);have A:cH (sQ R a b) a b:=.rel (.inr ⟨rfl,rfl⟩);rintro(h|⟨H,f⟩|⟨H,f⟩)
 .exact up h
 .exact(up H).trans (A.trans (up f))
 exact(up H).trans (A.symm.trans (up f))
def Xq{a b:Nat}(h:cH R a b)(n:Nat):bY (cH (sQ R a b)) n=bY (cH R) n:=by
 refine Jn (λx y=>?_) n;rw[Ip];constructor
 .rintro (k|⟨f,H⟩|⟨f,H⟩)
  .exact k
  .exact f.trans (h.trans H)
  exact f.trans (h.symm.trans H)
 exact .inl
def am5(H:m<n)(f:uI E m)(h:∀x,uI z x↔uI E x/\x≠m):bY E n=bY z n+1:=by unfold bY;rw[ayb (p:=CE E) (x:=m) (ML.2 f) Cq (gN.2 H)];congr 1;refine LM λx _=>?_;rw[ML,h,c6,ML];simp
def X4{a b:Nat}(M:a<n)(L:b<n)(h:¬cH R a b):bY (cH R) n=bY (cH (sQ R a b)) n+1:=by
 obtain⟨p,j,A,F⟩:=aco R a;obtain⟨q,Q,B,N⟩:=aco R b;have v:p≠q:=λe=>h (j.trans (e▸Q.symm));rcases aaV v with c|c
 .refine am5 (m:=q) J B λx=>⟨λH=>⟨λy f=>H y (Ip.2 (.inl f)),?_⟩,λ⟨H,z⟩ y f=>?_⟩
  .rintro rfl
   have:=H p (Ip.2 (.inr (.inr ⟨Q.symm,j⟩)));omega
  rcases Ip.1 f with f|⟨g,u⟩|⟨g,u⟩
  .exact H y f
  .have E:=H p (g.trans j);have D:=B y (Q.symm.trans u);omega
  have E:=H q (g.trans Q);have D:=B x (Q.symm.trans g.symm);omega
 refine am5 (m:=p) J A λx=>⟨λH=>⟨λy f=>H y (Ip.2 (.inl f)),?_⟩,λ⟨H,z⟩ y f=>?_⟩
 .rintro rfl
  have:=H q (Ip.2 (.inr (.inl ⟨j.symm,Q⟩)));omega
 rcases Ip.1 f with f|⟨g,u⟩|⟨g,u⟩
 .exact H y f
 .have E:=H p (g.trans j);have D:=A x (j.symm.trans g.symm);omega
 have E:=H q (g.trans Q);have D:=A y (j.symm.trans u);omega
def U0{α:Type}{f:Nat->α}(Z:∀a b,R a b->f a=f b)(v:∀x∈h,x<n)(g:(h.map f).Nodup):I h<=bY (cH R) n:=by
 have y:∀h:aF,(∀x∈h,x<n)->(h.map f).Nodup->∃L:aF,I L=I h/\L.Nodup/\(∀m∈L,m<n/\uI (cH R) m)/\ ∀m∈L,f m∈h.map f:=by
  intro h
  induction h with
  |nil=>intro _ _;exact⟨[],rfl,qF,aP,aP⟩
  |cons a r E=>
   intro v g;rw[eJ,nR]at g;obtain⟨L,B,D,u,F⟩:=E (λx H=>v x (by simp[H])) g.2;obtain⟨m,T,N,Y⟩:=aco R a;have j:f m=f a:=(T.inv Z).symm;have A:=v a aP;refine⟨m::L,by simp[B],nR.2 ⟨λX=>g.1 (j▸F m X),D⟩,λx H=>?_,λx H=>?_⟩
   .rcases dr.1 H with rfl|H
    .exact⟨J,N⟩
    exact u x H
   rcases dr.1 H with rfl|H
   .rw[j];simp
   rw[eJ];exact yc _ (F x H)
 obtain⟨L,B,D,u,_⟩:=y h v g;rw[<-B];unfold bY;rw[P4];have z:∀(L M:aF),L.Nodup->(∀x∈L,x∈M)->I L<=I M:=by
  intro L
  induction L with
  |nil=>intro M _ _;exact cG _
  |cons a L E=>intro M g ae;obtain⟨Q,O⟩:=nR.1 g;have A:=ae a aP;have:=E (M.erase a) O λx H=>(QL (by rintro rfl;exact Q H)).2 (ae x (by simp[H]));rw[No A]at this;have:0<I M:=LS A;simp only[dW];omega
 exact z L _ D λx H=>rY.2 ⟨gN.2 (u x H).1,ML.2 (u x H).2⟩
def akz(h:∀x,x<n->cH R x 0):bY (cH R) n<=1:=by
 unfold bY;have y:∀x∈List.range n,CE (cH R) x->x=0:=λx H hl=>by have:=ML.1 hl 0 (h x (gN.1 H));omega
 have:∀l:aF,l.Nodup->(∀x∈l,CE (cH R) x->x=0)->l.countP (CE (cH R))<=1:=by
  intro l
  induction l with
  |nil=>intro _ _;simp
  |cons a l u=>
   intro j hl;obtain⟨v,f⟩:=nR.1 j;rw[tA];by_cases c:CE (cH R) a
   .have m:=hl a aP c;subst m;have:l.countP (CE (cH R))=0:=Ho.2 λx H g=>v (by have:=hl x (by simp[H]) g;subst this;exact H);simp[c,this]
   have:=u f λx H=>hl x (by simp[H]);simp[c,this]
 exact this _ Cq y
structure uj (n:Nat) (p:Nat->Nat):Prop where
 lt:∀x,x<n->p x<n
 inj:∀x y,x<n->y<n->p x=p y->x=y
abbrev eM(n:Nat)(p:Nat->Nat)(x y:Nat):Prop:=x<n/\y=p x
def tr (p:Nat->Nat)(t:Nat×Nat)(x:Nat):Nat:=if x=t.1 then p t.2 else if x=t.2 then p t.1 else p x
def KP(p:Nat->Nat)(a b x:Nat):tr p (a,b) x=p (if x=a then b else if x=b then a else x):=by
 unfold tr;simp only;split
 .rfl
 split<;>rfl
def uj.tr{p:Nat->Nat}(h:uj n p){a b:Nat}(g:a<n)(j:b<n):uj n (tr p (a,b)):=by
 have ae:∀x,x<n->(if x=a then b else if x=b then a else x)<n:=λx H=>by split<;>(try split)<;>assumption
 refine⟨λx H=>by rw[KP];exact h.lt _ (ae x H),λx y H f e=>?_⟩;rw[KP,KP]at e;have e:=h.inj _ _ (ae x H) (ae y f) e;by_cases X:x=a
 .rw[aD X]at e;by_cases Y:y=a
  .omega
  rw[aC Y]at e;split at e<;>omega
 rw[aC X]at e;by_cases Y:y=a
 .rw[aD Y]at e;split at e<;>omega
 rw[aC Y]at e;split at e<;>split at e<;>omega
def it (p:Nat->Nat):Nat->Nat->Nat
 |0,x=>x
 |k+1,x=>p (it p k x)
def uj.Kh{p:Nat->Nat}(h:uj n p)(H:x<n):∀k,it p k x<n:=by
 intro k
 induction k with
 |zero=>exact H
 |succ k f=>exact h.lt _ f
def uj.back{p:Nat->Nat}(h:uj n p)(H:x<n):∀i j,it p (i+j) x=it p i x->it p j x=x:=by
 intro i
 induction i with
 |zero=>intro j e;rw[lq]at e;exact e
 |succ i f=>intro j e;rw[show i+1+j=(i+j)+1 by omega]at e;exact f j (h.inj _ _ (h.Kh H _) (h.Kh H _) e)
def KW:∀(L M:aF),L.Nodup->(∀x∈L,x∈M)->I L<=I M:=by
 intro L
 induction L with
 |nil=>intro M _ _;exact cG _
 |cons a L f=>intro M m ae;obtain⟨j,g⟩:=nR.1 m;have h:=ae a aP;have:=f (M.erase a) g λx H=>(QL (by rintro rfl;exact j H)).2 (ae x (by simp[H]));rw[No h]at this;have:0<I M:=LS h;simp only[dW];omega
def uj.afi{p:Nat->Nat}(h:uj n p)(j:x<n):∃m,it p (m+1) x=x:=by
 apply Classical.byContradiction;intro D;have f:∀k,((List.range k).map λi=>it p i x).Nodup:=by
  intro k
  induction k with
  |zero=>simp
  |succ k z=>rw[rN,kP,Cc];refine⟨z,aP,λa v b H=>?_⟩;obtain⟨i,g,rfl⟩:=dY.1 v;have g:=gN.1 g;simp only[eJ,lr,rb]at H;subst H;intro e;have:=h.back j i (k-i) (by rw[show i+(k-i)=k by omega];exact e.symm);exact D ⟨k-i-1,by rw[show k-i-1+1=k-i by omega];exact this⟩
 have:=KW _ (List.range n) (f (n+1)) λy u=>by obtain⟨i,_,rfl⟩:=dY.1 u;exact gN.2 (h.Kh j i)
 rw[cY,xi,xi]at this;omega
def aog(p:Nat->Nat)(x:Nat):∀k,it p (k+1) x=it p k (p x):=by
 intro k
 induction k with
 |zero=>rfl
 |succ k f=>show p (it p (k+1) x)=p (it p k (p x));rw[f]
def alp{p:Nat->Nat}(h:uj n p){a b:Nat}(v:a<n)(H:b<n)(F:¬cH (eM n p) a b):cH (eM n (tr p (a,b))) a b:=by
 obtain⟨m,u⟩:=h.afi H;have E:tr p (a,b) a=p b:=by unfold tr;rw[aD rfl]
 have j:∀k,cH (eM n p) b (it p k b):=by
  intro k
  induction k with
  |zero=>exact .refl _
  |succ k f=>exact f.trans (.rel ⟨h.Kh H k,rfl⟩)
 have g:∀k,cH (eM n (tr p (a,b))) a b\/cH (eM n (tr p (a,b))) a (it p k (p b)):=by
  intro k
  induction k with
  |zero=>exact .inr (.rel ⟨v,E.symm⟩)
  |succ k f=>
   rcases f with f|f
   .exact .inl f
   by_cases c:it p k (p b)=b
   .rw[c]at f;exact .inl f
   refine .inr (f.trans (.rel ⟨h.Kh (h.lt _ H) k,?_⟩));have N:it p k (p b)≠a:=λe=>F (by have:=j (k+1);rw[aog,e]at this;exact this.symm)
   unfold tr;rw[aC N,aC c];rfl
 rcases g m with k|k
 .exact k
 rw[<-aog,u]at k;exact k
def aaR{p:Nat->Nat}{a b:Nat}(f:a<n)(H:b<n){S:Nat->Nat->Prop}{x y:Nat}:cH (sQ (λx y=>eM n (tr p (a,b)) x y\/S x y) a b) x y↔cH (sQ (λx y=>eM n p x y\/S x y) a b) x y:=by
 have A:∀R:Nat->Nat->Prop,cH (sQ R a b) a b:=λR=>.rel (.inr ⟨rfl,rfl⟩);constructor
 .refine cH.mono λu v r=>?_;rcases r with(⟨h,rfl⟩|s)|⟨rfl,rfl⟩
  .unfold tr;simp only;by_cases c:u=a
   .subst c;rw[aD rfl];exact(A _).trans (.rel (.inl (.inl ⟨H,rfl⟩)))
   rw[aC c];by_cases d:u=b
   .subst d;rw[aD rfl];exact(A _).symm.trans (.rel (.inl (.inl ⟨f,rfl⟩)))
   rw[aC d];exact .rel (.inl (.inl ⟨h,rfl⟩))
  .exact .rel (.inl (.inr s))
  exact A _
 refine cH.mono λu v r=>?_;rcases r with(⟨h,rfl⟩|s)|⟨rfl,rfl⟩
 .by_cases c:u=a
  .subst c;refine(A _).trans (.rel (.inl (.inl ⟨H,?_⟩)));unfold tr;simp only;by_cases d:b=u
   .rw[aD d,d]
   rw[aC d];simp
  by_cases d:u=b
  .subst d;refine(A _).symm.trans (.rel (.inl (.inl ⟨f,?_⟩)));unfold tr;rw[aD rfl]
  refine .rel (.inl (.inl ⟨h,?_⟩));unfold tr;rw[aC c,aC d]
 .exact .rel (.inl (.inr s))
 exact A _
abbrev aln(ts:rV)(x y:Nat):Prop:=(x,y)∈ts
abbrev AA(n:Nat)(p:Nat->Nat)(ts:rV)(x y:Nat):Prop:=eM n p x y\/aln ts x y
def akA:∀(T:rV) (p:Nat->Nat),uj n p->(∀t∈T,t.1<n/\t.2<n)->
  bY (cH (eM n (T.foldl tr p))) n+bY (cH (eM n p)) n<=2*bY (cH (AA n p T)) n+I T:=by
 intro T
 induction T with
 |nil=>
  intro p _ _;have:bY (cH (AA n p [])) n=bY (cH (eM n p)) n:=Jn (λx y=>⟨cH.mono (R:=AA n p []) (R':=eM n p) (λu v r=>by
   rcases r with r|r
   .exact .rel r
   cases r),cH.mono (R:=eM n p) (R':=AA n p []) (λu v r=>.rel (.inl r))⟩) n
  rw[this];simp only[IV,fU];omega
 |cons t T B=>
  intro p hp z;obtain⟨a,b⟩:=t;obtain⟨f,H⟩:=z (a,b) aP
  replace f:a<n:=f
  replace H:b<n:=H
  have B:=B (tr p (a,b)) (hp.tr f H) λt h=>z t (by simp[h]);have all:∀x y,cH (AA n p ((a,b)::T)) x y↔cH (sQ (AA n (tr p (a,b)) T) a b) x y:=λx y=>by
   refine Iff.trans ⟨cH.mono λu v r=>?_,cH.mono λu v r=>?_⟩ (aaR (S:=aln T) f H).symm
   .rcases r with r|r
    .exact .rel (.inl (.inl r))
    rcases dr.1 r with r|r
    .cases r;exact .rel (.inr ⟨rfl,rfl⟩)
    exact .rel (.inl (.inr r))
   rcases r with(r|r)|⟨rfl,rfl⟩
   .exact .rel (.inl r)
   .exact .rel (.inr (yc _ r))
   exact .rel (.inr (EG ..))
  have one:∀x y,cH (sQ (eM n (tr p (a,b))) a b) x y↔cH (sQ (eM n p) a b) x y:=λx y=>by have h:=aaR (p:=p) (S:=λ_ _=>False) f H (x:=x) (y:=y);have e:∀q:Nat->Nat,(λx y=>eM n q x y\/False)=eM n q:=λq=>funext λx=>funext λy=>propext aP;rw[e,e]at h;exact h
  rw[Jn all];simp only[sh,dW];have F:bY (cH (sQ (eM n (tr p (a,b))) a b)) n=bY (cH (sQ (eM n p) a b)) n:=Jn one n;have g:∀R:Nat->Nat->Prop,cH R a b->bY (cH (sQ R a b)) n=bY (cH R) n:=λR h=>Xq h n;have m:∀R:Nat->Nat->Prop,¬cH R a b->bY (cH R) n=bY (cH (sQ R a b)) n+1:=λR h=>X4 f H h;rcases Classical.em (cH (eM n p) a b)with c|c
  .have E:=g _ c;rcases Classical.em (cH (eM n (tr p (a,b))) a b)with d|d
   .have A:=g _ d;have j:=g _ (d.mono (R':=AA n (tr p (a,b)) T) λu v r=>.rel (.inl r));omega
   have A:=m _ d;rcases Classical.em (cH (AA n (tr p (a,b)) T) a b)with D|D
   .have j:=g _ D;omega
   have j:=m _ D;omega
  have E:=m _ c;have d:=alp hp f H c;have A:=g _ d;have j:=g _ (d.mono (R':=AA n (tr p (a,b)) T) λu v r=>.rel (.inl r));omega
def rv (x:Nat):Nat:=if x%2=0 then x+1 else x-1
def tp(k:Nat):rv (2*k)=2*k+1:=by unfold rv;rw[aD J]
def A6(k:Nat):rv (2*k+1)=2*k:=by unfold rv;rw[aC J];rfl
def w_(x:Nat):rv (rv x)=x:=by
 rcases tD x with h|h
 .rw[show x=2*(x/2) by omega,tp,A6]
 rw[show x=2*(x/2)+1 by omega,A6,tp]
def wT(h:x<2*m):rv x<2*m:=by unfold rv;split<;>omega
def aqg(x:Nat):rv x/2=x/2:=by unfold rv;split<;>omega
def u9(n v:Nat)(g:Bool):rv (eZ n v g)=jF n v (!g):=by
 cases g with
 |true=>exact tp _
 |false=>exact A6 _
def auK(n v:Nat)(g:Bool):rv (jF n v g)=eZ n v (!g):=by
 cases g with
 |true=>exact tp _
 |false=>exact A6 _
def Bj(h:v<n)(g:Bool):jF n v g<2*n:=by have:=fk (v+n-1) (show 0<n by omega);unfold jF;split<;>omega
def HI(H:x<2*n):x=jF n (if x%2=0 then(x/2+1)%n else x/2) (x%2==0):=by
 unfold jF;rcases tD x with h|h
 .simp only[h,zL,if_true];rw[FG J];omega
 simp only[h,show((1:Nat)==0)=false from rfl,eI,if_false,Pc];omega
section
variable {F:Nat} {g:ai}
def ad0{l:aa}(hl:g[v]?=some l)(f:Bool):bz g (jF (I g) v f)=if l.kind==2 then eZ (I g) (i_ g v) (f==(l.over==(l.sign==1)))
   else if bN g v==f then 2*I g+2*(aE g).idxOf v else 2*I g+2*(((aE g).idxOf v+I (aE g)-1)%I (aE g))+1:=by
 have h:=(cn.1 hl).1;have A:=Bj h f;refine agc J ?_ ?_ hl
 .unfold jF;cases f<;>simp
 unfold jF;cases f with
 |true=>simp only[if_true];rw[show 2*((v+I g-1)%I g)/2=(v+I g-1)%I g by omega,xU h]
 |false=>simp only[eI,if_false];omega
def yB{l:aa}(hl:g[v]?=some l)(h:l.aB)(f:Bool):bz g (jF (I g) v f)=eZ (I g) (i_ g v) (f==(l.over==(l.sign==1))):=by rw[ad0 hl];unfold aa.aB at h;rw[aD h]
def GI{l:aa}(hl:g[v]?=some l)(hp:l.aI)(f:Bool):bz g (jF (I g) v f)=if bN g v==f then 2*I g+2*(aE g).idxOf v else 2*I g+2*(((aE g).idxOf v+I (aE g)-1)%I (aE g))+1:=by have:=pR hp;unfold aa.aB at this;rw[ad0 hl,aC (by rw[this];decide)]
def EY(k:Nat):bz g (2*I g+2*k)=eZ (I g) ((aE g).getD ((k+1)%I (aE g)) 0) (!bN g ((aE g).getD ((k+1)%I (aE g)) 0)):=by show j8 _ _ _=_;unfold j8;rw[aD J,aD J,show(2*I g+2*k-2*I g)/2=k by omega]
def D1(k:Nat):bz g (2*I g+2*k+1)=eZ (I g) ((aE g).getD k 0) (bN g ((aE g).getD k 0)):=by show j8 _ _ _=_;unfold j8;rw[aD J,aC J,show(2*I g+2*k+1-2*I g)/2=k by omega]
def yW{k:Nat}(H:k<I (aE g)):∃l,g[(aE g).getD k 0]?=some l/\l.aI:=by obtain⟨v,h⟩:=aT H;rw[dC,h,kZ];exact uk.1 (bR h)
def Fq{l:aa}(ok:gh F g)(hl:g[v]?=some l)(hp:l.aI):(aE g).idxOf v<I (aE g)/\(aE g).getD ((aE g).idxOf v) 0=v:=by have h:=Z1 ok.ax hl hp;rw[NP ok.ax hl hp];exact⟨(cn.1 h).1,by rw[dC,h];rfl⟩
def acO(ok:gh F g)(x:v<I g)(f:Bool):bz g (rv (bz g (jF (I g) v f)))=eZ (I g) v f:=by
 obtain⟨l,hl⟩:=aT x;rcases ok.kinds l (bR hl)with hp|n
 .obtain⟨h,j⟩:=Fq ok hl hp;rw[GI hl hp];by_cases c:(bN g v==f)
  .rw[aD c,show 2*I g+2*(aE g).idxOf v=2*(I g+(aE g).idxOf v) by omega,tp,show 2*(I g+(aE g).idxOf v)+1=2*I g+2*(aE g).idxOf v+1 by omega,D1,j];rw[eq_of_beq c]
  rw[aC c];have c:bN g v= !f:=by revert c;cases bN g v<;>cases f<;>simp
  have H:=fk ((aE g).idxOf v+I (aE g)-1) (show 0<I (aE g) by omega);rw[show 2*I g+2*(((aE g).idxOf v+I (aE g)-1)%I (aE g))+1=2*(I g+((aE g).idxOf v+I (aE g)-1)%I (aE g))+1 by omega,A6,
   show 2*(I g+((aE g).idxOf v+I (aE g)-1)%I (aE g))=2*I g+2*(((aE g).idxOf v+I (aE g)-1)%I (aE g)) by omega,EY,xU h,j,c,MK]
 obtain⟨h,m,H,y,z,u,M⟩:=qM ok.cr hl n;rw[yB hl n,u9,yB H y,h,u,M];cases f<;>cases l.over<;>cases(l.sign==1)<;>rfl
def oG(g:ai)(x:Nat):Nat:=
 if 2*I g<=x then(if x%2=0 then(aE g).getD (((x-2*I g)/2+1)%I (aE g)) 0 else(aE g).getD ((x-2*I g)/2) 0)
 else if x%2=0 then(x/2+1)%I g else x/2
def Dd(g:ai)(x:Nat):Bool:=decide (2*I g<=x)||(match g[oG g x]? with|some l=>l.aB&&l.over|none=>false)
def mN(g:ai)(i:Nat):Int×Int:=match g[i]? with|some l=>if l.aB then(1,l.id)else(0,i)|none=>(2,0)
def C8(h:v<I g)(f:Bool):oG g (jF (I g) v f)=v:=by
 have A:=Bj h f;unfold oG;rw[aC J];unfold jF;cases f with
 |true=>simp only[if_true];rw[aD J,show 2*((v+I g-1)%I g)/2=(v+I g-1)%I g by omega,xU h]
 |false=>simp only[eI,if_false];rw[aC J];omega
def aan{l:aa}(hl:g[v]?=some l)(f:Bool):Dd g (jF (I g) v f)=(l.aB&&l.over):=by have h:=(cn.1 hl).1;have A:=Bj h f;unfold Dd;rw[C8 h,hl];have:¬2*I g<=jF (I g) v f:=J;simp[this]
def anm(k:Nat):oG g (2*I g+2*k)=(aE g).getD ((k+1)%I (aE g)) 0:=by unfold oG;rw[aD J,aD J,show(2*I g+2*k-2*I g)/2=k by omega]
def akL(k:Nat):oG g (2*I g+2*k+1)=(aE g).getD k 0:=by unfold oG;rw[aD J,aC J,show(2*I g+2*k+1-2*I g)/2=k by omega]
def ab6(h:2*I g<=x):Dd g x:=by unfold Dd;simp[h]
def acu(ok:gh F g)(z:x<bt g):mN g (oG g (rv (bz g x)))=mN g (oG g x)/\Dd g (rv (bz g x))= !Dd g x:=by
 unfold bt at z;rcases I9 x (2*I g)with c|c
 .have H:(if x%2=0 then(x/2+1)%I g else x/2)<I g:=by
   have:=fk (x/2+1) (show 0<I g by omega);split<;>omega
  rw[HI c];generalize(if x%2=0 then(x/2+1)%I g else x/2)=v at H;generalize(x%2==0)=fw;obtain⟨l,hl⟩:=aT H;rw[C8 H,aan hl];rcases ok.kinds l (bR hl)with hp|j
  .obtain⟨u,n⟩:=Fq ok hl hp;rw[pR hp,GI hl hp];by_cases d:(bN g v==fw)
   .rw[aD d,show 2*I g+2*(aE g).idxOf v=2*(I g+(aE g).idxOf v) by omega,tp,show 2*(I g+(aE g).idxOf v)+1=2*I g+2*(aE g).idxOf v+1 by omega,akL,n,ab6 J];exact⟨rfl,rfl⟩
   rw[aC d,show 2*I g+2*(((aE g).idxOf v+I (aE g)-1)%I (aE g))+1=2*(I g+((aE g).idxOf v+I (aE g)-1)%I (aE g))+1 by omega,A6,
    show 2*(I g+((aE g).idxOf v+I (aE g)-1)%I (aE g))=2*I g+2*(((aE g).idxOf v+I (aE g)-1)%I (aE g)) by omega,anm,xU u,n,ab6 J]
   exact⟨rfl,rfl⟩
  obtain⟨u,m,h,E,A,M,L⟩:=qM ok.cr hl j;have y:=(cn.1 h).1;rw[yB hl j,u9,C8 y,aan h];unfold mN;simp[hl,h,j,E,A,M]
 rw[ab6 c];have f:∀k,k<I (aE g)->∀D,mN g (oG g (rv (eZ (I g) ((aE g).getD k 0) D)))=mN g ((aE g).getD k 0)/\Dd g (rv (eZ (I g) ((aE g).getD k 0) D))= !true:=λk B D=>by obtain⟨l,hl,hp⟩:=yW B;rw[u9,C8 (cn.1 hl).1,aan hl,pR hp];exact⟨rfl,rfl⟩
 rcases tD x with d|d
 .rw[show x=2*I g+2*((x-2*I g)/2) by omega,EY,anm];exact f _ (fk _ J) _
 rw[show x=2*I g+2*((x-2*I g)/2)+1 by omega,D1,akL];exact f _ J _
end
def aw8{next:Nat->Nat}(A:∀x,x<N->next x<N)(h:∀x,x<N->cH R x (next x)):∀(k x:Nat) (S:dS),x<N->∀y∈(g_ next k x S).1,cH R x y:=by
 intro k
 induction k with
 |zero=>intro x S _ y H;simp[g_]at H
 |succ k g=>
  intro x S f y H;unfold g_ at H;split at H
  .simp at H
  rcases dr.1 H with rfl|H
  .exact .refl _
  exact(h x f).trans (g (next x) _ (A x f) y H)
def aA5{next:Nat->Nat}(m:Bu next u N)(h:∀x,x<N->cH R x (next x)):∀k,k<=N->∀w∈(fe next N k).1,∀x∈w,∀y∈w,cH R x y:=by
 intro k
 induction k with
 |zero=>intro _ w H;simp[fe]at H
 |succ k n=>
  intro v w H x g y f;rw[zO]at H;unfold wz at H;split at H
  .exact n J w H x g y f
  rcases iW.1 H with H|H
  .exact n J w H x g y f
  simp only[rb]at H;subst H;have j:=aw8 (R:=R) m.lt h ((fe next N k).2.length+1) k (fe next N k).2 J;exact(j x g).symm.trans (j y f)
def awZ{next:Nat->Nat}(m:Bu next u N):∀k,k<=u->∀w∈(fe next N k).1,∀x∈w,next x∈w:=by
 intro k
 induction k with
 |zero=>intro _ w h;simp[fe]at h
 |succ k j=>
  intro v w h x H;obtain⟨y,_⟩:=Ux m k J;obtain⟨f,_⟩:=Ux m (k+1) v;rw[zO]at h f;unfold wz at h f;cases ae:(fe next N k).2.getD k true with
  |true=>rw[ae,aD rfl]at h;exact j J w h x H
  |false=>
   rw[ae,aC U]at h f;rcases iW.1 h with h|h
   .exact j J w h x H
   simp only[rb]at h;subst h;obtain⟨g1,z,n⟩:=aja next ((fe next N k).2.length+1) k (fe next N k).2;have D:x<N:=by have:=Vh (g1 x H);have:=Hj next N k;omega
   have g:=y x D;have E:=f x D;rw[n,n,g1 x H]at E;rw[g1 x H]at g;simp only[Di,H,decide_true,<-g]at E;exact pJ E.symm
def w8{next:Nat->Nat}(m:Bu next u N){w:aF}(h:w∈fz next N)(H:x∈w):next x∈w:=by unfold fz at h;rw[Y8 m N m.le (c3 _)]at h;exact awZ m u (c3 _) w h x H
def Sq{next:Nat->Nat}(m:Bu next u N)(h:∀x,x<N->cH R x (next x)){w:aF}(H:w∈fz next N){x:Nat}(g:x∈w)(f:y∈w):cH R x y:=aA5 m h N (c3 _) w H x g y f
def A_(L:List aF)(x:Nat):Nat:=L.findIdx λw=>w.contains x
def Ix(h:L.flatten.Nodup){i:Nat}{w:aF}(H:L[i]?=some w)(f:x∈w):A_ L x=i:=by
 have g:w.contains x:=by simpa using f
 have A:L.findIdx (λw=>w.contains x)<I L:=amZ ⟨w,bR H,g⟩;have hp:=WD (w:=A);have j:L[L.findIdx λw=>w.contains x]?=some (L[L.findIdx λw=>w.contains x]'A):=ue A;exact aj0 h j H (by simpa using hp) f
def agP:∀ {L:List aF},L.flatten.Nodup->(∀w∈L,w≠[])->((L.map (·.headD 0)).map (A_ L))=List.range (I L):=by
 intro L h A;apply yV;intro i;rw[ig,ig];by_cases H:i<I L
 .have e:=ue H;rw[e,qI H];simp only[rm];have f:=A _ (bR e);rw[Ix h e (x:=L[i].headD 0) (by
   cases g:L[i]with
   |nil=>exact absurd g f
   |cons a r=>simp)]
 rw[pF J,pF (by simp;omega)];rfl
def alm{α:Type}{f:Nat->α×Bool}{g:Nat->α}{c:Nat->Bool}(j:∀x,f (2*x)=(g x,c x))(n:∀x,f (2*x+1)=(g x,!c x)):∀ {L:aF},(L.map g).Nodup->((L.flatMap λx=>[2*x,2*x+1]).map f).Nodup:=by
 intro L
 induction L with
 |nil=>intro _;exact qF
 |cons a L m=>
  intro h;rw[eJ,nR]at h;have m:=m h.2;have D:∀b,(g a,b)∉(L.flatMap λx=>[2*x,2*x+1]).map f:=by
   intro b B;obtain⟨y,H,e⟩:=dY.1 B;obtain⟨x,E,H⟩:=Lj.1 H;have:g x=g a:=by
    simp only[dr,ic,or_false]at H;rcases H with rfl|rfl
    .rw[j]at e;exact congrArg Prod.fst e
    rw[n]at e;exact congrArg Prod.fst e
   exact h.1 (dY.2 ⟨x,E,this⟩)
  rw[Jm,kP,Cc];refine⟨?_,m,?_⟩
  .simp only[eJ,lr,j,n,nR,rb,ic,not_false_eq_true,qF,and_true];intro e;have:=congrArg Prod.snd e;revert this;cases c a<;>simp
  intro u z v A e;subst e;simp only[eJ,lr,j,n,dr,ic,or_false]at z;rcases z with rfl|rfl
  .exact D _ A
  exact D _ A
def ahR:∀L:aF,I (L.flatMap λx=>[2*x,2*x+1])=2*I L:=by
 intro L
 induction L with
 |nil=>rfl
 |cons a L f=>rw[Jm,gT,f];simp only[dW,fU];omega
def alc{L:aF}(h:∀x∈L,x<N):∀y∈(L.flatMap λx=>[2*x,2*x+1]),y<2*N:=by intro y H;obtain⟨x,f,H⟩:=Lj.1 H;have:=h x f;simp only[dr,ic,or_false]at H;rcases H with rfl|rfl<;>omega
def jd (b:Bool)(s:Nat):Nat:=if b then 1-s else s
def A2{b:Bool}{s:Nat}(h:s<2):jd b s<2:=by unfold jd;split<;>omega
def KQ{b:Bool}{s:Nat}(h:s<2):jd b (jd b s)=s:=by unfold jd;cases b<;>simp;omega
def qt(p:Nat->Bool)(y:Nat):Nat:=2*rv (y/2)+jd (p (y/2)) (y%2)
def vC(p:Nat->Bool)(aJ:Nat->Nat)(y:Nat):Nat:=2*aJ (rv (y/2))+jd (p (y/2)) (y%2)
def wV(p:Nat->Bool)(k:Nat):rV:=(List.range k).flatMap λe=>[(4*e,qt p (4*e)),(4*e+1,qt p (4*e+1))]
def Jf(p:Nat->Bool)(e:Nat):qt p (4*e)=if p (2*e)then 4*e+3 else 4*e+2:=by unfold qt jd;rw[show 4*e/2=2*e by omega,tp,show 4*e%2=0 by omega];split<;>omega
def Kf(p:Nat->Bool)(e:Nat):qt p (4*e+1)=if p (2*e)then 4*e+2 else 4*e+3:=by unfold qt jd;rw[show(4*e+1)/2=2*e by omega,tp,show(4*e+1)%2=1 by omega];split<;>omega
def akD{p:Nat->Bool}(hp:∀x,p (rv x)=p x)(e:Nat):qt p (4*e+2)=if p (2*e)then 4*e+1 else 4*e:=by unfold qt jd;rw[show(4*e+2)/2=2*e+1 by omega,A6,show(4*e+2)%2=0 by omega,<-hp (2*e),tp];split<;>omega
def aeo{p:Nat->Bool}(hp:∀x,p (rv x)=p x)(e:Nat):qt p (4*e+3)=if p (2*e)then 4*e else 4*e+1:=by unfold qt jd;rw[show(4*e+3)/2=2*e+1 by omega,A6,show(4*e+3)%2=1 by omega,<-hp (2*e),tp];split<;>omega
def aeG(p:Nat->Bool)(k:Nat):wV p (k+1)=wV p k++[(4*k,qt p (4*k)),(4*k+1,qt p (4*k+1))]:=by unfold wV;rw[rN,List.flatMap_append];simp
def axm(p:Nat->Bool)(k:Nat):I (wV p k)=2*k:=by
 induction k with
 |zero=>rfl
 |succ k f=>rw[aeG,gT,f];simp only[dW,fU];omega
def aAm(p:Nat->Bool)(k:Nat):∀t∈wV p k,t.1<4*k/\t.2<4*k:=by intro t f;obtain⟨e,H,h⟩:=Lj.1 f;have H:=gN.1 H;simp only[dr,ic,or_false,Jf,Kf]at h;rcases h with rfl|rfl<;>refine⟨by simp only;omega,?_⟩<;>simp only<;>split<;>omega
def aqK(p:Nat->Bool){k e:Nat}(h:e<k):(4*e,qt p (4*e))∈wV p k/\(4*e+1,qt p (4*e+1))∈wV p k:=
 ⟨Lj.2 ⟨e,gN.2 h,aP⟩,Lj.2 ⟨e,gN.2 h,aP⟩⟩
def atK{p:Nat->Bool}(hp:∀x,p (rv x)=p x)(q:Nat->Nat):∀k y,(wV p k).foldl tr q y=if y<4*k then q (qt p y)else q y:=by
 intro k
 induction k with
 |zero=>intro y;simp[wV]
 |succ k v=>
  intro y;rw[aeG,BN,sh,sh,IV,KP,KP,v,Jf,Kf];by_cases c:y<4*k
  .have z:(if y=4*k+1 then(if p (2*k)then 4*k+2 else 4*k+3)else if y=(if p (2*k)then 4*k+2 else 4*k+3)then 4*k+1 else y)=y:=by rw[aC J,aC (by split<;>omega)]
   rw[z];have u:(if y=4*k then(if p (2*k)then 4*k+3 else 4*k+2)else if y=(if p (2*k)then 4*k+3 else 4*k+2)then 4*k else y)=y:=by rw[aC J,aC (by split<;>omega)]
   rw[u,aD c,aD J]
  have f:=akD hp k;have h:=aeo hp k;have A:=Jf p k;have g:=Kf p k;cases H:p (2*k)with
  |true=>
   rw[H]at A g f h;simp only[if_true]at A g f h |-;by_cases m:y=4*k
   .subst m;rw[A,aC (show¬4*k=4*k+1 by omega),aC (show¬4*k=4*k+2 by omega),aD rfl,aC J,aD J]
   by_cases n:y=4*k+1
   .subst n;rw[g,aD rfl,aC (show¬4*k+2=4*k by omega),aC (show¬4*k+2=4*k+3 by omega),aC J,aD J]
   by_cases j:y=4*k+2
   .subst j;rw[f,aC (show¬4*k+2=4*k+1 by omega),aD rfl,aC (show¬4*k+1=4*k by omega),aC (show¬4*k+1=4*k+3 by omega),aC J,aD J]
   by_cases c9:y=4*k+3
   .subst c9;rw[h,aC (show¬4*k+3=4*k+1 by omega),aC (show¬4*k+3=4*k+2 by omega),aC (show¬4*k+3=4*k by omega),aD rfl,aC J,aD J]
   rw[aC n,aC j,aC m,aC c9,aC c,aC J]
  |false=>
   rw[H]at A g f h;simp only[eI,if_false]at A g f h |-;by_cases m:y=4*k
   .subst m;rw[A,aC (show¬4*k=4*k+1 by omega),aC (show¬4*k=4*k+3 by omega),aD rfl,aC J,aD J]
   by_cases n:y=4*k+1
   .subst n;rw[g,aD rfl,aC (show¬4*k+3=4*k by omega),aC (show¬4*k+3=4*k+2 by omega),aC J,aD J]
   by_cases c9:y=4*k+3
   .subst c9;rw[h,aC (show¬4*k+3=4*k+1 by omega),aD rfl,aC (show¬4*k+1=4*k by omega),aC (show¬4*k+1=4*k+2 by omega),aC J,aD J]
   by_cases j:y=4*k+2
   .subst j;rw[f,aC (show¬4*k+2=4*k+1 by omega),aC (show¬4*k+2=4*k+3 by omega),aC (show¬4*k+2=4*k by omega),aD rfl,aC J,aD J]
   rw[aC n,aC c9,aC m,aC j,aC c,aC J]
def arA{p:Nat->Bool}(hp:∀x,p (rv x)=p x)(aJ:Nat->Nat){k:Nat}(h:y<4*k):(wV p k).foldl tr (vC p aJ) y=2*aJ (y/2)+y%2:=by
 rw[atK hp,aD h];unfold vC;have g:jd (p (y/2)) (y%2)<2:=A2 J;have f:qt p y/2=rv (y/2):=by unfold qt;omega
 have H:qt p y%2=jd (p (y/2)) (y%2):=by unfold qt;omega
 rw[f,H,w_,hp,KQ J]
def alh{α β:Type}{P:α->β->Prop}{f:β->α}(j:∀a b,P a b->f b=a):∀ {L:List α},(∀a∈L,∃b,P a b)->∃M:List β,M.map f=L/\ ∀b∈M,∃a∈L,P a b:=by
 intro L
 induction L with
 |nil=>intro _;exact⟨[],rfl,aP⟩
 |cons a L n=>
  intro h;obtain⟨b,g⟩:=h a aP;obtain⟨M,u,m⟩:=n λx H=>h x (by simp[H]);refine⟨b::M,by rw[eJ,u,j a b g],λx H=>?_⟩;rcases dr.1 H with rfl|H
  .exact⟨a,aP,g⟩
  obtain⟨c,v,hp⟩:=m x H;exact⟨c,by simp[v],hp⟩
section
variable {F:Nat} {g:ai}
def ao0(ok:gh F g):(aE g).Nodup:=by have:=agH ok.ax (I g) (c3 _);refine Y9 (λ{a b} h e=>?_) this;subst e;exact absurd h (Nat.lt_irrefl _)
def Ru(ok:gh F g):I g=an aa.aI g+an aa.aB g:=by
 have:∀l:ai,(∀x∈l,x.aI\/x.aB)->I l=an aa.aI l+an aa.aB l:=by
  intro l
  induction l with
  |nil=>intro _;rfl
  |cons a l f=>
   intro h;have f:=f λx H=>h x (by simp[H]);unfold an at f |-;rw[tA,tA,dW,f];rcases h a aP with c|c
   .rw[c,pR c];simp;omega
   have:a.aI=false:=by cases hp:a.aI;rfl;rw[pR hp]at c;cases c
   rw[c,this];simp;omega
 exact this g ok.kinds
def al4(ok:gh F g):∃L:aF,I L=an aa.aI g+an aa.aB g/2/\(∀j∈L,j<I g)/\(L.map (mN g)).Nodup:=by
 have x:=ok.cr;unfold oo at x;simp only[c6,dk]at x;have v:=x.2
 let ids:yf:=(gZ g (I g)).map λid=>(1,id)
 have A:∀a∈ids,∃j,(mN g j=a/\j<I g):=by intro a u;obtain⟨id,H,rfl⟩:=dY.1 u;obtain⟨j,o,n,E⟩:=(HH (c3 _)).1 H;obtain⟨m,O,D,N,_⟩:=C4 E;refine⟨j,?_,n⟩;unfold mN;rw[O];simp[D,N]
 obtain⟨M,y,z⟩:=alh (P:=λa j=>mN g j=a/\j<I g) (f:=mN g) (λa b h=>h.1) A;have kK:∀i∈aE g,i<I g/\mN g i=(0,(i:Int)):=λi H=>by obtain⟨l,hl,hp⟩:=uk.1 H;refine⟨(cn.1 hl).1,?_⟩;unfold mN;rw[hl];simp[pR hp]
 refine⟨aE g++M,?_,λj n=>?_,?_⟩
 .have:I M=I (gZ g (I g)):=by
   have:=congrArg List.length y
   simpa [ids]using this
  rw[gT,this,v,Lb]
 .rcases iW.1 n with n|n
  .exact(kK j n).1
  obtain⟨_,_,h⟩:=z j n;exact h.2
 rw[kP,y,Cc];refine⟨?_,?_,?_⟩
 .have:(aE g).map (mN g)=(aE g).map λi:Nat=>((0:Int),(i:Int)):=xx λi H=>(kK i H).2;rw[this];refine zk.2 (Y9 (λ{a b} h e=>h ?_) (ao0 ok));have:=congrArg Prod.snd e;simp only at this;omega
 .refine zk.2 (Y9 (λ{a b} h e=>h ?_) (T5 g (I g)));exact congrArg Prod.snd e
 intro a u b B e;obtain⟨i,H,rfl⟩:=dY.1 u;obtain⟨id,_,rfl⟩:=dY.1 B;rw[(kK i H).2]at e;have:=congrArg Prod.fst e;simp at this
def aC6(ok:gh F g)(p:Nat->Bool):uj (2*bt g) (vC p (bz g)):=by
 have m:=qS ok;have u:bt g=2*(I g+I (aE g)):=by unfold bt;omega
 have f:∀y,y<2*bt g->rv (y/2)<bt g:=λy h=>by rw[u];exact wT J
 have H:∀y,jd (p (y/2)) (y%2)<2:=λy=>A2 J;refine⟨λy h=>?_,λx y z h e=>?_⟩
 .have:=m.lt _ (f y h);have:=H y;unfold vC;omega
 unfold vC at e;have:=H x;have:=H y;have j:bz g (rv (x/2))=bz g (rv (y/2)):=J;have v:=m.inj _ _ (f x z) (f y h) j;have n:x/2=y/2:=by rw[<-w_ (x/2),v,w_]
 have E:jd (p (x/2)) (x%2)=jd (p (y/2)) (y%2):=J;rw[n]at E;have A:x%2=y%2:=by rw[<-KQ (b:=p (y/2)) (s:=x%2) J,E,KQ J]
 omega
end
section
variable {F:Nat} {g:ai} {p:Nat->Bool}
abbrev vT(ls:ai)(p:Nat->Bool):Nat->Nat->Prop:=AA (2*bt ls) (vC p (bz ls)) (wV p (I ls+I (aE ls)))
def E2(g:ai):bt g=2*(I g+I (aE g)):=by unfold bt;omega
def azo(hp:∀x,p (rv x)=p x)(j:y<2*bt g):cH (vT g p) y (qt p y):=by
 have m:=E2 g;obtain⟨H,h⟩:=aqK p (k:=I g+I (aE g)) (e:=y/4) J;have r1:cH (vT g p) (4*(y/4)) (qt p (4*(y/4))):=.rel (.inr H);have R:cH (vT g p) (4*(y/4)+1) (qt p (4*(y/4)+1)):=.rel (.inr h);have A:=akD hp (y/4);have f:=aeo hp (y/4);rcases(by omega:y=4*(y/4)\/y=4*(y/4)+1\/y=4*(y/4)+2\/y=4*(y/4)+3)with e|e|e|e
 .rw[<-e]at r1;exact r1
 .rw[<-e]at R;exact R
 .rw[<-e]at A;rw[A];rw[Jf]at r1;rw[Kf]at R;by_cases c:p (2*(y/4))
  .rw[aD c]at R |-;rw[<-e]at R;exact R.symm
  rw[aC c]at r1 |-;rw[<-e]at r1;exact r1.symm
 rw[<-e]at f;rw[f];rw[Jf]at r1;rw[Kf]at R;by_cases c:p (2*(y/4))
 .rw[aD c]at r1 |-;rw[<-e]at r1;exact r1.symm
 rw[aC c]at R |-;rw[<-e]at R;exact R.symm
def ON(hp:∀x,p (rv x)=p x){x s:Nat}(h:x<bt g)(ae:s<2):cH (vT g p) (2*x+s) (2*rv x+jd (p x) s):=by have:=azo (g:=g) hp (y:=2*x+s) J;unfold qt at this;rwa[show(2*x+s)/2=x by omega,show(2*x+s)%2=s by omega]at this
def Pj(hp:∀x,p (rv x)=p x){x s:Nat}(H:x<bt g)(ae:s<2):cH (vT g p) (2*x+s) (2*bz g x+s):=by
 have h:=E2 g;have f:jd (p x) s<2:=A2 ae;refine(ON hp H ae).trans (.rel (.inl ⟨?_,?_⟩))
 .have:rv x<bt g:=by rw[h];exact wT J
  omega
 unfold vC;rw[show(2*rv x+jd (p x) s)/2=rv x by omega,show(2*rv x+jd (p x) s)%2=jd (p x) s by omega,w_,hp,KQ ae]
def C7(g:ai)(p:Nat->Bool)(x:Nat):Prop:= ∃b,∀s,s<2->cH (vT g p) (2*x+s) (jd b s)
def azM(g:ai)(p:Nat->Bool):C7 g p 0:=⟨false,λs _=>by rw[show 2*0+s=s by omega];exact .refl _⟩
def afO(a b:Bool){s:Nat}(h:s<2):jd a (jd b s)=jd (a !=b) s:=by unfold jd;cases a<;>cases b<;>simp;omega
def alU(hp:∀x,p (rv x)=p x){x:Nat}(f:x<bt g)(h:C7 g p x):C7 g p (rv x):=by obtain⟨b,h⟩:=h;refine⟨b !=p x,λs ae=>?_⟩;have H:=(ON hp f (s:=jd (p x) s) (A2 ae)).symm.trans (h (jd (p x) s) (A2 ae));rwa[KQ ae,afO _ _ ae]at H
def aly(hp:∀x,p (rv x)=p x){x:Nat}(H:x<bt g)(h:C7 g p x):C7 g p (bz g x):=by obtain⟨t,h⟩:=h;exact⟨t,λs ae=>(Pj hp H ae).symm.trans (h s ae)⟩
def atC(hp:∀x,p (rv x)=p x){x:Nat}(H:x<bt g)(h:C7 g p (bz g x)):C7 g p x:=by obtain⟨t,h⟩:=h;exact⟨t,λs ae=>(Pj hp H ae).trans (h s ae)⟩
def aaa(hp:∀x,p (rv x)=p x)(ok:gh F g){x:Nat}(j:x<bt g):C7 g p x:=by
 have m:=qS ok;have B:=E2 g;have E:∀y,y<bt g->rv y<bt g:=λy h=>by rw[B]at h |-;exact wT h
 have f:∀i,i<I g->C7 g p (2*i):=by
  intro i
  induction i with
  |zero=>intro _;exact azM g p
  |succ i D=>
   intro A;have v:=D J;have H:2*i<bt g:=J;have z:=aly hp H v;have n:=m.lt _ H;have u:=aly hp (E _ n) (alU hp n z);have e:2*i=jF (I g) (i+1) true:=by unfold jF;rw[aD rfl,show i+1+I g-1=i+I g by omega,v8,jh J]
   rw[e,acO ok A]at u;exact u
 have str:∀y,y<2*I g->C7 g p y:=λy h=>by
  rcases tD y with c|c
  .rw[show y=2*(y/2) by omega];exact f _ J
  have:=alU hp (x:=2*(y/2)) J (f (y/2) J);rw[tp]at this;rw[show y=2*(y/2)+1 by omega];exact this
 rcases I9 x (2*I g)with c|c
 .exact str x c
 exact atC hp j (str _ (m.ax x j c))
def aez(X:cE F g)(hp:∀x,p (rv x)=p x){c:Nat->Bool}(hc:∀x,x<bt g->c (rv (bz g x))=(c x !=p x)):¬cH (vT g p) 0 1:=by
 intro z;have ok:=X.ok;have hN:=E2 g;have Bm:∀y,y<bt g->rv y<bt g:=λy H=>by rw[hN]at H |-;exact wT H
 obtain⟨m,Z⟩:=GG (bz g) (bt g);have E:=akA (wV p (I g+I (aE g))) (vC p (bz g)) (aC6 ok p) (λt v=>by have:=aAm p _ t v;omega)
 rw[axm]at E;have K1:bY (cH (vT g p)) (2*bt g)<=1:=akz λy H=>by
  obtain⟨b,v⟩:=aaa hp ok (x:=y/2) J;have e:=v (y%2) J;rw[show 2*(y/2)+y%2=y by omega]at e;have hf:jd b (y%2)<2:=A2 J;rcases(by omega:jd b (y%2)=0\/jd b (y%2)=1)with k|k
  .rw[k]at e;exact e
  rw[k]at e;exact e.trans z.symm
 have K2:2*gC g<=bY (cH (eM (2*bt g) ((wV p (I g+I (aE g))).foldl tr (vC p (bz g))))) (2*bt g):=by
  have sY:∀w∈fz (bz g) (bt g),w≠[]:=λw A=>by obtain⟨⟨d,t,e,_⟩,_⟩:=yh ok w A;rw[e];simp
  have:=U0 (R:=eM (2*bt g) ((wV p (I g+I (aE g))).foldl tr (vC p (bz g)))) (f:=λy=>(A_ (fz (bz g) (bt g)) (y/2),decide (y%2=1))) (n:=2*bt g)
   (h:=((fz (bz g) (bt g)).map (·.headD 0)).flatMap λx=>[2*x,2*x+1]) ?_ ?_ ?_
  .rw[ahR,cY]at this;exact this
  .rintro a b ⟨ha,rfl⟩
   rw[arA hp _ J];have H:a/2<bt g:=J;obtain⟨u,O,N⟩:=EE.1 (Z _ H);obtain⟨i,Q⟩:=j9 O;simp only[show(2*bz g (a/2)+a%2)/2=bz g (a/2) by omega,show(2*bz g (a/2)+a%2)%2=a%2 by omega];rw[Ix m Q N,Ix m Q (w8 (qS ok) O N)]
  .refine alc λx B=>?_;obtain⟨w,A,rfl⟩:=dY.1 B;obtain⟨⟨d,t,e,hd⟩,_⟩:=yh ok w A;rw[e];simp only[List.headD_cons];omega
  refine alm (g:=A_ (fz (bz g) (bt g))) (c:=λ_=>false) (λx=>?_) (λx=>?_) ?_
  .simp only[show 2*x/2=x by omega,show 2*x%2=0 by omega];simp
  .simp only[show(2*x+1)/2=x by omega,show(2*x+1)%2=1 by omega];simp
  rw[agP m sY];exact Cq
 have K3:2*(an aa.aI g+an aa.aB g/2)<=bY (cH (eM (2*bt g) (vC p (bz g)))) (2*bt g):=by
  obtain⟨L,l1,T,l3⟩:=al4 ok;have:=U0 (R:=eM (2*bt g) (vC p (bz g))) (f:=λy=>(mN g (oG g (rv (y/2))),(c (rv (y/2))!=decide (y%2=1)))) (n:=2*bt g)
   (h:=(L.map (2* ·)).flatMap λx=>[2*x,2*x+1]) ?_ ?_ ?_
  .rw[ahR,cY,l1]at this;exact this
  .rintro a b ⟨ha,rfl⟩
   have H:rv (a/2)<bt g:=Bm _ J;have t1:=(acu ok H).1;have Y:=hc _ H;have hf:jd (p (a/2)) (a%2)<2:=A2 J;unfold vC;simp only[show(2*bz g (rv (a/2))+jd (p (a/2)) (a%2))/2=bz g (rv (a/2)) by omega,show(2*bz g (rv (a/2))+jd (p (a/2)) (a%2))%2=jd (p (a/2)) (a%2) by omega,t1,Y,hp];rcases tD a with k|k<;>rw[k]<;>cases c (rv (a/2))<;>cases p (a/2)<;>rfl
  .refine alc λx B=>?_;obtain⟨j,D,rfl⟩:=dY.1 B;have:=T j D;omega
  refine alm (g:=λx=>mN g (oG g (rv x))) (c:=λx=>c (rv x)) (λx=>?_) (λx=>?_) ?_
  .simp only[show 2*x/2=x by omega,show 2*x%2=0 by omega];simp
  .simp only[show(2*x+1)/2=x by omega,show(2*x+1)%2=1 by omega];simp
  rw[nU];have:L.map ((λx=>mN g (oG g (rv x))) ∘ (2* ·))=L.map (mN g):=xx λj D=>by have:=C8 (g:=g) (T j D) false;simp only[Function.comp_apply,tp];rw[show 2*j+1=jF (I g) j false from rfl,this]
  rw[this];exact l3
 have ab:=Ru ok;have kK:=Lb (L:=g);have Mm:=X.nw;have M:=ok.cr;unfold oo at M;simp only[c6,dk]at M;have ez:=M.1.1;have E:bY (cH (eM (2*bt g) ((wV p (I g+I (aE g))).foldl tr (vC p (bz g))))) (2*bt g)+bY (cH (eM (2*bt g) (vC p (bz g)))) (2*bt g)<=2*bY (cH (vT g p)) (2*bt g)+2*(I g+I (aE g)):=E;omega
def ajD(n:cE F g)(hp:∀x,p (rv x)=p x){w:aF}(f:w∈fz (bz g) (bt g)){x s:Nat}(j:x∈w)(H:y∈w)(ae:s<2):cH (vT g p) (2*x+s) (2*y+s):=by
 have base:∀a b,cH (λu v=>cH (vT g p) (2*u+s) (2*v+s)) a b->cH (vT g p) (2*a+s) (2*b+s):=by
  intro a b h
  induction h with
  |rel r=>exact r
  |refl a=>exact .refl _
  |symm _ m=>exact m.symm
  |trans _ _ i1 i2=>exact i1.trans i2
 exact base _ _ (Sq (qS n.ok) (R:=λu v=>cH (vT g p) (2*u+s) (2*v+s)) (λy H=>.rel (Pj hp H ae)) f j H)
def awE(u:cE F g)(hp:∀x,p (rv x)=p x){c:Nat->Bool}(j:∀x,x<bt g->c (rv (bz g x))=(c x !=p x)){x:Nat}(n:x<bt g)(h:cH (vT g p) (2*x+0) (2*x+1)):False:=by
 obtain⟨b,H⟩:=aaa hp u.ok n;have f:=H 0 U;have m:=H 1 U;have E:=f.symm.trans (h.trans m);refine aez u hp j ?_;cases b with
 |true=>exact E.symm
 |false=>exact E
def auX(f:cE F g)(h:x<bt g){w:aF}(H:w∈fz (bz g) (bt g))(m:x∈w)(j:rv x∈w):False:=by
 have hp:∀x:Nat,(λ_:Nat=>true) (rv x)=(λ_:Nat=>true) x:=λ_=>rfl;have n:∀x,x<bt g->Dd g (rv (bz g x))=(Dd g x !=(λ_:Nat=>true) x):=λx h=>by rw[(acu f.ok h).2];cases Dd g x<;>rfl
 have E:=ajD (p:=λ_=>true) f hp H m j (s:=0) U;have u:=ON (g:=g) (p:=λ_=>true) hp h (s:=1) U;exact awE (p:=λ_=>true) f hp n h (E.trans u.symm)
end
section
variable {F:Nat} {g:ai}
def sS(g:ai)(x:Nat):Bool:=decide (2*I g<=x)
def B5(g:ai)(x:Nat):Bool:=if 2*I g<=x then x%2==1 else match g[oG g x]? with|some l=>l.aI&&(bN g (oG g x)==(x%2==0))|none=>false
def an0(x:Nat):sS g (rv x)=sS g x:=by unfold sS rv;rw[pS];simp only[iI];split<;>omega
def SG{l:aa}(hl:g[v]?=some l)(f:Bool):B5 g (jF (I g) v f)=(l.aI&&(bN g v==f)):=by
 have h:=(cn.1 hl).1;have A:=Bj h f;unfold B5;rw[C8 h,hl,aC J];have:(jF (I g) v f%2==0)=f:=by unfold jF;cases f<;>simp
 rw[this]
def avW(ok:gh F g)(n:x<bt g):B5 g (rv (bz g x))=(B5 g x !=sS g x):=by
 unfold bt at n;rcases I9 x (2*I g)with c|c
 .have H:sS g x=false:=by unfold sS;simp;omega
  rw[H];have j:(if x%2=0 then(x/2+1)%I g else x/2)<I g:=by have:=fk (x/2+1) (show 0<I g by omega);split<;>omega
  rw[HI c];generalize(if x%2=0 then(x/2+1)%I g else x/2)=v at j;generalize(x%2==0)=fw;obtain⟨l,hl⟩:=aT j;rw[SG hl];rcases ok.kinds l (bR hl)with hp|h
  .obtain⟨z,D⟩:=Fq ok hl hp;rw[GI hl hp,hp];by_cases d:(bN g v==fw)
   .rw[aD d,d,show 2*I g+2*(aE g).idxOf v=2*(I g+(aE g).idxOf v) by omega,tp];unfold B5;rw[aD J];have:(2*(I g+(aE g).idxOf v)+1)%2=1:=J;rw[this];rfl
   rw[aC d,aa0.2 d,show 2*I g+2*(((aE g).idxOf v+I (aE g)-1)%I (aE g))+1=2*(I g+((aE g).idxOf v+I (aE g)-1)%I (aE g))+1 by omega,A6];unfold B5;rw[aD J];have:(2*(I g+((aE g).idxOf v+I (aE g)-1)%I (aE g)))%2=0:=J;rw[this];rfl
  obtain⟨z,m,u,M,E,B,A⟩:=qM ok.cr hl h;have hp:l.aI=false:=by cases hp:l.aI;rfl;rw[pR hp]at h;cases h
  have y:m.aI=false:=by cases hp:m.aI;rfl;rw[pR hp]at M;cases M
  rw[yB hl h,u9,SG u,hp,y];rfl
 have H:sS g x:=by unfold sS;simpa using c
 rw[H];rcases tD x with d|d
 .have f:=fk ((x-2*I g)/2+1) (show 0<I (aE g) by omega);obtain⟨l,hl,hp⟩:=yW f;have e:B5 g x=false:=by unfold B5;rw[aD c,d];rfl
  rw[e,show x=2*I g+2*((x-2*I g)/2) by omega,EY,u9,MK];rw[SG hl,hp];simp
 have f:(x-2*I g)/2<I (aE g):=J;obtain⟨l,hl,hp⟩:=yW f;have e:B5 g x:=by unfold B5;rw[aD c,d];rfl
 rw[e,show x=2*I g+2*((x-2*I g)/2)+1 by omega,D1,u9];rw[SG hl,hp];cases bN g ((aE g).getD ((x-2*I g)/2) 0)<;>rfl
abbrev Ri(ls:ai):Nat->Nat->Prop:=vT ls (sS ls)
def anw(X:cE F g){s:Nat}(j:x<2*I g)(ae:s<2):cH (Ri g) (2*x+s) (jd (bN g (x/2+1)!=bN g 1) s):=by
 have ok:=X.ok;have m:=qS ok;have N:=E2 g;have hp:=an0 (g:=g);have str:∀y,y<2*I g->sS g y=false:=λy Z=>by unfold sS;simp;omega
 have f:∀i,i<I g->∀s,s<2->cH (Ri g) (2*(2*i)+s) (jd (bN g (i+1)!=bN g 1) s):=by
  intro i
  induction i with
  |zero=>intro _ s _;simp only[lq];cases bN g 1<;>(rw[show 2*(2*0)+s=s by omega];exact .refl _)
  |succ i Q=>
   intro E s ae;obtain⟨l,hl⟩:=aT E;have e:2*i=jF (I g) (i+1) true:=by unfold jF;rw[aD rfl,show i+1+I g-1=i+I g by omega,v8,jh J]
   have z:=acO ok E true;rw[<-e]at z;have H:2*i<bt g:=J;have v:=m.lt _ H;have O:rv (bz g (2*i))<bt g:=by rw[N]at v |-;exact wT v
   have step:∀t,t<2->cH (Ri g) (2*(2*i)+t) (2*(2*(i+1))+jd (sS g (bz g (2*i))) t):=λt u=>by have R:=Pj hp H u;have T:=ON hp v u;have D:=Pj hp O (s:=jd (sS g (bz g (2*i))) t) (A2 u);rw[z]at D;exact R.trans (T.trans D)
   have h:=(step (jd (sS g (bz g (2*i))) s) (A2 ae)).symm.trans (Q J (jd (sS g (bz g (2*i))) s) (A2 ae));rw[KQ ae,afO _ _ ae]at h;rcases ok.kinds l (bR hl)with B|n
   .have A:=(Fq ok hl B).1;have j:sS g (bz g (2*i)):=by
     rw[e,GI hl B];unfold sS;simp only[iI];split<;>omega
    rw[j]at h;rw[FK hl B];have:((bN g (i+1)!=bN g 1)!=true)=((!bN g (i+1))!=bN g 1):=by cases bN g (i+1)<;>cases bN g 1<;>rfl
    rw[this]at h;exact h
   obtain⟨_,w,L,Y,_,_,_⟩:=qM ok.cr hl n;have B:l.aI=false:=by cases hp:l.aI;rfl;rw[pR hp]at n;cases n
   have j:sS g (bz g (2*i))=false:=by rw[e,yB hl n];exact str _ (Du (cn.1 L).1)
   rw[j]at h;rw[Ks hl B];have:((bN g (i+1)!=bN g 1)!=false)=(bN g (i+1)!=bN g 1):=by cases bN g (i+1)<;>cases bN g 1<;>rfl
   rw[this]at h;exact h
 rcases tD x with c|c
 .have:=f (x/2) J s ae;rwa[show 2*(x/2)=x by omega]at this
 have A:=f (x/2) J s ae;have H:=ON (g:=g) hp (x:=2*(x/2)) J ae;rw[tp,str _ J]at H;have M:jd false s=s:=rfl;rw[M,show 2*(x/2)+1=x by omega]at H;exact H.symm.trans A
def abz(f:cE F g){w:aF}(H:w∈fz (bz g) (bt g))(h:x∈w)(u:y∈w)(z:x<2*I g)(v:y<2*I g):bN g (x/2+1)=bN g (y/2+1):=by have hp:=an0 (g:=g);have j:=ajD (p:=sS g) f hp H h u (s:=0) U;have m:=anw f z (s:=0) U;have A:=anw f v (s:=0) U;have E:=m.symm.trans (j.trans A);have n:¬cH (Ri g) 0 1:=aez f hp (c:=B5 g) λx h=>avW f.ok h;revert E;cases bN g (x/2+1)<;>cases bN g (y/2+1)<;>cases bN g 1<;>intro E<;>first|rfl|exact absurd E n|exact absurd E.symm n
end
def aCE{next:Nat->Nat}(m:Bu next u N){α:Type}{φ:Nat->α}(D:∀x,x<N->φ (next x)=φ x)(F:∀x∈h,x<N)(L:(h.map φ).Nodup):I h<=I (fz next N):=by
 have T:=GG next N;have M:∀x,x<N->∃(i:Nat) (w:aF),(fz next N)[i]?=some w/\x∈w/\A_ (fz next N) x=i:=λx f=>by obtain⟨w,hw,g⟩:=EE.1 (T.2 x f);obtain⟨i,H⟩:=j9 hw;exact⟨i,w,H,g,Ix T.1 H g⟩
 have O:∀a b,cH (λx y=>x<N/\y=next x) a b->φ a=φ b:=λa b Q=>by
  induction Q with
  |rel Q=>rw[Q.2,D _ Q.1]
  |refl _=>rfl
  |symm _ ih=>exact ih.symm
  |trans _ _ B n=>exact B.trans n
 have EB:∀x,x<N->∀y,y<N->A_ (fz next N) x=A_ (fz next N) y->φ x=φ y:=λx f y E e=>by obtain⟨i,w,H,g,e1⟩:=M x f;obtain⟨j,v,X,A,Y⟩:=M y E;rw[e1,Y]at e;subst e;rw[H]at X;cases X;exact O x y (Sq m (R:=λx y=>x<N/\y=next x) (λz Z=>.rel ⟨Z,rfl⟩) (bR H) g A)
 have B:(h.map (A_ (fz next N))).Nodup:=by unfold List.Nodup at L |-;rw[zk]at L |-;refine L.imp_of_mem λ{x y} f E Q e=>?_;exact Q (EB x (F x f) y (F y E) e)
 have n:∀i∈h.map (A_ (fz next N)),i∈List.range (I (fz next N)):=λi H=>by obtain⟨x,f,rfl⟩:=dY.1 H;obtain⟨i,w,H,_,e⟩:=M x (F x f);rw[e];exact gN.2 (cn.1 H).1
 have:=KW _ _ B n;rwa[cY,xi]at this
end
end Go.Abs
