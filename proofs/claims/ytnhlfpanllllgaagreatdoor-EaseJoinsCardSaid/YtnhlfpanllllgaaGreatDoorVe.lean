/-
  Walks around faces.
-/
import Derived.Test.YtnhlfpanllllgaaGreatDoorWs
set_option linter.all false
open List renaming length->I
set_option maxHeartbeats 16000000
namespace Go.Abs
variable{L:List aG}{j y m N:Nat}{R E z:Nat->Nat->Prop}{h:aG}
section
variable{u x:Nat}{f:dV}
def Q6{S:eH}(h:dQ S x=false):x<I S:=by
 rcases LB x (I S) with H|H
 .exact H
 rw[dQ,dS,oF H]at h;cases h
def ahq(next:Nat->Nat):∀(k x:Nat) (S:eH),(∀y∈(gW next k x S).1,dQ S y=false)/\(gW next k x S).1.Nodup/\ ∀y,dQ (gW next k x S).2 y=(dQ S y||decide (y∈(gW next k x S).1)):=by
 intro k
 induction k with
 |zero=>intro x S;simp[gW]
 |succ k z=>
  intro x S;unfold gW;cases H:S.getD x true with
  |true=>simp
  |false=>
   have hl:=Q6 (S:=S) (x:=x) H;obtain⟨g,j,m⟩:=z (next x) (S.set x true);simp only[eX,if_false];have f:∀y,dQ (S.set x true) y=if y=x then true else dQ S y:=λy=>OM hl;refine⟨λy h=>?_,?_,λy=>?_⟩
   .rcases dk.1 h with rfl|h
    .exact H
    have:=g y h;rw[f]at this;split at this
    .cases this
    exact this
   .refine o0.2 ⟨λu=>?_,j⟩;have:=g x u;rw[f,aH rfl]at this;cases this
   rw[m,f];by_cases e:y=x
   .subst e;simp
   rw[aw e];have:decide (y∈x::(gW next k (next x) (S.set x true)).1)=decide (y∈(gW next k (next x) (S.set x true)).1):=by simp[e]
   rw[this]
def aEG(next:Nat->Nat)(N:Nat):∀k,(eY next N k).1.flatten.Nodup/\(∀y,y<N->dQ (eY next N k).2 y=decide (y∈(eY next N k).1.flatten))/\(∀y∈(eY next N k).1.flatten,y<N)/\ ∀x,x<k->x<N->dQ (eY next N k).2 x:=by
 intro k
 induction k with
 |zero=>refine⟨by simp[eY],λy H=>?_,by simp[eY],λx f=>absurd f (mX x)⟩;have:(eY next N 0).2=List.replicate N false:=rfl;rw[this,acj H];simp[eY]
 |succ k R=>
  obtain⟨B,g,m,F⟩:=R;rw[yX];unfold vC;have D:=Gy next N k;cases u:(eY next N k).2.getD k true with
  |true=>
   rw[aH rfl];refine⟨B,g,m,λx f E=>?_⟩;rcases m_.1 f with h|rfl
   .exact F x h E
   exact u
  |false=>
   rw[aw U];have Q:k<N:=by have:=Q6 (S:=(eY next N k).2) u;omega
   obtain⟨g1,M,L⟩:=ahq next ((eY next N k).2.length+1) k (eY next N k).2;have A:=aj7 next ((eY next N k).2.length+1) k (eY next N k).2 (by have:=Km (eY next N k).2;omega);refine⟨?_,λy H=>?_,?_,λx f E=>?_⟩
   .rw[C6,BI];refine⟨B,by simpa using M,λy H z O=>?_⟩;rintro rfl
    have e1:=g1 y (by simpa using O);have j:=m y H;rw[g y j]at e1;simp[H]at e1
   .rw[L,g y H,C6,sH];simp
   .intro y H;rw[C6,fc]at H;rcases H with H|H
    .exact m y H
    have:=Q6 (g1 y (by simpa using H));omega
   rcases m_.1 f with h|rfl
   .rw[L,F x h E];rfl
   exact A
def GS(next:Nat->Nat)(N:Nat):(fO next N).flatten.Nodup/\ ∀y,y<N->y∈(fO next N).flatten:=by obtain⟨f,H,_,g⟩:=aEG next N N;refine⟨f,λy h=>?_⟩;have:=g y h h;rw[H y h]at this;exact lp this
def alV(h:L.flatten.Nodup){i:Nat}{a b:aG}(H:L[i]?=some a)(f:L[j]?=some b)(u:x∈a)(m:x∈b):i=j:=by
 induction L generalizing i j with
 |nil=>simp at H
 |cons l L z=>
  rw[lI,BI]at h;obtain⟨_,y,g⟩:=h;cases i with
  |zero=>
   simp at H;subst H;cases j with
   |zero=>rfl
   |succ j=>simp at f;exact absurd rfl (g x u x (EX.2 ⟨b,ch f,m⟩))
  |succ i=>
   simp at H;cases j with
   |zero=>simp at f;subst f;exact absurd rfl (g x m x (EX.2 ⟨a,ch H,u⟩))
   |succ j=>simp at f;rw[z y H f]
section
variable {F:Nat} {g:ae}
def akR(h:(eD F g)[j]?=some f):∃w,(fO (cA g) (ct g))[j]?=some w/\f=jC F g w:=by
 unfold eD at h;rw[fY]at h;cases H:(fO (cA g) (ct g))[j]? with
 |none=>rw[H]at h;cases h
 |some w=>rw[H]at h;cases h;exact⟨w,rfl,rfl⟩
def an2{i:Nat}{a b:dV}{d:Nat}(x:(eD F g)[i]?=some a)(m:(eD F g)[j]?=some b)(h:d∈a.cn)(H:d∈b.cn):i=j:=by obtain⟨v,u,rfl⟩:=akR x;obtain⟨w,f,rfl⟩:=akR m;rw[Ez]at h H;exact alV (GS _ _).1 u f (uQ.1 h).1 (uQ.1 H).1
def afS(h:f∈eD F g):f.cn.Nodup:=by obtain⟨w,H,rfl⟩:=eg.1 h;rw[Ez];have:=(GS (cA g) (ct g)).1;exact List.Pairwise.sublist List.filter_sublist (List.Pairwise.sublist (List.sublist_flatten_of_mem H) this)
def aAR{d:Nat}(H:d<2*I g):∃(j:Nat) (f:dV),(eD F g)[j]?=some f/\d∈f.cn:=by
 have:=(GS (cA g) (ct g)).2 d (by unfold ct;omega);obtain⟨w,m,h⟩:=EX.1 this;obtain⟨j,u⟩:=jL m;have O:(eD F g)[j]?=some (jC F g w):=by unfold eD;rw[fY,u];rfl
 refine⟨j,jC F g w,O,?_⟩;rw[Ez];exact uQ.2 ⟨h,by simpa using H⟩
def anN{D:aG}{v:Nat}{d:Nat}:∀ {L:aG},d<I L->(qu L D v)[d]?=if d∈D then some v else L[d]? :=by
 induction D with
 |nil=>intro L _;simp[qu]
 |cons e D j=>
  intro L f;show(qu (L.set e v) D v)[d]?=_;rw[j (by simpa using f),mA];by_cases g:d∈D
  .simp[g]
  by_cases H:e=d
  .subst H;simp[f]
  have:d≠e:=λh=>H h.symm;simp[g,H,this]
def axc{d:Nat}:∀ {fs:CU}{j:Nat}{L:aG},d<I L->(∀f∈fs,d∉f.cn)->(rN fs j L)[d]?=L[d]? :=by
 intro fs
 induction fs with
 |nil=>intro j L _ _;rfl
 |cons f fs m=>intro j L H h;show(rN fs (j+1) (qu L f.cn j))[d]?=_;rw[m (by rw[MQ];exact H) λg u=>h g (by simp[u]),anN H,aw (h f aQ)]
def aur{d:Nat}:∀ {fs:CU}{j i:Nat}{L:aG}{f:dV},d<I L->fs[i]?=some f->d∈f.cn->(∀m F,fs[m]?=some F->d∈F.cn->m=i)->(rN fs j L)[d]?=some (j+i):=by
 intro fs
 induction fs with
 |nil=>intro j i L f _ h;simp at h
 |cons g fs B=>
  intro j i L f u H x y;show(rN fs (j+1) (qu L g.cn j))[d]?=_;cases i with
  |zero=>
   simp at H;subst H;rw[axc (by rw[MQ];exact u),anN u,aH x]
   .rfl
   intro F z M;obtain⟨m,E⟩:=jL z;have:=y (m+1) F (by simpa using E) M;omega
  |succ i=>simp at H;rw[B (by rw[MQ];exact u) H x λm F D A=>by have:=y (m+1) F (by simpa using D) A;omega];congr 1;omega
def left_at{d:Nat}(u:d<2*I g)(h:(eD F g)[j]?=some f)(H:d∈f.cn):(p_ F g)[d]?=some j:=by unfold p_;rw[aur (by simpa using u) h H λz y m x=>an2 m h x H];congr 1;omega
def U7{d:Nat}(H:d<2*I g):∃j,(eD F g)[j]?=some (nh F g d)/\d∈(nh F g d).cn/\(p_ F g)[d]?=some j:=by
 obtain⟨j,f,h,m⟩:=aAR (F:=F) H;have hl:=left_at H h m;have e:nh F g d=f:=by unfold nh;rw[dS (l:=p_ F g),hl,mO,dS,h,mO]
 exact⟨j,e▸h,e▸m,hl⟩
def afj{d:Nat}(m:d<2*I g)(x:f∈eD F g)(u:d∈f.cn):nh F g d=f:=by obtain⟨j,H,y,_⟩:=U7 (F:=F) m;obtain⟨i,h⟩:=jL x;have:=an2 h H u y;subst this;rw[H]at h;cases h;rfl
def Sm{d:Nat}(h:d<2*I g):nh F g d∈eD F g:=by obtain⟨j,H,_⟩:=U7 (F:=F) h;exact ch H
def CE(pl:Nat)(E:aG)(f:dV):Bool:=(I f.cn==I E)&&((I f.places==pl)&&E.all λe=> !(decide (2*e∈f.cn)==decide (2*e+1∈f.cn)))
def vP(F:Nat)(g:ae)(pl:Nat)(E:aG):Bool:=(eD F g).any (CE pl E)
def atV(h:f.cn.Nodup)(e:Nat):vL f e=(if 2*e∈f.cn then 1 else 0)+(if 2*e+1∈f.cn then 1 else 0):=by
 unfold vL;generalize f.cn=D at h
 induction D with
 |nil=>simp
 |cons d D g=>
  obtain⟨H,j⟩:=o0.1 h;rw[vh,g j];by_cases e1:d=2*e
  .subst e1;have:(2*e/2==e):=aQ;have E:¬(2*e+1=2*e):=J;simp[this,H,E];omega
  by_cases e2:d=2*e+1
  .subst e2;have:((2*e+1)/2==e):=by simp;omega
   have E:¬(2*e=2*e+1):=J;simp[this,H,E]
  have:(d/2==e)=false:=by simp;omega
  have E:¬(2*e=d):=λh=>e1 h.symm;have e4:¬(2*e+1=d):=λh=>e2 h.symm;simp[this,E,e4]
def amV(h:f.cn.Nodup)(pl:Nat)(E:aG):wT f pl E=CE pl E f:=by unfold wT CE;congr 2;refine List.all_congr rfl λe=>?_;rw[atV h];by_cases H:2*e∈f.cn<;>by_cases g:2*e+1∈f.cn<;>simp[H,g]
def adD{pl:Nat}{E:aG}{j:Nat}(A:E[0]?=some j)(z:j<I g):oT F g pl E j=vP F g pl E:=by
 unfold oT vP;have y:=Sm (F:=F) (g:=g) (d:=2*j) J;have M:=Sm (F:=F) (g:=g) (d:=2*j+1) J;rw[amV (afS y),amV (afS M),sH,oG,CQ];constructor
 .rintro (h|h)
  .exact⟨_,y,h⟩
  exact⟨_,M,h⟩
 rintro⟨f,m,h⟩
 have H:=h;unfold CE at H;simp only[dj,jP]at H;have:=H.2.2 j (ch A);by_cases x:2*j∈f.cn
 .left;rw[afj J m x];exact h
 by_cases u:2*j+1∈f.cn
 .right;rw[afj J m u];exact h
 simp[x,u]at this
end
inductive cX (R:Nat->Nat->Prop):Nat->Nat->Prop
 |rel {a b:Nat}:R a b->cX R a b
 |refl (a:Nat):cX R a a
 |symm {a b:Nat}:cX R a b->cX R b a
 |trans {a b c:Nat}:cX R a b->cX R b c->cX R a c
def cX.mono{R':Nat->Nat->Prop}(h:∀a b,R a b->cX R' a b)(e:cX R x y):cX R' x y:=by
 induction e with
 |rel r=>exact h _ _ r
 |refl a=>exact .refl a
 |symm _ f=>exact .symm f
 |trans _ _ i1 i2=>exact .trans i1 i2
def cX.inv{α:Type}{f:Nat->α}(h:∀a b,R a b->f a=f b)(e:cX R x y):f x=f y:=by
 induction e with
 |rel r=>exact h _ _ r
 |refl a=>rfl
 |symm _ g=>exact g.symm
 |trans _ _ i1 i2=>exact i1.trans i2
def rO (E:Nat->Nat->Prop)(x:Nat):Prop:=∀y,E x y->x<=y
noncomputable def BE (E:Nat->Nat->Prop) (x:Nat):Bool:= @decide (rO E x) (Classical.propDecidable _)
def JD:BE E x↔rO E x:=by unfold BE;exact@decide_eq_true_iff _ (Classical.propDecidable _)
noncomputable def bK (E:Nat->Nat->Prop) (n:Nat):Nat:=(List.range n).countP (BE E)
def Ku(h:∀x y,E x y↔z x y)(n:Nat):bK E n=bK z n:=by have:E=z:=funext λx=>funext λy=>propext (h x y);rw[this]
def afD{p:Nat->Prop}:∀n,p n->∃m,p m/\ ∀k,p k->m<=k:=by
 intro n
 induction n using Nat.strongRecOn with
 |ind n f=>
  intro h;rcases Classical.em (∃k,k<n/\p k)with⟨k,H,hp⟩|D
  .exact f k H hp
  exact⟨n,h,λk H=>ac6 λA=>D ⟨k,A,H⟩⟩
def Wy(R:Nat->Nat->Prop)(x:Nat):∃m,cX R x m/\rO (cX R) m/\m<=x:=by obtain⟨m,h,H⟩:=afD (p:=λy=>cX R x y) x (.refl x);exact⟨m,h,λy f=>H y (h.trans f),H x (.refl x)⟩
def aww{p:Nat->Bool}(hp:p x):∀ {l:aG},l.Nodup->x∈l->l.countP p=l.countP (λy=>p y&&y !=x)+1:=by
 intro l
 induction l with
 |nil=>intro _ h;cases h
 |cons a l u=>
  intro j m;obtain⟨z,f⟩:=o0.1 j;rw[vh,vh];by_cases e:a=x
  .subst e;have A:l.countP p=l.countP (λy=>p y&&y !=a):=Ka λy H=>by
    have:(y !=a):=by simp;rintro rfl;exact z H
    simp[this]
   simp[hp,A]
  have g:x∈l:=by rcases dk.1 m with h|h;exact absurd h.symm e;exact h
  rw[u f g];have:(a !=x):=by simp[e]
  simp only[this,r5];omega
abbrev tN(R:Nat->Nat->Prop)(a b:Nat)(x y:Nat):Prop:=R x y\/(x=a/\y=b)
def Ht{a b:Nat}:cX (tN R a b) x y↔cX R x y\/(cX R x a/\cX R b y)\/(cX R x b/\cX R a y):=by
 constructor
 .intro h
  induction h with
  |rel r=>
   rcases r with r|⟨rfl,rfl⟩
   .exact .inl (.rel r)
   exact .inr (.inl ⟨.refl _,.refl _⟩)
  |refl a=>exact .inl (.refl a)
  |symm _ m=>
   rcases m with h|⟨H,f⟩|⟨H,f⟩
   .exact .inl h.symm
   .exact .inr (.inr ⟨f.symm,H.symm⟩)
   exact .inr (.inl ⟨f.symm,H.symm⟩)
  |trans _ _ i1 i2=>
   rcases i1 with h|⟨H,f⟩|⟨H,f⟩<;>rcases i2 with k|⟨j,g⟩|⟨j,g⟩
   .exact .inl (h.trans k)
   .exact .inr (.inl ⟨h.trans j,g⟩)
   .exact .inr (.inr ⟨h.trans j,g⟩)
   .exact .inr (.inl ⟨H,f.trans k⟩)
   .exact .inr (.inl ⟨H,g⟩)
   .exact .inl (H.trans g)
   .exact .inr (.inr ⟨H,f.trans k⟩)
   .exact .inl (H.trans g)
   exact .inr (.inr ⟨H,g⟩)
 have up:∀ {u v},cX R u v->cX (tN R a b) u v:=λh=>h.mono λ_ _ r=>.rel (.inl r);have A:cX (tN R a b) a b:=.rel (.inr ⟨rfl,rfl⟩);rintro(h|⟨H,f⟩|⟨H,f⟩)
 .exact up h
 .exact(up H).trans (A.trans (up f))
 exact(up H).trans (A.symm.trans (up f))
def aa4{a b:Nat}(h:cX R a b)(n:Nat):bK (cX (tN R a b)) n=bK (cX R) n:=by
 refine Ku (λx y=>?_) n;rw[Ht];constructor
 .rintro (k|⟨f,H⟩|⟨f,H⟩)
  .exact k
  .exact f.trans (h.trans H)
  exact f.trans (h.symm.trans H)
 exact .inl
def aij{n:Nat}(H:m<n)(f:rO E m)(h:∀x,rO z x↔rO E x/\x≠m):bK E n=bK z n+1:=by unfold bK;rw[aww (p:=BE E) (x:=m) (JD.2 f) D5 (gI.2 H)];congr 1;refine Ka λx _=>?_;rw[JD,h,dj,JD];simp
def aeF{a b n:Nat}(L:a<n)(F:b<n)(h:¬cX R a b):bK (cX R) n=bK (cX (tN R a b)) n+1:=by
 obtain⟨p,j,B,E⟩:=Wy R a;obtain⟨q,Q,D,M⟩:=Wy R b;have z:p≠q:=λe=>h (j.trans (e▸Q.symm));rcases aaU z with c|c
 .refine aij (m:=q) J D λx=>⟨λH=>⟨λy f=>H y (Ht.2 (.inl f)),?_⟩,λ⟨H,A⟩ y f=>?_⟩
  .rintro rfl
   have:=H p (Ht.2 (.inr (.inr ⟨Q.symm,j⟩)));omega
  rcases Ht.1 f with f|⟨g,u⟩|⟨g,u⟩
  .exact H y f
  .have e1:=H p (g.trans j);have e2:=D y (Q.symm.trans u);omega
  have e1:=H q (g.trans Q);have e2:=D x (Q.symm.trans g.symm);omega
 refine aij (m:=p) J B λx=>⟨λH=>⟨λy f=>H y (Ht.2 (.inl f)),?_⟩,λ⟨H,A⟩ y f=>?_⟩
 .rintro rfl
  have:=H q (Ht.2 (.inr (.inl ⟨j.symm,Q⟩)));omega
 rcases Ht.1 f with f|⟨g,u⟩|⟨g,u⟩
 .exact H y f
 .have e1:=H p (g.trans j);have e2:=B x (j.symm.trans g.symm);omega
 have e1:=H q (g.trans Q);have e2:=B y (j.symm.trans u);omega
def alh{α:Type}{f:Nat->α}(Z:∀a b,R a b->f a=f b){n:Nat}(y:∀x∈h,x<n)(g:(h.map f).Nodup):I h<=bK (cX R) n:=by
 have key:∀h:aG,(∀x∈h,x<n)->(h.map f).Nodup->∃L:aG,I L=I h/\L.Nodup/\(∀m∈L,m<n/\rO (cX R) m)/\ ∀m∈L,f m∈h.map f:=by
  intro h
  induction h with
  |nil=>intro _ _;exact⟨[],rfl,tA,aQ,aQ⟩
  |cons a r E=>
   intro y g;rw[eR,o0]at g;obtain⟨L,B,D,u,F⟩:=E (λx H=>y x (by simp[H])) g.2;obtain⟨m,T,N,Y⟩:=Wy R a;have j:f m=f a:=(T.inv Z).symm;have A:=y a aQ;refine⟨m::L,by simp[B],o0.2 ⟨λX=>g.1 (j▸F m X),D⟩,λx H=>?_,λx H=>?_⟩
   .rcases dk.1 H with rfl|H
    .exact⟨J,N⟩
    exact u x H
   rcases dk.1 H with rfl|H
   .rw[j];simp
   rw[eR];exact xo _ (F x H)
 obtain⟨L,B,D,u,_⟩:=key h y g;rw[<-B];unfold bK;rw[Oi];have z:∀(L M:aG),L.Nodup->(∀x∈L,x∈M)->I L<=I M:=by
  intro L
  induction L with
  |nil=>intro M _ _;exact cE _
  |cons a L E=>intro M g hs;obtain⟨Q,O⟩:=o0.1 g;have A:=hs a aQ;have:=E (M.erase a) O λx H=>(O9 (by rintro rfl;exact Q H)).2 (hs x (by simp[H]));rw[M5 A]at this;have:0<I M:=Ij A;simp only[dw];omega
 exact z L _ D λx H=>uQ.2 ⟨gI.2 (u x H).1,JD.2 (u x H).2⟩
def aG6{n:Nat}(h:∀x,x<n->cX R x 0):bK (cX R) n<=1:=by
 unfold bK;have y:∀x∈List.range n,BE (cX R) x->x=0:=λx H hl=>by have:=JD.1 hl 0 (h x (gI.1 H));omega
 have:∀l:aG,l.Nodup->(∀x∈l,BE (cX R) x->x=0)->l.countP (BE (cX R))<=1:=by
  intro l
  induction l with
  |nil=>intro _ _;simp
  |cons a l m=>
   intro g hl;obtain⟨u,f⟩:=o0.1 g;rw[vh];by_cases c:BE (cX R) a
   .have j:=hl a aQ c;subst j;have:l.countP (BE (cX R))=0:=Hi.2 λx H T=>u (by have:=hl x (by simp[H]) T;subst this;exact H);simp[c,this]
   have:=m f λx H=>hl x (by simp[H]);simp[c,this]
 exact this _ D5 y
structure uY (n:Nat) (p:Nat->Nat):Prop where
 lt:∀x,x<n->p x<n
 inj:∀x y,x<n->y<n->p x=p y->x=y
abbrev im(n:Nat)(p:Nat->Nat)(x y:Nat):Prop:=x<n/\y=p x
def tr (p:Nat->Nat)(t:Nat×Nat)(x:Nat):Nat:=if x=t.1 then p t.2 else if x=t.2 then p t.1 else p x
def VQ(p:Nat->Nat)(a b x:Nat):tr p (a,b) x=p (if x=a then b else if x=b then a else x):=by
 unfold tr;simp only;split
 .rfl
 split<;>rfl
def uY.tr{n:Nat}{p:Nat->Nat}(h:uY n p){a b:Nat}(g:a<n)(j:b<n):uY n (tr p (a,b)):=by
 have hs:∀x,x<n->(if x=a then b else if x=b then a else x)<n:=λx H=>by split<;>(try split)<;>assumption
 refine⟨λx H=>by rw[VQ];exact h.lt _ (hs x H),λx y H f e=>?_⟩;rw[VQ,VQ]at e;have e:=h.inj _ _ (hs x H) (hs y f) e;by_cases X:x=a
 .rw[aH X]at e;by_cases Y:y=a
  .omega
  rw[aw Y]at e;split at e<;>omega
 rw[aw X]at e;by_cases Y:y=a
 .rw[aH Y]at e;split at e<;>omega
 rw[aw Y]at e;split at e<;>split at e<;>omega
def it (p:Nat->Nat):Nat->Nat->Nat
 |0,x=>x
 |k+1,x=>p (it p k x)
def uY.Jv{n:Nat}{p:Nat->Nat}(h:uY n p)(H:x<n):∀k,it p k x<n:=by
 intro k
 induction k with
 |zero=>exact H
 |succ k f=>exact h.lt _ f
def uY.back{n:Nat}{p:Nat->Nat}(h:uY n p)(H:x<n):∀i j,it p (i+j) x=it p i x->it p j x=x:=by
 intro i
 induction i with
 |zero=>intro j e;rw[kA]at e;exact e
 |succ i f=>intro j e;rw[show i+1+j=(i+j)+1 by omega]at e;exact f j (h.inj _ _ (h.Jv H _) (h.Jv H _) e)
def KK:∀(L M:aG),L.Nodup->(∀x∈L,x∈M)->I L<=I M:=by
 intro L
 induction L with
 |nil=>intro M _ _;exact cE _
 |cons a L f=>intro M m hs;obtain⟨j,g⟩:=o0.1 m;have h:=hs a aQ;have:=f (M.erase a) g λx H=>(O9 (by rintro rfl;exact j H)).2 (hs x (by simp[H]));rw[M5 h]at this;have:0<I M:=Ij h;simp only[dw];omega
def uY.afC{n:Nat}{p:Nat->Nat}(h:uY n p)(g:x<n):∃m,it p (m+1) x=x:=by
 apply Classical.byContradiction;intro D;have key:∀k,((List.range k).map λi=>it p i x).Nodup:=by
  intro k
  induction k with
  |zero=>simp
  |succ k z=>rw[r9,lU,BI];refine⟨z,aQ,λa u b H=>?_⟩;obtain⟨i,f,rfl⟩:=eg.1 u;have f:=gI.1 f;simp only[eR,jS,kV]at H;subst H;intro e;have:=h.back g i (k-i) (by rw[show i+(k-i)=k by omega];exact e.symm);exact D ⟨k-i-1,by rw[show k-i-1+1=k-i by omega];exact this⟩
 have:=KK _ (List.range n) (key (n+1)) λy j=>by obtain⟨i,_,rfl⟩:=eg.1 j;exact gI.2 (h.Jv g i)
 rw[cH,Cq,Cq]at this;omega
def agX(p:Nat->Nat)(x:Nat):∀k,it p (k+1) x=it p k (p x):=by
 intro k
 induction k with
 |zero=>rfl
 |succ k f=>show p (it p (k+1) x)=p (it p k (p x));rw[f]
def ahX{n:Nat}{p:Nat->Nat}(h:uY n p){a b:Nat}(x:a<n)(H:b<n)(g:¬cX (im n p) a b):cX (im n (tr p (a,b))) a b:=by
 obtain⟨m,u⟩:=h.afC H;have E:tr p (a,b) a=p b:=by unfold tr;rw[aH rfl]
 have j:∀k,cX (im n p) b (it p k b):=by
  intro k
  induction k with
  |zero=>exact .refl _
  |succ k f=>exact f.trans (.rel ⟨h.Jv H k,rfl⟩)
 have key:∀k,cX (im n (tr p (a,b))) a b\/cX (im n (tr p (a,b))) a (it p k (p b)):=by
  intro k
  induction k with
  |zero=>exact .inr (.rel ⟨x,E.symm⟩)
  |succ k f=>
   rcases f with f|f
   .exact .inl f
   by_cases c:it p k (p b)=b
   .rw[c]at f;exact .inl f
   refine .inr (f.trans (.rel ⟨h.Jv (h.lt _ H) k,?_⟩));have N:it p k (p b)≠a:=λe=>g (by have:=j (k+1);rw[agX,e]at this;exact this.symm)
   unfold tr;rw[aw N,aw c];rfl
 rcases key m with k|k
 .exact k
 rw[<-agX,u]at k;exact k
def aax{n:Nat}{p:Nat->Nat}{a b:Nat}(f:a<n)(H:b<n){S:Nat->Nat->Prop}{x y:Nat}:cX (tN (λx y=>im n (tr p (a,b)) x y\/S x y) a b) x y↔cX (tN (λx y=>im n p x y\/S x y) a b) x y:=by
 have A:∀R:Nat->Nat->Prop,cX (tN R a b) a b:=λR=>.rel (.inr ⟨rfl,rfl⟩);constructor
 .refine cX.mono λu v r=>?_;rcases r with(⟨h,rfl⟩|s)|⟨rfl,rfl⟩
  .unfold tr;simp only;by_cases c:u=a
   .subst c;rw[aH rfl];exact(A _).trans (.rel (.inl (.inl ⟨H,rfl⟩)))
   rw[aw c];by_cases d:u=b
   .subst d;rw[aH rfl];exact(A _).symm.trans (.rel (.inl (.inl ⟨f,rfl⟩)))
   rw[aw d];exact .rel (.inl (.inl ⟨h,rfl⟩))
  .exact .rel (.inl (.inr s))
  exact A _
 refine cX.mono λu v r=>?_;rcases r with(⟨h,rfl⟩|s)|⟨rfl,rfl⟩
 .by_cases c:u=a
  .subst c;refine(A _).trans (.rel (.inl (.inl ⟨H,?_⟩)));unfold tr;simp only;by_cases d:b=u
   .rw[aH d,d]
   rw[aw d];simp
  by_cases d:u=b
  .subst d;refine(A _).symm.trans (.rel (.inl (.inl ⟨f,?_⟩)));unfold tr;rw[aH rfl]
  refine .rel (.inl (.inl ⟨h,?_⟩));unfold tr;rw[aw c,aw d]
 .exact .rel (.inl (.inr s))
 exact A _
abbrev anl(ts:tK)(x y:Nat):Prop:=(x,y)∈ts
abbrev zF(n:Nat)(p:Nat->Nat)(ts:tK)(x y:Nat):Prop:=im n p x y\/anl ts x y
def aDg{n:Nat}:∀(T:tK) (p:Nat->Nat),uY n p->(∀t∈T,t.1<n/\t.2<n)->
  bK (cX (im n (T.foldl tr p))) n+bK (cX (im n p)) n<=2*bK (cX (zF n p T)) n+I T:=by
 intro T
 induction T with
 |nil=>
  intro p _ _;have:bK (cX (zF n p [])) n=bK (cX (im n p)) n:=Ku (λx y=>⟨cX.mono (R:=zF n p []) (R':=im n p) (λu v r=>by
   rcases r with r|r
   .exact .rel r
   cases r),cX.mono (R:=im n p) (R':=zF n p []) (λu v r=>.rel (.inl r))⟩) n
  rw[this];simp only[IH,eK];omega
 |cons t T B=>
  intro p hp z;obtain⟨a,b⟩:=t;obtain⟨f,H⟩:=z (a,b) aQ
  replace f:a<n:=f
  replace H:b<n:=H
  have B:=B (tr p (a,b)) (hp.tr f H) λt h=>z t (by simp[h]);have all:∀x y,cX (zF n p ((a,b)::T)) x y↔cX (tN (zF n (tr p (a,b)) T) a b) x y:=λx y=>by
   refine Iff.trans ⟨cX.mono λu v r=>?_,cX.mono λu v r=>?_⟩ (aax (S:=anl T) f H).symm
   .rcases r with r|r
    .exact .rel (.inl (.inl r))
    rcases dk.1 r with r|r
    .cases r;exact .rel (.inr ⟨rfl,rfl⟩)
    exact .rel (.inl (.inr r))
   rcases r with(r|r)|⟨rfl,rfl⟩
   .exact .rel (.inl r)
   .exact .rel (.inr (xo _ r))
   exact .rel (.inr (HU ..))
  have one:∀x y,cX (tN (im n (tr p (a,b))) a b) x y↔cX (tN (im n p) a b) x y:=λx y=>by have h:=aax (p:=p) (S:=λ_ _=>False) f H (x:=x) (y:=y);have e:∀q:Nat->Nat,(λx y=>im n q x y\/False)=im n q:=λq=>funext λx=>funext λy=>propext aQ;rw[e,e]at h;exact h
  rw[Ku all];simp only[vi,dw];have F:bK (cX (tN (im n (tr p (a,b))) a b)) n=bK (cX (tN (im n p) a b)) n:=Ku one n;have g:∀R:Nat->Nat->Prop,cX R a b->bK (cX (tN R a b)) n=bK (cX R) n:=λR h=>aa4 h n;have m:∀R:Nat->Nat->Prop,¬cX R a b->bK (cX R) n=bK (cX (tN R a b)) n+1:=λR h=>aeF f H h;rcases Classical.em (cX (im n p) a b)with c|c
  .have E:=g _ c;rcases Classical.em (cX (im n (tr p (a,b))) a b)with d|d
   .have A:=g _ d;have j:=g _ (d.mono (R':=zF n (tr p (a,b)) T) λu v r=>.rel (.inl r));omega
   have A:=m _ d;rcases Classical.em (cX (zF n (tr p (a,b)) T) a b)with D|D
   .have j:=g _ D;omega
   have j:=m _ D;omega
  have E:=m _ c;have d:=ahX hp f H c;have A:=g _ d;have j:=g _ (d.mono (R':=zF n (tr p (a,b)) T) λu v r=>.rel (.inl r));omega
def rv (x:Nat):Nat:=if x%2=0 then x+1 else x-1
def wy(k:Nat):rv (2*k)=2*k+1:=by unfold rv;rw[aH J]
def B_(k:Nat):rv (2*k+1)=2*k:=by unfold rv;rw[aw J];rfl
def Bs(x:Nat):rv (rv x)=x:=by
 rcases w6 x with h|h
 .rw[show x=2*(x/2) by omega,wy,B_]
 rw[show x=2*(x/2)+1 by omega,B_,wy]
def Aq(h:x<2*m):rv x<2*m:=by unfold rv;split<;>omega
def asy(x:Nat):rv x/2=x/2:=by unfold rv;split<;>omega
def zc(n v:Nat)(g:Bool):rv (fj n v g)=j5 n v (!g):=by
 cases g with
 |true=>exact wy _
 |false=>exact B_ _
def ayw(n v:Nat)(g:Bool):rv (j5 n v g)=fj n v (!g):=by
 cases g with
 |true=>exact wy _
 |false=>exact B_ _
def DS{n v:Nat}(h:v<n)(g:Bool):j5 n v g<2*n:=by have:=fC (v+n-1) (show 0<n by omega);unfold j5;split<;>omega
def Jw{n:Nat}(H:x<2*n):x=j5 n (if x%2=0 then(x/2+1)%n else x/2) (x%2==0):=by
 unfold j5;rcases w6 x with h|h
 .simp only[h,CD,if_true];rw[Ep J];omega
 simp only[h,show((1:Nat)==0)=false from rfl,eX,if_false,MM];omega
section
variable {F:Nat} {g:ae}
def ak7{v:Nat}{l:aa}(hl:g[v]?=some l)(f:Bool):cA g (j5 (I g) v f)=if l.kind==2 then fj (I g) (iK g v) (f==(l.over==(l.sign==1)))
   else if c9 g v==f then 2*I g+2*(aL g).idxOf v else 2*I g+2*(((aL g).idxOf v+I (aL g)-1)%I (aL g))+1:=by
 have h:=(cD.1 hl).1;have A:=DS h f;refine apk J ?_ ?_ hl
 .unfold j5;cases f<;>simp
 unfold j5;cases f with
 |true=>simp only[if_true];rw[show 2*((v+I g-1)%I g)/2=(v+I g-1)%I g by omega,vZ h]
 |false=>simp only[eX,if_false];omega
def Al{v:Nat}{l:aa}(hl:g[v]?=some l)(h:l.aF)(f:Bool):cA g (j5 (I g) v f)=fj (I g) (iK g v) (f==(l.over==(l.sign==1))):=by rw[ak7 hl];unfold aa.aF at h;rw[aH h]
def IV{v:Nat}{l:aa}(hl:g[v]?=some l)(hp:l.aM)(f:Bool):cA g (j5 (I g) v f)=if c9 g v==f then 2*I g+2*(aL g).idxOf v else 2*I g+2*(((aL g).idxOf v+I (aL g)-1)%I (aL g))+1:=by have:=q_ hp;unfold aa.aF at this;rw[ak7 hl,aw (by rw[this];decide)]
def Iw(k:Nat):cA g (2*I g+2*k)=fj (I g) ((aL g).getD ((k+1)%I (aL g)) 0) (!c9 g ((aL g).getD ((k+1)%I (aL g)) 0)):=by show jx _ _ _=_;unfold jx;rw[aH J,aH J,show(2*I g+2*k-2*I g)/2=k by omega]
def Hk(k:Nat):cA g (2*I g+2*k+1)=fj (I g) ((aL g).getD k 0) (c9 g ((aL g).getD k 0)):=by show jx _ _ _=_;unfold jx;rw[aH J,aw J,show(2*I g+2*k+1-2*I g)/2=k by omega]
def CO{k:Nat}(H:k<I (aL g)):∃l,g[(aL g).getD k 0]?=some l/\l.aM:=by obtain⟨v,h⟩:=aR H;rw[dS,h,mO];exact uh.1 (ch h)
def IE{v:Nat}{l:aa}(ok:gy F g)(hl:g[v]?=some l)(hp:l.aM):(aL g).idxOf v<I (aL g)/\(aL g).getD ((aL g).idxOf v) 0=v:=by have h:=WX ok.ax hl hp;rw[Nk ok.ax hl hp];exact⟨(cD.1 h).1,by rw[dS,h];rfl⟩
def apB(ok:gy F g){v:Nat}(y:v<I g)(f:Bool):cA g (rv (cA g (j5 (I g) v f)))=fj (I g) v f:=by
 obtain⟨l,hl⟩:=aR y;rcases ok.kinds l (ch hl)with hp|u
 .obtain⟨h,H⟩:=IE ok hl hp;rw[IV hl hp];by_cases c:(c9 g v==f)
  .rw[aH c,show 2*I g+2*(aL g).idxOf v=2*(I g+(aL g).idxOf v) by omega,wy,show 2*(I g+(aL g).idxOf v)+1=2*I g+2*(aL g).idxOf v+1 by omega,Hk,H];rw[eq_of_beq c]
  rw[aw c];have c:c9 g v= !f:=by revert c;cases c9 g v<;>cases f<;>simp
  have j:=fC ((aL g).idxOf v+I (aL g)-1) (show 0<I (aL g) by omega);rw[show 2*I g+2*(((aL g).idxOf v+I (aL g)-1)%I (aL g))+1=2*(I g+((aL g).idxOf v+I (aL g)-1)%I (aL g))+1 by omega,B_,
   show 2*(I g+((aL g).idxOf v+I (aL g)-1)%I (aL g))=2*I g+2*(((aL g).idxOf v+I (aL g)-1)%I (aL g)) by omega,Iw,vZ h,H,c,N9]
 obtain⟨h,m,j,z,od,x,M⟩:=rJ ok.cr hl u;rw[Al hl u,zc,Al j z,h,x,M];cases f<;>cases l.over<;>cases(l.sign==1)<;>rfl
def qg(g:ae)(x:Nat):Nat:=
 if 2*I g<=x then(if x%2=0 then(aL g).getD (((x-2*I g)/2+1)%I (aL g)) 0 else(aL g).getD ((x-2*I g)/2) 0)
 else if x%2=0 then(x/2+1)%I g else x/2
def HO(g:ae)(x:Nat):Bool:=decide (2*I g<=x)||(match g[qg g x]? with|some l=>l.aF&&l.over|none=>false)
def nr(g:ae)(i:Nat):Int×Int:=match g[i]? with|some l=>if l.aF then(1,l.id)else(0,i)|none=>(2,0)
def EH{v:Nat}(h:v<I g)(f:Bool):qg g (j5 (I g) v f)=v:=by
 have A:=DS h f;unfold qg;rw[aw J];unfold j5;cases f with
 |true=>simp only[if_true];rw[aH J,show 2*((v+I g-1)%I g)/2=(v+I g-1)%I g by omega,vZ h]
 |false=>simp only[eX,if_false];rw[aw J];omega
def Xo{v:Nat}{l:aa}(hl:g[v]?=some l)(f:Bool):HO g (j5 (I g) v f)=(l.aF&&l.over):=by have h:=(cD.1 hl).1;have A:=DS h f;unfold HO;rw[EH h,hl];have:¬2*I g<=j5 (I g) v f:=J;simp[this]
def anw(k:Nat):qg g (2*I g+2*k)=(aL g).getD ((k+1)%I (aL g)) 0:=by unfold qg;rw[aH J,aH J,show(2*I g+2*k-2*I g)/2=k by omega]
def agI(k:Nat):qg g (2*I g+2*k+1)=(aL g).getD k 0:=by unfold qg;rw[aH J,aw J,show(2*I g+2*k+1-2*I g)/2=k by omega]
def W4(h:2*I g<=x):HO g x:=by unfold HO;simp[h]
def aBY(ok:gy F g)(z:x<ct g):nr g (qg g (rv (cA g x)))=nr g (qg g x)/\HO g (rv (cA g x))= !HO g x:=by
 unfold ct at z;rcases LB x (2*I g)with c|c
 .have H:(if x%2=0 then(x/2+1)%I g else x/2)<I g:=by
   have:=fC (x/2+1) (show 0<I g by omega);split<;>omega
  rw[Jw c];generalize(if x%2=0 then(x/2+1)%I g else x/2)=v at H;generalize(x%2==0)=fw;obtain⟨l,hl⟩:=aR H;rw[EH H,Xo hl];rcases ok.kinds l (ch hl)with hp|f
  .obtain⟨u,j⟩:=IE ok hl hp;rw[q_ hp,IV hl hp];by_cases d:(c9 g v==fw)
   .rw[aH d,show 2*I g+2*(aL g).idxOf v=2*(I g+(aL g).idxOf v) by omega,wy,show 2*(I g+(aL g).idxOf v)+1=2*I g+2*(aL g).idxOf v+1 by omega,agI,j,W4 J];exact⟨rfl,rfl⟩
   rw[aw d,show 2*I g+2*(((aL g).idxOf v+I (aL g)-1)%I (aL g))+1=2*(I g+((aL g).idxOf v+I (aL g)-1)%I (aL g))+1 by omega,B_,
    show 2*(I g+((aL g).idxOf v+I (aL g)-1)%I (aL g))=2*I g+2*(((aL g).idxOf v+I (aL g)-1)%I (aL g)) by omega,anw,vZ u,j,W4 J]
   exact⟨rfl,rfl⟩
  obtain⟨u,m,h,D,od,M,E⟩:=rJ ok.cr hl f;have y:=(cD.1 h).1;rw[Al hl f,zc,EH y,Xo h];unfold nr;simp[hl,h,f,D,od,M]
 rw[W4 c];have key:∀k,k<I (aL g)->∀B,nr g (qg g (rv (fj (I g) ((aL g).getD k 0) B)))=nr g ((aL g).getD k 0)/\HO g (rv (fj (I g) ((aL g).getD k 0) B))= !true:=λk A B=>by obtain⟨l,hl,hp⟩:=CO A;rw[zc,EH (cD.1 hl).1,Xo hl,q_ hp];exact⟨rfl,rfl⟩
 rcases w6 x with d|d
 .rw[show x=2*I g+2*((x-2*I g)/2) by omega,Iw,anw];exact key _ (fC _ J) _
 rw[show x=2*I g+2*((x-2*I g)/2)+1 by omega,Hk,agI];exact key _ J _
end
def azG{next:Nat->Nat}(A:∀x,x<N->next x<N)(h:∀x,x<N->cX R x (next x)):∀(k x:Nat) (S:eH),x<N->∀y∈(gW next k x S).1,cX R x y:=by
 intro k
 induction k with
 |zero=>intro x S _ y H;simp[gW]at H
 |succ k g=>
  intro x S f y H;unfold gW at H;split at H
  .simp at H
  rcases dk.1 H with rfl|H
  .exact .refl _
  exact(h x f).trans (g (next x) _ (A x f) y H)
def aDF{next:Nat->Nat}(m:At next u N)(h:∀x,x<N->cX R x (next x)):∀k,k<=N->∀w∈(eY next N k).1,∀x∈w,∀y∈w,cX R x y:=by
 intro k
 induction k with
 |zero=>intro _ w H;simp[eY]at H
 |succ k z=>
  intro A w H x g y f;rw[yX]at H;unfold vC at H;split at H
  .exact z J w H x g y f
  rcases fc.1 H with H|H
  .exact z J w H x g y f
  simp only[kV]at H;subst H;have j:=azG (R:=R) m.lt h ((eY next N k).2.length+1) k (eY next N k).2 J;exact(j x g).symm.trans (j y f)
def aEQ{next:Nat->Nat}(m:At next u N):∀k,k<=u->∀w∈(eY next N k).1,∀x∈w,next x∈w:=by
 intro k
 induction k with
 |zero=>intro _ w h;simp[eY]at h
 |succ k y=>
  intro z w h x H;obtain⟨A,_⟩:=Rp m k J;obtain⟨f,_⟩:=Rp m (k+1) z;rw[yX]at h f;unfold vC at h f;cases hs:(eY next N k).2.getD k true with
  |true=>rw[hs,aH rfl]at h;exact y J w h x H
  |false=>
   rw[hs,aw U]at h f;rcases fc.1 h with h|h
   .exact y J w h x H
   simp only[kV]at h;subst h;obtain⟨g1,B,j⟩:=ahq next ((eY next N k).2.length+1) k (eY next N k).2;have E:x<N:=by have:=Q6 (g1 x H);have:=Gy next N k;omega
   have g:=A x E;have e1:=f x E;rw[j,j,g1 x H]at e1;rw[g1 x H]at g;simp only[DJ,H,decide_true,<-g]at e1;exact lp e1.symm
def zr{next:Nat->Nat}(m:At next u N){w:aG}(h:w∈fO next N)(H:x∈w):next x∈w:=by unfold fO at h;rw[adQ m N m.le (cT _)]at h;exact aEQ m u (cT _) w h x H
def adv{next:Nat->Nat}(m:At next u N)(h:∀x,x<N->cX R x (next x)){w:aG}(H:w∈fO next N){x:Nat}(g:x∈w)(f:y∈w):cX R x y:=aDF m h N (cT _) w H x g y f
def C0(L:List aG)(x:Nat):Nat:=L.findIdx λw=>w.contains x
def MZ(h:L.flatten.Nodup){i:Nat}{w:aG}(H:L[i]?=some w)(f:x∈w):C0 L x=i:=by
 have g:w.contains x:=by simpa using f
 have A:L.findIdx (λw=>w.contains x)<I L:=amv ⟨w,ch H,g⟩;have hp:=aal (w:=A);have j:L[L.findIdx λw=>w.contains x]?=some (L[L.findIdx λw=>w.contains x]'A):=sT A;exact alV h j H (by simpa using hp) f
def aAQ:∀ {L:List aG},L.flatten.Nodup->(∀w∈L,w≠[])->((L.map (·.headD 0)).map (C0 L))=List.range (I L):=by
 intro L h A;apply y_;intro i;rw[fY,fY];by_cases H:i<I L
 .have e:=sT H;rw[e,qx H];simp only[se];have f:=A _ (ch e);rw[MZ h e (x:=L[i].headD 0) (by
   cases g:L[i]with
   |nil=>exact absurd g f
   |cons a r=>simp)]
 rw[oF J,oF (by simp;omega)];rfl
def nZ (b:Bool)(s:Nat):Nat:=if b then 1-s else s
def QM{b:Bool}{s:Nat}(h:s<2):nZ b s<2:=by unfold nZ;split<;>omega
def akV{b:Bool}{s:Nat}(h:s<2):nZ b (nZ b s)=s:=by unfold nZ;cases b<;>simp;omega
def uS(p:Nat->Bool)(y:Nat):Nat:=2*rv (y/2)+nZ (p (y/2)) (y%2)
def Y5(p:Nat->Bool)(aK:Nat->Nat)(y:Nat):Nat:=2*aK (rv (y/2))+nZ (p (y/2)) (y%2)
def ad6(p:Nat->Bool)(k:Nat):tK:=(List.range k).flatMap λe=>[(4*e,uS p (4*e)),(4*e+1,uS p (4*e+1))]
def aa9(p:Nat->Bool)(e:Nat):uS p (4*e)=if p (2*e)then 4*e+3 else 4*e+2:=by unfold uS nZ;rw[show 4*e/2=2*e by omega,wy,show 4*e%2=0 by omega];split<;>omega
def aaZ(p:Nat->Bool)(e:Nat):uS p (4*e+1)=if p (2*e)then 4*e+2 else 4*e+3:=by unfold uS nZ;rw[show(4*e+1)/2=2*e by omega,wy,show(4*e+1)%2=1 by omega];split<;>omega
def aE2{p:Nat->Bool}(hp:∀x,p (rv x)=p x)(e:Nat):uS p (4*e+2)=if p (2*e)then 4*e+1 else 4*e:=by unfold uS nZ;rw[show(4*e+2)/2=2*e+1 by omega,B_,show(4*e+2)%2=0 by omega,<-hp (2*e),wy];split<;>omega
def ati{p:Nat->Bool}(hp:∀x,p (rv x)=p x)(e:Nat):uS p (4*e+3)=if p (2*e)then 4*e else 4*e+1:=by unfold uS nZ;rw[show(4*e+3)/2=2*e+1 by omega,B_,show(4*e+3)%2=1 by omega,<-hp (2*e),wy];split<;>omega
def arv(p:Nat->Bool){k e:Nat}(h:e<k):(4*e,uS p (4*e))∈ad6 p k/\(4*e+1,uS p (4*e+1))∈ad6 p k:=
 ⟨K_.2 ⟨e,gI.2 h,aQ⟩,K_.2 ⟨e,gI.2 h,aQ⟩⟩
def agp{α β:Type}{P:α->β->Prop}{f:β->α}(j:∀a b,P a b->f b=a):∀ {L:List α},(∀a∈L,∃b,P a b)->∃M:List β,M.map f=L/\ ∀b∈M,∃a∈L,P a b:=by
 intro L
 induction L with
 |nil=>intro _;exact⟨[],rfl,aQ⟩
 |cons a L u=>
  intro h;obtain⟨b,g⟩:=h a aQ;obtain⟨M,y,m⟩:=u λx H=>h x (by simp[H]);refine⟨b::M,by rw[eR,y,j a b g],λx H=>?_⟩;rcases dk.1 H with rfl|H
  .exact⟨a,aQ,g⟩
  obtain⟨c,z,hp⟩:=m x H;exact⟨c,by simp[z],hp⟩
section
variable {F:Nat} {g:ae}
def aEC(ok:gy F g):(aL g).Nodup:=by have:=aeS ok.ax (I g) (cT _);refine acu (λ{a b} h e=>?_) this;subst e;exact absurd h (Nat.lt_irrefl _)
def Wn(ok:gy F g):I g=ai aa.aM g+ai aa.aF g:=by
 have:∀l:ae,(∀x∈l,x.aM\/x.aF)->I l=ai aa.aM l+ai aa.aF l:=by
  intro l
  induction l with
  |nil=>intro _;rfl
  |cons a l f=>
   intro h;have f:=f λx H=>h x (by simp[H]);unfold ai at f |-;rw[vh,vh,dw,f];rcases h a aQ with c|c
   .rw[c,q_ c];simp;omega
   have:a.aM=false:=by cases hp:a.aM;rfl;rw[q_ hp]at c;cases c
   rw[c,this];simp;omega
 exact this g ok.kinds
def aqL(ok:gy F g):∃L:aG,I L=ai aa.aM g+ai aa.aF g/2/\(∀j∈L,j<I g)/\(L.map (nr g)).Nodup:=by
 have z:=ok.cr;unfold nX at z;simp only[dj,dI]at z;have y:=z.2
 let ids:sK:=(gY g (I g)).map λid=>(1,id)
 have A:∀a∈ids,∃j,(nr g j=a/\j<I g):=by intro a x;obtain⟨id,H,rfl⟩:=eg.1 x;obtain⟨j,o,u,O⟩:=(GY (cT _)).1 H;obtain⟨m,Q,N,od,_⟩:=BS O;refine⟨j,?_,u⟩;unfold nr;rw[Q];simp[N,od]
 obtain⟨M,B,D⟩:=agp (P:=λa j=>nr g j=a/\j<I g) (f:=nr g) (λa b h=>h.1) A;have lN:∀i∈aL g,i<I g/\nr g i=(0,(i:Int)):=λi H=>by obtain⟨l,hl,hp⟩:=uh.1 H;refine⟨(cD.1 hl).1,?_⟩;unfold nr;rw[hl];simp[q_ hp]
 refine⟨aL g++M,?_,λj u=>?_,?_⟩
 .have:I M=I (gY g (I g)):=by
   have:=congrArg List.length B
   simpa [ids]using this
  rw[fv,this,y,O2]
 .rcases fc.1 u with u|u
  .exact(lN j u).1
  obtain⟨_,_,h⟩:=D j u;exact h.2
 rw[lU,B,BI];refine⟨?_,?_,?_⟩
 .have:(aL g).map (nr g)=(aL g).map λi:Nat=>((0:Int),(i:Int)):=Ax λi H=>(lN i H).2;rw[this];refine yK.2 (acu (λ{a b} h e=>h ?_) (aEC ok));have:=congrArg Prod.snd e;simp only at this;omega
 .refine yK.2 (acu (λ{a b} h e=>h ?_) (Uk g (I g)));exact congrArg Prod.snd e
 intro a x b E e;obtain⟨i,H,rfl⟩:=eg.1 x;obtain⟨id,_,rfl⟩:=eg.1 E;rw[(lN i H).2]at e;have:=congrArg Prod.fst e;simp at this
end
section
variable {F:Nat} {g:ae} {p:Nat->Bool}
abbrev Js(ls:ae)(p:Nat->Bool):Nat->Nat->Prop:=zF (2*ct ls) (Y5 p (cA ls)) (ad6 p (I ls+I (aL ls)))
def H0(g:ae):ct g=2*(I g+I (aL g)):=by unfold ct;omega
def aGU(hp:∀x,p (rv x)=p x)(j:y<2*ct g):cX (Js g p) y (uS p y):=by
 have m:=H0 g;obtain⟨H,h⟩:=arv p (k:=I g+I (aL g)) (e:=y/4) J;have r1:cX (Js g p) (4*(y/4)) (uS p (4*(y/4))):=.rel (.inr H);have R:cX (Js g p) (4*(y/4)+1) (uS p (4*(y/4)+1)):=.rel (.inr h);have A:=aE2 hp (y/4);have f:=ati hp (y/4);rcases(by omega:y=4*(y/4)\/y=4*(y/4)+1\/y=4*(y/4)+2\/y=4*(y/4)+3)with e|e|e|e
 .rw[<-e]at r1;exact r1
 .rw[<-e]at R;exact R
 .rw[<-e]at A;rw[A];rw[aa9]at r1;rw[aaZ]at R;by_cases c:p (2*(y/4))
  .rw[aH c]at R |-;rw[<-e]at R;exact R.symm
  rw[aw c]at r1 |-;rw[<-e]at r1;exact r1.symm
 rw[<-e]at f;rw[f];rw[aa9]at r1;rw[aaZ]at R;by_cases c:p (2*(y/4))
 .rw[aH c]at r1 |-;rw[<-e]at r1;exact r1.symm
 rw[aw c]at R |-;rw[<-e]at R;exact R.symm
def aoK(hp:∀x,p (rv x)=p x){x s:Nat}(h:x<ct g)(hs:s<2):cX (Js g p) (2*x+s) (2*rv x+nZ (p x) s):=by have:=aGU (g:=g) hp (y:=2*x+s) J;unfold uS at this;rwa[show(2*x+s)/2=x by omega,show(2*x+s)%2=s by omega]at this
def aki(hp:∀x,p (rv x)=p x){x s:Nat}(H:x<ct g)(hs:s<2):cX (Js g p) (2*x+s) (2*cA g x+s):=by
 have h:=H0 g;have f:nZ (p x) s<2:=QM hs;refine(aoK hp H hs).trans (.rel (.inl ⟨?_,?_⟩))
 .have:rv x<ct g:=by rw[h];exact Aq J
  omega
 unfold Y5;rw[show(2*rv x+nZ (p x) s)/2=rv x by omega,show(2*rv x+nZ (p x) s)%2=nZ (p x) s by omega,Bs,hp,akV hs]
def B4(g:ae)(p:Nat->Bool)(x:Nat):Prop:= ∃b,∀s,s<2->cX (Js g p) (2*x+s) (nZ b s)
def axP(g:ae)(p:Nat->Bool):B4 g p 0:=⟨false,λs _=>by rw[show 2*0+s=s by omega];exact .refl _⟩
def azr(a b:Bool){s:Nat}(h:s<2):nZ a (nZ b s)=nZ (a !=b) s:=by unfold nZ;cases a<;>cases b<;>simp;omega
def amP(hp:∀x,p (rv x)=p x){x:Nat}(f:x<ct g)(h:B4 g p x):B4 g p (rv x):=by obtain⟨b,h⟩:=h;refine⟨b !=p x,λs hs=>?_⟩;have H:=(aoK hp f (s:=nZ (p x) s) (QM hs)).symm.trans (h (nZ (p x) s) (QM hs));rwa[akV hs,azr _ _ hs]at H
def anD(hp:∀x,p (rv x)=p x){x:Nat}(H:x<ct g)(h:B4 g p x):B4 g p (cA g x):=by obtain⟨t,h⟩:=h;exact⟨t,λs hs=>(aki hp H hs).symm.trans (h s hs)⟩
def aAx(hp:∀x,p (rv x)=p x){x:Nat}(H:x<ct g)(h:B4 g p (cA g x)):B4 g p x:=by obtain⟨t,h⟩:=h;exact⟨t,λs hs=>(aki hp H hs).trans (h s hs)⟩
def aFD(hp:∀x,p (rv x)=p x)(ok:gy F g){x:Nat}(j:x<ct g):B4 g p x:=by
 have m:=uu ok;have L:=H0 g;have E:∀y,y<ct g->rv y<ct g:=λy h=>by rw[L]at h |-;exact Aq h
 have f:∀i,i<I g->B4 g p (2*i):=by
  intro i
  induction i with
  |zero=>intro _;exact axP g p
  |succ i M=>
   intro D;have A:=M J;have H:2*i<ct g:=J;have B:=anD hp H A;have u:=m.lt _ H;have z:=anD hp (E _ u) (amP hp u B);have e:2*i=j5 (I g) (i+1) true:=by unfold j5;rw[aH rfl,show i+1+I g-1=i+I g by omega,yq,jv J]
   rw[e,apB ok D]at z;exact z
 have str:∀y,y<2*I g->B4 g p y:=λy h=>by
  rcases w6 y with c|c
  .rw[show y=2*(y/2) by omega];exact f _ J
  have:=amP hp (x:=2*(y/2)) J (f (y/2) J);rw[wy]at this;rw[show y=2*(y/2)+1 by omega];exact this
 rcases LB x (2*I g)with c|c
 .exact str x c
 exact aAx hp j (str _ (m.ax x j c))
end
def avR{next:Nat->Nat}(m:At next u N){α:Type}{φ:Nat->α}(E:∀x,x<N->φ (next x)=φ x)(M:∀x∈h,x<N)(Q:(h.map φ).Nodup):I h<=I (fO next N):=by
 have X:=GS next N;have O:∀x,x<N->∃(i:Nat) (w:aG),(fO next N)[i]?=some w/\x∈w/\C0 (fO next N) x=i:=λx f=>by obtain⟨w,hw,g⟩:=EX.1 (X.2 x f);obtain⟨i,H⟩:=jL hw;exact⟨i,w,H,g,MZ X.1 H g⟩
 have F:∀a b,cX (λx y=>x<N/\y=next x) a b->φ a=φ b:=λa b T=>by
  induction T with
  |rel T=>rw[T.2,E _ T.1]
  |refl _=>rfl
  |symm _ ih=>exact ih.symm
  |trans _ _ D A=>exact D.trans A
 have Z:∀x,x<N->∀y,y<N->C0 (fO next N) x=C0 (fO next N) y->φ x=φ y:=λx f y L e=>by obtain⟨i,w,H,g,e1⟩:=O x f;obtain⟨j,v,Y,B,e2⟩:=O y L;rw[e1,e2]at e;subst e;rw[H]at Y;cases Y;exact F x y (adv m (R:=λx y=>x<N/\y=next x) (λz hz=>.rel ⟨hz,rfl⟩) (ch H) g B)
 have D:(h.map (C0 (fO next N))).Nodup:=by unfold List.Nodup at Q |-;rw[yK]at Q |-;refine Q.imp_of_mem λ{x y} f L T e=>?_;exact T (Z x (M x f) y (M y L) e)
 have A:∀i∈h.map (C0 (fO next N)),i∈List.range (I (fO next N)):=λi H=>by obtain⟨x,f,rfl⟩:=eg.1 H;obtain⟨i,w,H,_,e⟩:=O x (M x f);rw[e];exact gI.2 (cD.1 H).1
 have:=KK _ _ D A;rwa[cH,Cq]at this
end
end Go.Abs
