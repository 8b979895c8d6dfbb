/- A part. -/
import Derived.Test.YtenindeoffokoaaGreatDoorWi
set_option linter.all false
open List renaming length->I
set_option maxRecDepth 100000
set_option maxHeartbeats 16000000
namespace Go.Abs
variable{u:fM}{R R' E z:Nat->Nat->Prop}{m F:Nat}{h L:aG}{T B:Nat->Nat->Nat}
section
variable{N n j v x y:Nat}
def om(x:dI):PV:=if x=[]then .nils else .sl x
def uh(x:dI):(om x).norm=.sl x:=by
 unfold om;by_cases h:x=[]
 .rw[aD h,h];rfl
 rw[aC h];rfl
def Y6{blk:aJ}{s T z:Nat}{E:dI}(lo:S.lone s):fR blk [] s ((RV.one (cU T z E)).iA (S.lone s))=some (.one (.p (om E)),[]):=by
 rw[lo];unfold cU om;by_cases h:E=[]
 .rw[aD h,aD h];rfl
 rw[aC h,aC h];rfl
section
variable {F:Nat} {L:af}
abbrev EH(k:Int)(a b:Nat):dJ:=⟨k,a,b,0,false,false,0⟩
abbrev Mf(k:Int)(a b c:Nat):dJ:=⟨k,a,b,c,false,false,0⟩
def Ch{k a b c sg:Int}{l o:Bool}(j:k=3\/k=6):fC F L k a b c l o sg↔ ∃A B:Nat,A<B/\B<I L/\a=A/\b=B/\c=0/\l=false/\o=false/\sg=0:=by
 unfold fC;rcases j with rfl|rfl
 all_goals
  simp only[Int.reduceEq,if_true,if_false,false_or,or_false,true_or,or_true,cP,ke,c8,iJ];constructor
  .rintro ⟨rfl,rfl,rfl,f,rfl,H,m⟩
   obtain⟨A,rfl,n⟩:=jK f;obtain⟨B,rfl,h⟩:=jK H;exact⟨A,B,J,h,rfl,rfl,rfl,rfl,rfl,rfl⟩
  rintro⟨A,B,D,h,rfl,rfl,rfl,rfl,rfl,rfl⟩
  exact⟨rfl,rfl,rfl,by unfold l_;simp;omega,rfl,by unfold l_;simp;omega,J⟩
def Pf{a b c sg:Int}{l o:Bool}:fC F L 8 a b c l o sg↔ ∃A B f:Nat,A<B/\B<f/\f<I L/\a=A/\b=B/\c=f/\l=false/\o=false/\sg=0:=by
 unfold fC;simp only[Int.reduceEq,if_true,if_false,false_or,or_false,true_or,or_true,or_self,cP,ke,c8,iJ];constructor
 .rintro ⟨rfl,rfl,rfl,j,H,m,y,n⟩
  obtain⟨A,rfl,x⟩:=jK j;obtain⟨B,rfl,u⟩:=jK H;obtain⟨f,rfl,h⟩:=jK m;exact⟨A,B,f,J,J,h,rfl,rfl,rfl,rfl,rfl,rfl⟩
 rintro⟨A,B,f,D,v,h,rfl,rfl,rfl,rfl,rfl,rfl⟩
 exact⟨rfl,rfl,rfl,by unfold l_;simp;omega,by unfold l_;simp;omega,by unfold l_;simp;omega,J,J⟩
def aiP{pl a b:Nat}{n:Int}(D:a<b)(h:oF F L pl [a,b] a)(ae:∀j,j<2->lJ n a (gJ F L (2*a+j)).di u)(v:n≠8):EH n a b∈u:=by
 have m:∀f:dL,xH f pl [a,b]->lJ n a f.di u->EH n a b∈u:=λf hf ae=>by
  unfold xH at hf;simp only[cP,c8,j4]at hf;obtain⟨B,_,y⟩:=hf;have E:∀e∈[a,b],∃d∈f.di,d/2=e:=λe z=>by have A:=y e z;unfold yw at A;obtain⟨d,H,x⟩:=zp.1 (show 0<f.di.countP λd=>d/2==e by omega);exact⟨d,H,c8.1 x⟩
  exact ae.1 v b D B (E a aE) (E b aE)
 unfold oF at h;rw[uW]at h;rcases h with h|h
 .exact m _ h (ae 0 aa)
 exact m _ h (ae 1 aa)
def aw8{pl a b c:Nat}(D:a<b)(x:b<c)(h:oF F L pl [a,b,c] a)(ae:∀j,j<2->lJ 8 a (gJ F L (2*a+j)).di u):Mf 8 a b c∈u:=by
 have m:∀f:dL,xH f pl [a,b,c]->lJ 8 a f.di u->Mf 8 a b c∈u:=λf hf ae=>by
  unfold xH at hf;simp only[cP,c8,j4]at hf;obtain⟨A,_,v⟩:=hf;have E:∀e∈[a,b,c],∃d∈f.di,d/2=e:=λe y=>by have z:=v e y;unfold yw at z;obtain⟨d,H,n⟩:=zp.1 (show 0<f.di.countP λd=>d/2==e by omega);exact⟨d,H,c8.1 n⟩
  exact ae.2 rfl b c D x A (E a aE) (E b aE) (E c aE)
 unfold oF at h;rw[uW]at h;rcases h with h|h
 .exact m _ h (ae 0 aa)
 exact m _ h (ae 1 aa)
end
inductive cH (R:Nat->Nat->Prop):Nat->Nat->Prop
 |rel {a b:Nat}:R a b->cH R a b
 |refl (a:Nat):cH R a a
 |symm {a b:Nat}:cH R a b->cH R b a
 |trans {a b c:Nat}:cH R a b->cH R b c->cH R a c
def cH.mono(h:∀a b,R a b->cH R' a b)(e:cH R x y):cH R' x y:=by
 induction e with
 |rel r=>exact h _ _ r
 |refl a=>exact .refl a
 |symm _ f=>exact .symm f
 |trans _ _ i1 i2=>exact .trans i1 i2
def cH.inv{α:Type}{f:Nat->α}(h:∀a b,R a b->f a=f b)(e:cH R x y):f x=f y:=by
 induction e with
 |rel r=>exact h _ _ r
 |refl a=>rfl
 |symm _ j=>exact j.symm
 |trans _ _ i1 i2=>exact i1.trans i2
def uP (E:Nat->Nat->Prop)(x:Nat):Prop:=∀y,E x y->x<=y
noncomputable def LN (E:Nat->Nat->Prop) (x:Nat):Bool:= @decide (uP E x) (Classical.propDecidable _)
def KX:LN E x↔uP E x:=by
 unfold LN
 grind
noncomputable def ba (E:Nat->Nat->Prop) (n:Nat):Nat:=(List.range n).countP (LN E)
def K9(h:∀x y,E x y↔z x y)(n:Nat):ba E n=ba z n:=by have:=funext λx=>funext λy=>propext (h x y);rw[this]
def aiB{p:Nat->Prop}:∀n,p n->∃m,p m/\ ∀k,p k->m<=k:=by
 intro n
 induction n using Nat.strongRecOn with
 |ind n f=>grind
def ZO(R:Nat->Nat->Prop)(x:Nat):∃m,cH R x m/\uP (cH R) m/\m<=x:=by obtain⟨m,h,H⟩:=aiB (p:=λy=>cH R x y) x (.refl x);exact⟨m,h,λy f=>H y (h.trans f),H x (.refl x)⟩
def aBj{p:Nat->Bool}(hp:p x):∀ {l:aG},l.Nodup->x∈l->l.countP p=l.countP (λy=>p y&&y !=x)+1:=by
 intro l
 induction l with
 |nil=>intro _ h;cases h
 |cons a l f=>grind [A5]
abbrev um(R:Nat->Nat->Prop)(a b:Nat)(x y:Nat):Prop:=R x y\/(x=a/\y=b)
def HR{a b:Nat}:cH (um R a b) x y↔cH R x y\/(cH R x a/\cH R b y)\/(cH R x b/\cH R a y):=by
 constructor
 .intro h
  induction h with
  |rel r=>
   rcases r with r|⟨rfl,rfl⟩
   .exact .inl (.rel r)
   exact .inr (.inl ⟨.refl _,.refl _⟩)
  |refl a=>exact .inl (.refl a)
  |symm _ j=>
   rcases j with h|⟨H,f⟩|⟨H,f⟩
   .exact .inl h.symm
   .exact .inr (.inr ⟨f.symm,H.symm⟩)
   exact .inr (.inl ⟨f.symm,H.symm⟩)
  |trans _ _ i1 i2=>
   rcases i1 with h|⟨H,f⟩|⟨H,f⟩<;>rcases i2 with k|⟨k1,k2⟩|⟨k1,k2⟩
   .exact .inl (h.trans k)
   .exact .inr (.inl ⟨h.trans k1,k2⟩)
   .exact .inr (.inr ⟨h.trans k1,k2⟩)
   .exact .inr (.inl ⟨H,f.trans k⟩)
   .grind
   .exact .inl (H.trans k2)
   .exact .inr (.inr ⟨H,f.trans k⟩)
   .exact .inl (H.trans k2)
   grind
 have up:∀ {u v},cH R u v->cH (um R a b) u v:=λh=>h.mono λ_ _ r=>.rel (.inl r);have A:cH (um R a b) a b:=.rel (.inr ⟨rfl,rfl⟩);rintro(h|⟨H,f⟩|⟨H,f⟩)
 .exact up h
 .exact(up H).trans (A.trans (up f))
 exact(up H).trans (A.symm.trans (up f))
theorem acz{a b:Nat}(h:cH R a b)(n:Nat):ba (cH (um R a b)) n=ba (cH R) n:=by
 refine K9 (λx y=>?_) n;rw[HR];constructor
 .rintro (k|⟨f,H⟩|⟨f,H⟩)
  .exact k
  .exact f.trans (h.trans H)
  exact f.trans (h.symm.trans H)
 exact .inl
def aeV(H:m<n)(f:uP E m)(h:∀x,uP z x↔uP E x/\x≠m):ba E n=ba z n+1:=by unfold ba;rw[aBj (KX.2 f) D8 (gA.2 H)];congr 1;refine A5 λx _=>?_;rw[KX,h,cP,KX];simp
theorem WE{a b:Nat}(L:a<n)(F:b<n)(h:¬cH R a b):ba (cH R) n=ba (cH (um R a b)) n+1:=by
 obtain⟨p,m,z,D⟩:=ZO R a;obtain⟨q,Q,A,M⟩:=ZO R b;have Z:p≠q:=λe=>h (m.trans (e▸Q.symm));rcases FI Z with c|c
 .refine aeV J A λx=>⟨λH=>⟨λy f=>H y (HR.2 (.inl f)),?_⟩,λ⟨H,v⟩ y f=>?_⟩
  .rintro rfl
   have:=H p (HR.2 (.inr (.inr ⟨Q.symm,m⟩)));omega
  rcases HR.1 f with f|⟨j,u⟩|⟨j,u⟩
  .exact H y f
  .have E:=H p (j.trans m);have B:=A y (Q.symm.trans u);omega
  have E:=H q (j.trans Q);have B:=A x (Q.symm.trans j.symm);omega
 refine aeV J z λx=>⟨λH=>⟨λy f=>H y (HR.2 (.inl f)),?_⟩,λ⟨H,v⟩ y f=>?_⟩
 .rintro rfl
  have:=H q (HR.2 (.inr (.inl ⟨m.symm,Q⟩)));omega
 rcases HR.1 f with f|⟨j,u⟩|⟨j,u⟩
 .exact H y f
 .have E:=H p (j.trans m);have B:=z x (m.symm.trans j.symm);omega
 have E:=H q (j.trans Q);have B:=z y (m.symm.trans u);omega
def SR{α:Type}{f:Nat->α}(ab:∀a b,R a b->f a=f b)(u:∀x∈h,x<n)(j:(h.map f).Nodup):I h<=ba (cH R) n:=by
 have z:∀h:aG,(∀x∈h,x<n)->(h.map f).Nodup->∃L:aG,I L=I h/\L.Nodup/\(∀m∈L,m<n/\uP (cH R) m)/\ ∀m∈L,f m∈h.map f:=by
  intro h
  induction h with
  |nil=>intro _ _;exact⟨[],rfl,qK,aE,aE⟩
  |cons a r E=>
   intro u j;rw[eZ,rR]at j;obtain⟨L,B,D,y,O⟩:=E (λx H=>u x (by simp[H])) j.2;obtain⟨m,Q,Y,Z⟩:=ZO R a;have v:=(Q.inv ab).symm;have X:=u a aE;refine⟨m::L,by simp[B],rR.2 ⟨λT=>j.1 (v▸O m T),D⟩,λx H=>?_,λx H=>?_⟩
   .grind
   grind
 obtain⟨L,B,D,y,_⟩:=z h u j;rw[<-B];unfold ba;rw[UM];have A:∀(L M:aG),L.Nodup->(∀x∈L,x∈M)->I L<=I M:=by
  intro L
  induction L with
  |nil=>intro M _ _;exact bZ _
  |cons a L E=>
   intro M j ae;obtain⟨N,F⟩:=rR.1 j;have X:=ae a aE;have:=E (M.erase a) F λx H=>(Vb (by rintro rfl;exact N H)).2 (ae x (by simp[H]))
   grind
 exact A L _ D λx H=>r4.2 ⟨gA.2 (y x H).1,KX.2 (y x H).2⟩
def ag9(h:∀x,x<n->cH R x 0):ba (cH R) n<=1:=by
 unfold ba;have j:=λx H hl=>by have:=KX.1 hl 0 (h x (gA.1 H));omega
 have:∀l:aG,l.Nodup->(∀x∈l,LN (cH R) x->x=0)->l.countP (LN (cH R))<=1:=by
  intro l
  induction l with
  |nil=>intro _ _;simp
  |cons a l f=>grind [IW]
 grind
structure uj (n:Nat) (p:Nat->Nat):Prop where
 lt:∀x,x<n->p x<n
 inj:∀x y,x<n->y<n->p x=p y->x=y
abbrev gR(n:Nat)(p:Nat->Nat)(x y:Nat):Prop:=x<n/\y=p x
def tr (p:Nat->Nat)(t:Nat×Nat)(x:Nat):Nat:=if x=t.1 then p t.2 else if x=t.2 then p t.1 else p x
def Ld(p:Nat->Nat)(a b x:Nat):tr p (a,b) x=p (if x=a then b else if x=b then a else x):=by
 unfold tr;simp only
 grind
def uj.tr{p:Nat->Nat}(h:uj n p){a b:Nat}(j:a<n)(m:b<n):uj n (tr p (a,b)):=by
 have ae:∀x,x<n->(if x=a then b else if x=b then a else x)<n:=λx H=>by split<;>(try split)<;>assumption
 refine⟨λx H=>by rw[Ld];exact h.lt _ (ae x H),λx y H f e=>?_⟩;rw[Ld,Ld]at e;have e:=h.inj _ _ (ae x H) (ae y f) e;by_cases X:x=a
 .rw[aD X]at e;by_cases Y:y=a
  .omega
  rw[aC Y]at e;split at e<;>omega
 rw[aC X]at e;by_cases Y:y=a
 .rw[aD Y]at e;split at e<;>omega
 rw[aC Y]at e;split at e<;>split at e<;>omega
def it (p:Nat->Nat):Nat->Nat->Nat
 |0,x=>x
 |k+1,x=>p (it p k x)
def uj.Ks{p:Nat->Nat}(h:uj n p)(H:x<n):∀k,it p k x<n:=by
 intro k
 induction k with
 |zero=>exact H
 |succ k f=>exact h.lt _ f
def uj.back{p:Nat->Nat}(h:uj n p)(H:x<n):∀i j,it p (i+j) x=it p i x->it p j x=x:=by
 intro i
 induction i with
 |zero=>intro j e;rw[jN]at e;exact e
 |succ i f=>intro j e;rw[show i+1+j=(i+j)+1 by omega]at e;exact f j (h.inj _ _ (h.Ks H _) (h.Ks H _) e)
def I5:∀(L M:aG),L.Nodup->(∀x∈L,x∈M)->I L<=I M:=by
 intro L
 induction L with
 |nil=>intro M _ _;exact bZ _
 |cons a L f=>
  intro M m ae;obtain⟨j,H⟩:=rR.1 m;have:=f _ H λx h=>(Vb (by rintro rfl;exact j h)).2 (ae x (by simp[h]))
  grind
def uj.aeo{p:Nat->Nat}(h:uj n p)(u:x<n):∃m,it p (m+1) x=x:=by
 apply Classical.byContradiction;intro E;have f:∀k,((List.range k).map λi=>it p i x).Nodup:=by
  intro k
  induction k with
  |zero=>simp
  |succ k A=>rw[nJ,fL,SZ];refine⟨A,aE,λa z b H=>?_⟩;obtain⟨i,j,rfl⟩:=ch.1 z;have j:=gA.1 j;simp only[eZ,m_,mj]at H;subst H;intro e;have:=h.back u i (k-i) (by rw[show i+(k-i)=k by omega];exact e.symm);exact E ⟨k-i-1,by rw[show k-i-1+1=k-i by omega];exact this⟩
 have:=I5 _ (List.range n) (f (n+1)) λy v=>by obtain⟨i,_,rfl⟩:=ch.1 v;exact gA.2 (h.Ks u i)
 rw[cg,wI,wI]at this;omega
def aeu(p:Nat->Nat)(x:Nat):∀k,it p (k+1) x=it p k (p x):=by
 intro k
 induction k with
 |zero=>rfl
 |succ k f=>show p _=p _;rw[f]
def aeX{p:Nat->Nat}(h:uj n p){a b:Nat}(v:a<n)(H:b<n)(x:¬cH (gR n p) a b):cH (gR n (tr p (a,b))) a b:=by
 obtain⟨m,u⟩:=h.aeo H;have E:tr p (a,b) a=p b:=by unfold tr;rw[aD rfl]
 have D:∀k,cH (gR n p) b (it p k b):=by
  intro k
  induction k with
  |zero=>exact .refl _
  |succ k f=>exact f.trans (.rel ⟨h.Ks H k,rfl⟩)
 have j:∀k,cH (gR n (tr p (a,b))) a b\/cH (gR n (tr p (a,b))) a (it p k (p b)):=by
  intro k
  induction k with
  |zero=>exact .inr (.rel ⟨v,E.symm⟩)
  |succ k f=>
   rcases f with f|f
   .exact .inl f
   by_cases c:it p k (p b)=b
   .grind
   refine .inr (f.trans (.rel ⟨h.Ks (h.lt _ H) k,?_⟩));have N:it p k (p b)≠a:=λe=>x (by have:=D (k+1);rw[aeu,e]at this;exact this.symm)
   unfold tr;rw[aC N,aC c];rfl
 rcases j m with k|k
 .exact k
 rw[<-aeu,u]at k;exact k
def YF{p:Nat->Nat}{a b:Nat}(f:a<n)(H:b<n){S:Nat->Nat->Prop}{x y:Nat}:cH (um (λx y=>gR n (tr p (a,b)) x y\/S x y) a b) x y↔cH (um (λx y=>gR n p x y\/S x y) a b) x y:=by
 have A:∀R:Nat->Nat->Prop,cH (um R a b) a b:=λR=>.rel (.inr ⟨rfl,rfl⟩);constructor
 .refine cH.mono λu v r=>?_;rcases r with(⟨h,rfl⟩|s)|⟨rfl,rfl⟩
  .unfold tr;by_cases c:u=a
   .subst c;rw[aD rfl];exact(A _).trans (.rel (.inl (.inl ⟨H,rfl⟩)))
   rw[aC c];by_cases d:u=b
   .subst d;rw[aD rfl];exact(A _).symm.trans (.rel (.inl (.inl ⟨f,rfl⟩)))
   rw[aC d];exact .rel (.inl (.inl ⟨h,rfl⟩))
  .exact .rel (.inl (.inr s))
  exact A _
 refine cH.mono λu v r=>?_;rcases r with(⟨h,rfl⟩|s)|⟨rfl,rfl⟩
 .by_cases c:u=a
  .subst c;refine(A _).trans (.rel (.inl (.inl ⟨H,?_⟩)));unfold tr;simp only
   grind
  by_cases d:u=b
  .subst d;refine(A _).symm.trans (.rel (.inl (.inl ⟨f,?_⟩)));unfold tr;rw[aD rfl]
  refine .rel (.inl (.inl ⟨h,?_⟩));unfold tr;rw[aC c,aC d]
 .exact .rel (.inl (.inr s))
 exact A _
abbrev ajQ(ts:qO)(x y:Nat):Prop:=(x,y)∈ts
abbrev zC(n:Nat)(p:Nat->Nat)(ts:qO)(x y:Nat):Prop:=gR n p x y\/ajQ ts x y
def ajI:∀(ts:qO) (p:Nat->Nat),uj n p->(∀t∈ts,t.1<n/\t.2<n)->
  ba (cH (gR n (ts.foldl tr p))) n+ba (cH (gR n p)) n<=2*ba (cH (zC n p ts)) n+I ts:=by
 intro ts
 induction ts with
 |nil=>
  intro p _ _;have:ba (cH (zC n p [])) n=ba (cH (gR n p)) n:=K9 (λx y=>⟨cH.mono (R:=zC n p []) (R':=gR n p) (λu v r=>by
   rcases r with r|r
   .exact .rel r
   cases r),cH.mono (R:=gR n p) (R':=zC n p []) (λu v r=>.rel (.inl r))⟩) n
  rw[this];simp only[Nb,ga];omega
 |cons t ts A=>
  intro p hp z;obtain⟨a,b⟩:=t;obtain⟨f,H⟩:=z (a,b) aE
  replace f:a<n:=f
  replace H:b<n:=H
  have A:=A (tr p (a,b)) (hp.tr f H) λt h=>z t (by simp[h]);have all:∀x y,cH (zC n p ((a,b)::ts)) x y↔cH (um (zC n (tr p (a,b)) ts) a b) x y:=λx y=>by
   refine Iff.trans ⟨cH.mono λu v r=>?_,cH.mono λu v r=>?_⟩ (YF (S:=ajQ ts) f H).symm
   .rcases r with r|r
    .exact .rel (.inl (.inl r))
    rcases c7.1 r with r|r
    .cases r;exact .rel (.inr ⟨rfl,rfl⟩)
    exact .rel (.inl (.inr r))
   rcases r with(r|r)|⟨rfl,rfl⟩
   .exact .rel (.inl r)
   .exact .rel (.inr (zY _ r))
   exact .rel (.inr (Lz ..))
  have one:∀x y,cH (um (gR n (tr p (a,b))) a b) x y↔cH (um (gR n p) a b) x y:=λx y=>by have h:=YF (p:=p) (S:=λ_ _=>False) f H (x:=x) (y:=y);have e:∀q:Nat->Nat,(λx y=>gR n q x y\/False)=gR n q:=λq=>funext λx=>funext λy=>propext aE;rw[e,e]at h;exact h
  rw[K9 all];simp only[CM,fP];have B:ba (cH (um (gR n (tr p (a,b))) a b)) n=ba (cH (um (gR n p) a b)) n:=K9 one n;have j:∀R:Nat->Nat->Prop,cH R a b->ba (cH (um R a b)) n=ba (cH R) n:=λR h=>acz h n;have m:∀R:Nat->Nat->Prop,¬cH R a b->ba (cH R) n=ba (cH (um R a b)) n+1:=λR h=>WE f H h;rcases Classical.em (cH (gR n p) a b)with c|c
  .have k1:=j _ c;rcases Classical.em (cH (gR n (tr p (a,b))) a b)with d|d
   .have k2:=j _ d;have k3:=j _ (d.mono (R':=zC n (tr p (a,b)) ts) λu v r=>.rel (.inl r));omega
   have k2:=m _ d;rcases Classical.em (cH (zC n (tr p (a,b)) ts) a b)with D|D
   .have k3:=j _ D;omega
   have k3:=m _ D;omega
  have k1:=m _ c;have d:=aeX hp f H c;have k2:=j _ d;have k3:=j _ (d.mono (R':=zC n (tr p (a,b)) ts) λu v r=>.rel (.inl r));omega
def rv (x:Nat):Nat:=if x%2=0 then x+1 else x-1
theorem sf(k:Nat):rv (2*k)=2*k+1:=by unfold rv;rw[aD J]
theorem AJ(k:Nat):rv (2*k+1)=2*k:=by unfold rv;rw[aC J];rfl
theorem uQ(x:Nat):rv (rv x)=x:=by
 rcases qL x with h|h
 .rw[show x=2*(x/2) by omega,sf,AJ]
 rw[show x=2*(x/2)+1 by omega,AJ,sf]
theorem uB(h:x<2*m):rv x<2*m:=by unfold rv;split<;>omega
theorem uZ(n v:Nat)(g:Bool):rv (dS n v g)=g_ n v (!g):=by
 cases g with
 |true=>exact sf _
 |false=>exact AJ _
def ana(n v:Nat)(g:Bool):rv (g_ n v g)=dS n v (!g):=by
 cases g with
 |true=>exact sf _
 |false=>exact AJ _
theorem wJ(h:v<n)(g:Bool):g_ n v g<2*n:=by have:=cT (v+n-1) (show 0<n by omega);unfold g_;split<;>omega
def Nx(H:x<2*n):x=g_ n (if x%2=0 then(x/2+1)%n else x/2) (x%2==0):=by
 unfold g_;rcases qL x with h|h
 .simp[h,sv,if_true];rw[w8 J];omega
 grind
section
variable {F:Nat} {f:af}
def ajy{l:U}(hl:f[v]?=some l)(F:Bool):aU f (g_ (I f) v F)=if l.kind==2 then dS (I f) (iI f v) (F==(l.over==(l.sign==1)))
   else if dn f v==F then 2*I f+2*(aA f).idxOf v else 2*I f+2*(((aA f).idxOf v+I (aA f)-1)%I (aA f))+1:=by
 have h:=(bt.1 hl).1;have A:=wJ h F;refine ajU J ?_ ?_ hl
 .unfold g_;cases F<;>simp
 unfold g_;cases F with
 |true=>simp only[if_true];rw[show 2*((v+I f-1)%I f)/2=(v+I f-1)%I f by omega,wx h]
 |false=>simp;omega
theorem w9{l:U}(hl:f[v]?=some l)(h:l.ak)(F:Bool):aU f (g_ (I f) v F)=dS (I f) (iI f v) (F==(l.over==(l.sign==1))):=by rw[ajy hl];unfold U.ak at h;rw[aD h]
def Cn{l:U}(hl:f[v]?=some l)(hp:l.ay)(F:Bool):aU f (g_ (I f) v F)=if dn f v==F then 2*I f+2*(aA f).idxOf v else 2*I f+2*(((aA f).idxOf v+I (aA f)-1)%I (aA f))+1:=by have:=nL hp;unfold U.ak at this;rw[ajy hl,aC (by grind)]
def AN(k:Nat):aU f (2*I f+2*k)=dS (I f) ((aA f).getD ((k+1)%I (aA f)) 0) (!dn f ((aA f).getD ((k+1)%I (aA f)) 0)):=by
 show iY _ _ _=_;unfold iY
 grind
theorem A_(k:Nat):aU f (2*I f+2*k+1)=dS (I f) ((aA f).getD k 0) (dn f ((aA f).getD k 0)):=by
 show iY _ _ _=_;unfold iY
 grind
def AI{k:Nat}(H:k<I (aA f)):∃l,f[(aA f).getD k 0]?=some l/\l.ay:=by obtain⟨v,h⟩:=aP H;rw[dD,h,nM];exact sB.1 (a7 h)
def Iu{l:U}(ok:gN F f)(hl:f[v]?=some l)(hp:l.ay):(aA f).idxOf v<I (aA f)/\(aA f).getD ((aA f).idxOf v) 0=v:=by
 have h:=IK ok.ax hl hp
 grind
def aaV(ok:gN F f)(y:v<I f)(h:Bool):aU f (rv (aU f (g_ (I f) v h)))=dS (I f) v h:=by
 obtain⟨l,hl⟩:=aP y;rcases ok.kinds l (a7 hl)with hp|n
 .obtain⟨H,j⟩:=Iu ok hl hp;rw[Cn hl hp];by_cases c:(dn f v==h)
  .rw[aD c,show 2*I f+2*(aA f).idxOf v=2*(I f+(aA f).idxOf v) by omega,sf,show 2*(I f+(aA f).idxOf v)+1=2*I f+2*(aA f).idxOf v+1 by omega,A_,j];rw[eq_of_beq c]
  rw[aC c];have c:dn f v= !h:=by revert c;cases dn f v<;>cases h<;>simp
  rw[show 2*I f+2*(((aA f).idxOf v+I (aA f)-1)%I (aA f))+1=2*(I f+((aA f).idxOf v+I (aA f)-1)%I (aA f))+1 by omega,AJ,
   show 2*(I f+((aA f).idxOf v+I (aA f)-1)%I (aA f))=2*I f+2*(((aA f).idxOf v+I (aA f)-1)%I (aA f)) by omega,AN,wx H,j,c,yI]
 obtain⟨H,m,u,z,A,x,M⟩:=qN ok.cr hl n;rw[w9 hl n,uZ,w9 u z,H,x,M];cases h<;>cases l.over<;>cases(l.sign==1)<;>rfl
def uv(f:af)(x:Nat):Nat:=
 if 2*I f<=x then(if x%2=0 then(aA f).getD (((x-2*I f)/2+1)%I (aA f)) 0 else(aA f).getD ((x-2*I f)/2) 0)
 else if x%2=0 then(x/2+1)%I f else x/2
def BQ(f:af)(x:Nat):Bool:=decide (2*I f<=x)||(match f[uv f x]? with|some l=>l.ak&&l.over|none=>false)
def lA(f:af)(i:Nat):Int×Int:=match f[i]? with|some l=>if l.ak then(1,l.id)else(0,i)|none=>(2,0)
theorem IA(h:v<I f)(F:Bool):uv f (g_ (I f) v F)=v:=by
 have A:=wJ h F;unfold uv;rw[aC J];unfold g_;cases F with
 |true=>simp only[if_true];rw[aD J,show 2*((v+I f-1)%I f)/2=(v+I f-1)%I f by omega,wx h]
 |false=>simp only[fE,if_false];rw[aC J];omega
def aba{l:U}(hl:f[v]?=some l)(F:Bool):BQ f (g_ (I f) v F)=(l.ak&&l.over):=by
 have h:=(bt.1 hl).1;have A:=wJ h F;unfold BQ;rw[IA h,hl]
 grind
def amf(k:Nat):uv f (2*I f+2*k)=(aA f).getD ((k+1)%I (aA f)) 0:=by
 unfold uv
 grind
def ajs(k:Nat):uv f (2*I f+2*k+1)=(aA f).getD k 0:=by
 unfold uv
 grind
def abg(h:2*I f<=x):BQ f x:=by unfold BQ;simp[h]
def ZU(ok:gN F f)(A:x<aT f):lA f (uv f (rv (aU f x)))=lA f (uv f x)/\BQ f (rv (aU f x))= !BQ f x:=by
 unfold aT at A;rcases LB x (2*I f)with c|c
 .have j:(if x%2=0 then(x/2+1)%I f else x/2)<I f:=by
   have:=cT (x/2+1) (show 0<I f by omega);split<;>omega
  rw[Nx c];generalize(if x%2=0 then(x/2+1)%I f else x/2)=v at j;generalize(x%2==0)=fw;obtain⟨l,hl⟩:=aP j;rw[IA j,aba hl];rcases ok.kinds l (a7 hl)with hp|n
  .obtain⟨y,u⟩:=Iu ok hl hp;rw[nL hp,Cn hl hp];by_cases d:(dn f v==fw)
   .rw[aD d,show 2*I f+2*(aA f).idxOf v=2*(I f+(aA f).idxOf v) by omega,sf,show 2*(I f+(aA f).idxOf v)+1=2*I f+2*(aA f).idxOf v+1 by omega,ajs,u,abg J];exact⟨rfl,rfl⟩
   rw[aC d,show 2*I f+2*(((aA f).idxOf v+I (aA f)-1)%I (aA f))+1=2*(I f+((aA f).idxOf v+I (aA f)-1)%I (aA f))+1 by omega,AJ,
    show 2*(I f+((aA f).idxOf v+I (aA f)-1)%I (aA f))=2*I f+2*(((aA f).idxOf v+I (aA f)-1)%I (aA f)) by omega,amf,wx y,u,abg J]
   exact⟨rfl,rfl⟩
  obtain⟨y,m,H,E,B,M,L⟩:=qN ok.cr hl n;have z:=(bt.1 H).1;rw[w9 hl n,uZ,IA z,aba H];unfold lA;simp[hl,H,n,E,B,M]
 rw[abg c];have h:∀k,k<I (aA f)->∀g,lA f (uv f (rv (dS (I f) ((aA f).getD k 0) g)))=lA f ((aA f).getD k 0)/\BQ f (rv (dS (I f) ((aA f).getD k 0) g))= !true:=λk D g=>by obtain⟨l,hl,hp⟩:=AI D;rw[uZ,IA (bt.1 hl).1,aba hl,nL hp];exact⟨rfl,rfl⟩
 rcases qL x with d|d
 .rw[show x=2*I f+2*((x-2*I f)/2) by omega,AN,amf];exact h _ (cT _ J) _
 rw[show x=2*I f+2*((x-2*I f)/2)+1 by omega,A_,ajs];exact h _ J _
end
def aAT{next:Nat->Nat}(A:∀x,x<N->next x<N)(h:∀x,x<N->cH R x (next x)):∀(k x:Nat) (S:gD),x<N->∀y∈(hJ next k x S).1,cH R x y:=by
 intro k
 induction k with
 |zero=>intro x S _ y H;simp[hJ]at H
 |succ k j=>
  intro x S f y H;unfold hJ at H;split at H
  .simp at H
  rcases c7.1 H with rfl|H
  .exact .refl _
  exact(h x f).trans (j _ _ (A x f) y H)
def azi{next:Nat->Nat}(m:AU next j N)(h:∀x,x<N->cH R x (next x)):∀k,k<=N->∀w∈(ft next N k).1,∀x∈w,∀y∈w,cH R x y:=by
 intro k
 induction k with
 |zero=>intro _ w H;simp[ft]at H
 |succ k z=>
  intro v w H x u y n;rw[Ad]at H;unfold xl at H;split at H
  .grind
  rcases gn.1 H with H|H
  .grind
  simp at H;subst H;have f:=aAT m.lt h ((ft next N k).2.length+1) k (ft next N k).2 J;exact(f x u).symm.trans (f y n)
def aBc{next:Nat->Nat}(m:AU next j N):∀k,k<=j->∀w∈(ft next N k).1,∀x∈w,next x∈w:=by
 intro k
 induction k with
 |zero=>intro _ w h;simp[ft]at h
 |succ k z=>
  intro H w h x u;obtain⟨n,_⟩:=RJ m k J;obtain⟨c1,_⟩:=RJ m (k+1) H;rw[Ad]at h c1;unfold xl at h c1;cases ae:(ft next N k).2.getD k true with
  |true=>grind
  |false=>
   rw[ae,aC aa]at h c1;rcases gn.1 h with h|h
   .grind
   simp only[mj]at h;subst h;obtain⟨g1,v,A⟩:=ae9 next ((ft next N k).2.length+1) k (ft next N k).2;have f:x<N:=by grind [Ie]
   have E:=n x f;have y:=c1 x f
   grind
theorem uY{next:Nat->Nat}(m:AU next j N){w:aG}(h:w∈gW next N)(H:x∈w):next x∈w:=by unfold gW at h;rw[aaa m N m.le (cJ _)]at h;exact aBc m j (cJ _) w h x H
def Rl{next:Nat->Nat}(m:AU next j N)(h:∀x,x<N->cH R x (next x)){w:aG}(H:w∈gW next N){x:Nat}(n:x∈w)(f:y∈w):cH R x y:=azi m h N (cJ _) w H x n y f
def AX(L:List aG)(x:Nat):Nat:=L.findIdx λw=>w.contains x
theorem Kp{L:List aG}(h:L.flatten.Nodup){i:Nat}{w:aG}(H:L[i]?=some w)(f:x∈w):AX L x=i:=by exact XB h (tH (ajr ⟨w,a7 H,by simpa using f⟩)) H (by grind) f
def ahs:∀ {L:List aG},L.flatten.Nodup->(∀w∈L,w≠[])->((L.map (·.headD 0)).map (AX L))=List.range (I L):=by
 intro L h A;apply pk;intro i;rw[fz,fz];by_cases H:i<I L
 .have e:=tH H;rw[e,tX H];simp;rw[Kp h e (by
   cases f:L[i]with
   |nil=>exact absurd f (A _ (a7 e))
   |cons a r=>simp)]
 grind
def ahM{α:Type}{f:Nat->α×Bool}{g:Nat->α}{c:Nat->Bool}(j:∀x,f (2*x)=(g x,c x))(n:∀x,f (2*x+1)=(g x,!c x)):∀ {L:aG},(L.map g).Nodup->((L.flatMap λx=>[2*x,2*x+1]).map f).Nodup:=by
 intro L
 induction L with
 |nil=>intro _;exact qK
 |cons a L v=>
  intro h;rw[eZ,rR]at h;have E:∀b,(g a,b)∉(L.flatMap λx=>[2*x,2*x+1]).map f:=by
   intro b m;obtain⟨y,H,e⟩:=ch.1 m;obtain⟨x,u,H⟩:=pK.1 H;have:g x=g a:=by
    simp only[c7,eD,or_false]at H;rcases H with rfl|rfl
    .rw[j]at e;exact congrArg Prod.fst e
    rw[n]at e;exact congrArg Prod.fst e
   grind
  grind
def ah4:∀L:aG,I (L.flatMap λx=>[2*x,2*x+1])=2*I L:=by
 intro L
 induction L with
 |nil=>rfl
 |cons a L f=>rw[List.flatMap_cons,gb,f];simp;omega
def adK(h:∀x∈L,x<N):∀y∈(L.flatMap λx=>[2*x,2*x+1]),y<2*N:=by grind
def iL (b:Bool)(s:Nat):Nat:=if b then 1-s else s
def CL{b:Bool}{s:Nat}(h:s<2):iL b s<2:=by unfold iL;split<;>omega
def I_{b:Bool}{s:Nat}(h:s<2):iL b (iL b s)=s:=by unfold iL;cases b<;>simp;omega
def q_(p:Nat->Bool)(y:Nat):Nat:=2*rv (y/2)+iL (p (y/2)) (y%2)
def vm(p:Nat->Bool)(nx:Nat->Nat)(y:Nat):Nat:=2*nx (rv (y/2))+iL (p (y/2)) (y%2)
def vV(p:Nat->Bool)(k:Nat):qO:=(List.range k).flatMap λe=>[(4*e,q_ p (4*e)),(4*e+1,q_ p (4*e+1))]
theorem J1(p:Nat->Bool)(e:Nat):q_ p (4*e)=if p (2*e)then 4*e+3 else 4*e+2:=by unfold q_ iL;rw[show 4*e/2=2*e by omega,sf,show 4*e%2=0 by omega];split<;>omega
theorem KN(p:Nat->Bool)(e:Nat):q_ p (4*e+1)=if p (2*e)then 4*e+2 else 4*e+3:=by unfold q_ iL;rw[show(4*e+1)/2=2*e by omega,sf,show _%2=1 by omega];split<;>omega
def akG{p:Nat->Bool}(hp:∀x,p (rv x)=p x)(e:Nat):q_ p (4*e+2)=if p (2*e)then 4*e+1 else 4*e:=by unfold q_ iL;rw[show _/2=2*e+1 by omega,AJ,show _%2=0 by omega,<-hp (2*e),sf];split<;>omega
def alS{p:Nat->Bool}(hp:∀x,p (rv x)=p x)(e:Nat):q_ p (4*e+3)=if p (2*e)then 4*e else 4*e+1:=by unfold q_ iL;rw[show _/2=2*e+1 by omega,AJ,show _%2=1 by omega,<-hp (2*e),sf];split<;>omega
def alu(p:Nat->Bool)(k:Nat):vV p (k+1)=vV p k++[(4*k,q_ p (4*k)),(4*k+1,q_ p (4*k+1))]:=by unfold vV;rw[nJ,List.flatMap_append];simp
def anC(p:Nat->Bool)(k:Nat):I (vV p k)=2*k:=by
 induction k with
 |zero=>rfl
 |succ k f=>rw[alu,gb,f];simp;omega
def aoI(p:Nat->Bool)(k:Nat):∀t∈vV p k,t.1<4*k/\t.2<4*k:=by
 intro t H;obtain⟨e,f,h⟩:=pK.1 H;simp[c7,eD,or_false,J1,KN]at h
 grind
def avA(p:Nat->Bool){k e:Nat}(h:e<k):(4*e,q_ p (4*e))∈vV p k/\(4*e+1,q_ p (4*e+1))∈vV p k:=
 ⟨pK.2 ⟨e,gA.2 h,aE⟩,pK.2 ⟨e,gA.2 h,aE⟩⟩
def arw{p:Nat->Bool}(hp:∀x,p (rv x)=p x)(q:Nat->Nat):∀k y,(vV p k).foldl tr q y=if y<4*k then q (q_ p y)else q y:=by
 intro k
 induction k with
 |zero=>intro y;simp[vV]
 |succ k f=>
  intro y;rw[alu,A8,CM,CM,Nb,Ld,Ld,f,J1,KN];by_cases c:y<4*k
  .grind
  have h:=akG hp k;have m:=alS hp k;have A:=J1 p k;have j:=KN p k
  grind
def axj{p:Nat->Bool}(hp:∀x,p (rv x)=p x)(nx:Nat->Nat){k:Nat}(h:y<4*k):(vV p k).foldl tr (vm p nx) y=2*nx (y/2)+y%2:=by
 rw[arw hp,aD h];unfold vm;have hf:iL (p (y/2)) (y%2)<2:=CL J;have f:q_ p y/2=rv (y/2):=by unfold q_;omega
 have H:q_ p y%2=iL (p (y/2)) (y%2):=by unfold q_;omega
 rw[f,H,uQ,hp,I_ J]
def ZM{α β:Type}{P:α->β->Prop}{f:β->α}(hf:∀a b,P a b->f b=a):∀ {L:List α},(∀a∈L,∃b,P a b)->∃M:List β,M.map f=L/\ ∀b∈M,∃a∈L,P a b:=by
 intro L
 induction L with
 |nil=>intro _;exact⟨[],rfl,aE⟩
 |cons a L m=>
  intro h;obtain⟨b,j⟩:=h a aE;obtain⟨M,n,u⟩:=m λx H=>h x (by simp[H]);refine⟨b::M,by rw[eZ,n,hf a b j],λx H=>?_⟩
  grind
section
variable {F:Nat} {f:af}
def aA6(ok:gN F f):(aA f).Nodup:=by
 have:=akS ok.ax (I f) (cJ _);refine aaQ (λ{a b} h e=>?_) this
 grind
def acd(ok:gN F f):I f=aq U.ay f+aq U.ak f:=by
 have:∀l:af,(∀x∈l,x.ay\/x.ak)->I l=aq U.ay l+aq U.ak l:=by
  intro l
  induction l with
  |nil=>intro _;rfl
  |cons a l j=>
   intro h;have j:=j λx H=>h x (by simp[H]);unfold aq at j |-;rw[Di,Di,fP,j];rcases h a aE with c|c
   .rw[c,nL c];simp;omega
   have:a.ay=false:=by cases hp:a.ay;rfl;rw[nL hp]at c;cases c
   grind
 exact this f ok.kinds
def alo(ok:gN F f):∃L:aG,I L=aq U.ay f+aq U.ak f/2/\(∀j∈L,j<I f)/\(L.map (lA f)).Nodup:=by
 have v:=ok.cr;unfold nN at v;simp only[cP,c8]at v;have u:=v.2
 let ids:jd:=(gE f (I f)).map λid=>(1,id)
 have A:∀a∈ids,∃j,(lA f j=a/\j<I f):=by intro a E;obtain⟨id,n,rfl⟩:=ch.1 E;obtain⟨j,o,H,z⟩:=(GQ (cJ _)).1 n;obtain⟨m,D,N,B,_⟩:=C6 z;refine⟨j,?_,H⟩;unfold lA;rw[D];simp[N,B]
 obtain⟨M,x,y⟩:=ZM (P:=λa j=>lA f j=a/\j<I f) (f:=lA f) (λa b h=>h.1) A;have lY:∀i∈aA f,i<I f/\lA f i=(0,(i:Int)):=λi n=>by obtain⟨l,hl,hp⟩:=sB.1 n;refine⟨(bt.1 hl).1,?_⟩;unfold lA;rw[hl];simp[nL hp]
 refine⟨aA f++M,?_,λj H=>?_,?_⟩
 .have:I M=I (gE f (I f)):=by
   have:=congrArg List.length x
   simpa [ids]using this
  rw[gb,this,u,Ba]
 .rcases gn.1 H with H|H
  .exact(lY j H).1
  obtain⟨_,_,h⟩:=y j H;exact h.2
 rw[fL,x,SZ];refine⟨?_,?_,?_⟩
 .have:(aA f).map (lA f)=(aA f).map λi:Nat=>((0:Int),(i:Int)):=lq λi n=>(lY i n).2;rw[this];refine vO.2 (aaQ (λ{a b} h e=>h ?_) (aA6 ok));have:=congrArg Prod.snd e;simp only at this;omega
 .refine vO.2 (aaQ (λ{a b} h e=>h ?_) (Vg f (I f)));exact congrArg Prod.snd e
 grind
def at7(ok:gN F f)(p:Nat->Bool):uj (2*aT f) (vm p (aU f)):=by
 have m:=mE ok;have n:aT f=2*(I f+I (aA f)):=by unfold aT;omega
 have H:∀y,y<2*aT f->rv (y/2)<aT f:=λy h=>by rw[n];exact uB J
 have hf:∀y,iL (p (y/2)) (y%2)<2:=λy=>CL J;refine⟨λy h=>?_,λx y u h e=>?_⟩
 .have:=m.lt _ (H y h);have:=hf y;unfold vm;omega
 unfold vm at e;have:=hf x;have:=hf y;have j:x/2=y/2:=by rw[<-uQ (x/2),m.inj _ _ (H x u) (H y h) J,uQ]
 have E:iL (p (x/2)) (x%2)=iL (p (y/2)) (y%2):=J;rw[j]at E;have v:x%2=y%2:=by rw[<-I_ (s:=x%2) J,E,I_ J]
 omega
end
section
variable {F:Nat} {f:af} {p:Nat->Bool}
abbrev yh(ls:af)(p:Nat->Bool):Nat->Nat->Prop:=zC (2*aT ls) (vm p (aU ls)) (vV p (I ls+I (aA ls)))
def E0(f:af):aT f=2*(I f+I (aA f)):=by unfold aT;omega
def aq3(hp:∀x,p (rv x)=p x)(m:y<2*aT f):cH (yh f p) y (q_ p y):=by
 have n:=E0 f;obtain⟨j,H⟩:=avA p (k:=I f+I (aA f)) (e:=y/4) J;have r1:cH (yh f p) _ _:=.rel (.inr j);have R:cH (yh f p) _ _:=.rel (.inr H);have A:=akG hp (y/4);have h:=alS hp (y/4);rcases(by omega:y=4*(y/4)\/y=4*(y/4)+1\/y=4*(y/4)+2\/y=4*(y/4)+3)with e|e|e|e
 .rw[<-e]at r1;exact r1
 .rw[<-e]at R;exact R
 .rw[<-e]at A;rw[A];rw[J1]at r1;rw[KN]at R;by_cases c:p (2*(y/4))
  .rw[aD c]at R |-;rw[<-e]at R;exact R.symm
  rw[aC c]at r1 |-;rw[<-e]at r1;exact r1.symm
 rw[<-e]at h;rw[h];rw[J1]at r1;rw[KN]at R;by_cases c:p (2*(y/4))
 .rw[aD c]at r1 |-;rw[<-e]at r1;exact r1.symm
 rw[aC c]at R |-;rw[<-e]at R;exact R.symm
def PM(hp:∀x,p (rv x)=p x){x s:Nat}(h:x<aT f)(ae:s<2):cH (yh f p) (2*x+s) (2*rv x+iL (p x) s):=by
 have:=aq3 (f:=f) hp (y:=2*x+s) J;unfold q_ at this
 grind
def Oi(hp:∀x,p (rv x)=p x){x s:Nat}(H:x<aT f)(ae:s<2):cH (yh f p) (2*x+s) (2*aU f x+s):=by
 have h:=E0 f;have hf:iL (p x) s<2:=CL ae;refine(PM hp H ae).trans (.rel (.inl ⟨?_,?_⟩))
 .have:rv x<aT f:=by rw[h];exact uB J
  omega
 unfold vm;rw[show _/2=rv x by omega,show _%2=iL (p x) s by omega,uQ,hp,I_ ae]
def Bm(f:af)(p:Nat->Bool)(x:Nat):Prop:= ∃b,∀s,s<2->cH (yh f p) (2*x+s) (iL b s)
def axU(f:af)(p:Nat->Bool):Bm f p 0:=⟨false,λs _=>by rw[show 2*0+s=s by omega];exact .refl _⟩
def ag7(a b:Bool){s:Nat}(h:s<2):iL a (iL b s)=iL (a !=b) s:=by unfold iL;cases a<;>cases b<;>simp;omega
def adI(hp:∀x,p (rv x)=p x){x:Nat}(j:x<aT f)(h:Bm f p x):Bm f p (rv x):=by obtain⟨b,h⟩:=h;refine⟨b !=p x,λs ae=>?_⟩;have H:=(PM hp j (CL ae)).symm.trans (h (iL (p x) s) (CL ae));rwa[I_ ae,ag7 _ _ ae]at H
def alH(hp:∀x,p (rv x)=p x){x:Nat}(H:x<aT f)(h:Bm f p x):Bm f p (aU f x):=by obtain⟨t,h⟩:=h;exact⟨t,λs ae=>(Oi hp H ae).symm.trans (h s ae)⟩
def are(hp:∀x,p (rv x)=p x){x:Nat}(H:x<aT f)(h:Bm f p (aU f x)):Bm f p x:=by obtain⟨t,h⟩:=h;exact⟨t,λs ae=>(Oi hp H ae).trans (h s ae)⟩
def aax(hp:∀x,p (rv x)=p x)(ok:gN F f){x:Nat}(n:x<aT f):Bm f p x:=by
 have m:=mE ok;have D:=E0 f;have E:∀y,y<aT f->rv y<aT f:=λy H=>by rw[D]at H |-;exact uB H
 have h:∀i,i<I f->Bm f p (2*i):=by
  intro i
  induction i with
  |zero=>intro _;exact axU f p
  |succ i L=>
   intro B;have z:=L J;have j:2*i<aT f:=J;have A:=alH hp j z;have u:=m.lt _ j;have v:=alH hp (E _ u) (adI hp u A);have e:2*i=g_ (I f) (i+1) true:=by unfold g_;rw[aD rfl,show i+1+I f-1=i+I f by omega,lg,eJ J]
   rw[e,aaV ok B]at v;exact v
 have str:∀y,y<2*I f->Bm f p y:=λy H=>by
  rcases qL y with c|c
  .rw[show y=2*(y/2) by omega];exact h _ J
  have:=adI hp (x:=2*(y/2)) J (h (y/2) J);rw[sf]at this
  grind
 rcases LB x (2*I f)with c|c
 .exact str x c
 exact are hp n (str _ (m.ax x n c))
def aeL(g:bj F f)(hp:∀x,p (rv x)=p x){c:Nat->Bool}(hc:∀x,x<aT f->c (rv (aU f x))=(c x !=p x)):¬cH (yh f p) 0 1:=by
 intro A;have ok:=g.ok;have hN:=E0 f;have HF:∀y,y<aT f->rv y<aT f:=λy H=>by rw[hN]at H |-;exact uB H
 obtain⟨M,Z⟩:=Bd (aU f) (aT f);have E:=ajI (vV p (I f+I (aA f))) (vm p (aU f)) (at7 ok p) (λt v=>by have:=aoI p _ t v;omega)
 rw[anC]at E;have K1:ba (cH (yh f p)) (2*aT f)<=1:=ag9 λy H=>by
  obtain⟨b,v⟩:=aax hp ok (x:=y/2) J;have e:=v (y%2) J;rw[show 2*(y/2)+y%2=y by omega]at e;have hf:iL b (y%2)<2:=CL J;rcases(by omega:iL b (y%2)=0\/iL b (y%2)=1)with k|k
  .rw[k]at e;exact e
  rw[k]at e;exact e.trans A.symm
 have K2:2*fW f<=ba (cH (gR (2*aT f) ((vV p (I f+I (aA f))).foldl tr (vm p (aU f))))) (2*aT f):=by
  have Y:∀w∈gW (aU f) (aT f),w≠[]:=λw B=>by obtain⟨⟨d,t,e,_⟩,_⟩:=AY ok w B;rw[e];simp
  have:=SR (R:=gR (2*aT f) ((vV p (I f+I (aA f))).foldl tr (vm p (aU f)))) (f:=λy=>(AX (gW (aU f) (aT f)) (y/2),decide (y%2=1))) (n:=2*aT f)
   (h:=((gW (aU f) (aT f)).map (·.headD 0)).flatMap λx=>[2*x,2*x+1]) ?_ ?_ ?_
  .rw[ah4,cg]at this;exact this
  .rintro a b ⟨ha,rfl⟩
   rw[axj hp _ J];have H:a/2<aT f:=J;obtain⟨u,O,m⟩:=DS.1 (Z _ H);obtain⟨i,Q⟩:=fK O;simp only[show(2*aU f (a/2)+a%2)/2=aU f (a/2) by omega,show(2*aU f (a/2)+a%2)%2=a%2 by omega];rw[Kp M Q m,Kp M Q (uY (mE ok) O m)]
  .refine adK λx D=>?_;obtain⟨w,B,rfl⟩:=ch.1 D;obtain⟨⟨d,t,e,hd⟩,_⟩:=AY ok w B;rw[e];simp only[List.headD_cons];omega
  refine ahM (g:=AX (gW (aU f) (aT f))) (c:=λ_=>false) (λx=>?_) (λx=>?_) ?_
  .simp only[show 2*x/2=x by omega,show 2*x%2=0 by omega];simp
  .simp only[show(2*x+1)/2=x by omega,show(2*x+1)%2=1 by omega];simp
  rw[ahs M Y];exact D8
 have K3:2*(aq U.ay f+aq U.ak f/2)<=ba (cH (gR (2*aT f) (vm p (aU f)))) (2*aT f):=by
  obtain⟨L,l1,T,l3⟩:=alo ok;have:=SR (R:=gR (2*aT f) (vm p (aU f))) (f:=λy=>(lA f (uv f (rv (y/2))),(c (rv (y/2))!=decide (y%2=1)))) (n:=2*aT f)
   (h:=(L.map (2* ·)).flatMap λx=>[2*x,2*x+1]) ?_ ?_ ?_
  .rw[ah4,cg,l1]at this;exact this
  .rintro a b ⟨ha,rfl⟩
   have H:rv (a/2)<aT f:=HF _ J;have t1:=(ZU ok H).1;have X:=hc _ H;have hf:iL (p (a/2)) (a%2)<2:=CL J;unfold vm;simp only[show(2*aU f (rv (a/2))+iL (p (a/2)) (a%2))/2=aU f (rv (a/2)) by omega,show(2*aU f (rv (a/2))+iL (p (a/2)) (a%2))%2=iL (p (a/2)) (a%2) by omega,t1,X,hp];rcases qL a with k|k<;>rw[k]<;>cases c (rv (a/2))<;>cases p (a/2)<;>rfl
  .refine adK λx D=>?_;obtain⟨j,N,rfl⟩:=ch.1 D;have:=T j N;omega
  refine ahM (g:=λx=>lA f (uv f (rv x))) (c:=λx=>c (rv x)) (λx=>?_) (λx=>?_) ?_
  .simp only[show 2*x/2=x by omega,show 2*x%2=0 by omega];simp
  .simp only[show(2*x+1)/2=x by omega,show(2*x+1)%2=1 by omega];simp
  rw[h_];have:L.map ((λx=>lA f (uv f (rv x))) ∘ (2* ·))=L.map (lA f):=lq λj N=>by have:=IA (f:=f) (T j N) false;simp only[Function.comp_apply,sf];rw[show 2*j+1=g_ (I f) j false from rfl,this]
  rw[this];exact l3
 have ab:=acd ok;have lY:=Ba (h:=f);have MD:=g.nw;have z:=ok.cr;unfold nN at z;simp only[cP,c8]at z;have ff:=z.1.1;have E:ba (cH (gR (2*aT f) ((vV p (I f+I (aA f))).foldl tr (vm p (aU f))))) (2*aT f)+ba (cH (gR (2*aT f) (vm p (aU f)))) (2*aT f)<=2*ba (cH (yh f p)) (2*aT f)+2*(I f+I (aA f)):=E;omega
def afb(g:bj F f)(hp:∀x,p (rv x)=p x){w:aG}(j:w∈gW (aU f) (aT f)){x s:Nat}(m:x∈w)(H:y∈w)(ae:s<2):cH (yh f p) (2*x+s) (2*y+s):=by
 have base:∀a b,cH (λu v=>cH (yh f p) (2*u+s) (2*v+s)) a b->cH (yh f p) (2*a+s) (2*b+s):=by
  intro a b h
  induction h with
  |rel r=>exact r
  |refl a=>exact .refl _
  |symm _ n=>exact n.symm
  |trans _ _ i1 i2=>exact i1.trans i2
 exact base _ _ (Rl (mE g.ok) (λy H=>.rel (Oi hp H ae)) j m H)
def aBo(g:bj F f)(hp:∀x,p (rv x)=p x){c:Nat->Bool}(j:∀x,x<aT f->c (rv (aU f x))=(c x !=p x)){x:Nat}(m:x<aT f)(h:cH (yh f p) (2*x+0) (2*x+1)):False:=by
 obtain⟨b,H⟩:=aax hp g.ok m;have E:=(H 0 aa).symm.trans (h.trans (H 1 aa));refine aeL g hp j ?_;cases b with
 |true=>exact E.symm
 |false=>exact E
def adm(g:bj F f)(h:x<aT f){w:aG}(H:w∈gW (aU f) (aT f))(m:x∈w)(j:rv x∈w):False:=by
 have hp:∀x:Nat,(λ_:Nat=>true) (rv x)=(λ_:Nat=>true) x:=λ_=>rfl;have n:∀x,x<aT f->BQ f _=(BQ f x !=(λ_:Nat=>true) x):=λx h=>by rw[(ZU g.ok h).2];cases BQ f x<;>rfl
 exact aBo g hp n h ((afb g hp H m j aa).trans (PM hp h (s:=1) aa).symm)
end
section
variable {F:Nat} {f:af}
def sV(f:af)(x:Nat):Bool:=decide (2*I f<=x)
def B4(f:af)(x:Nat):Bool:=if 2*I f<=x then x%2==1 else match f[uv f x]? with|some l=>l.ay&&(dn f (uv f x)==(x%2==0))|none=>false
def alT(x:Nat):sV f (rv x)=sV f x:=by
 unfold sV rv
 grind
theorem VF{l:U}(hl:f[v]?=some l)(F:Bool):B4 f (g_ (I f) v F)=(l.ay&&(dn f v==F)):=by
 have A:=wJ ((bt.1 hl).1) F
 grind [B4,IA,g_]
def arI(ok:gN F f)(j:x<aT f):B4 f (rv (aU f x))=(B4 f x !=sV f x):=by
 unfold aT at j;rcases LB x (2*I f)with c|c
 .have h:sV f x=false:=by unfold sV;simp;omega
  rw[h];have H:(if x%2=0 then(x/2+1)%I f else x/2)<I f:=by have:=cT (x/2+1) (show 0<I f by omega);split<;>omega
  rw[Nx c];generalize(if x%2=0 then(x/2+1)%I f else x/2)=v at H;generalize(x%2==0)=fw;obtain⟨l,hl⟩:=aP H;rw[VF hl];rcases ok.kinds l (a7 hl)with hp|y
  .obtain⟨u,A⟩:=Iu ok hl hp;rw[Cn hl hp,hp];by_cases d:(dn f v==fw)
   .rw[aD d,d,show 2*I f+2*(aA f).idxOf v=2*(I f+(aA f).idxOf v) by omega,sf]
    grind [B4]
   rw[aC d,Bool.eq_false_iff.2 d,show 2*I f+2*(((aA f).idxOf v+I (aA f)-1)%I (aA f))+1=2*(I f+((aA f).idxOf v+I (aA f)-1)%I (aA f))+1 by omega,AJ]
   grind [B4]
  obtain⟨u,m,D,E,B,z,M⟩:=qN ok.cr hl y
  grind [nL,w9,uZ,VF]
 have h:sV f x:=by unfold sV;simpa using c
 rw[h];rcases qL x with d|d
 .obtain⟨l,hl,hp⟩:=AI (cT ((x-2*I f)/2+1) (show 0<I (aA f) by omega));have e:B4 f x=false:=by unfold B4;rw[aD c,d];rfl
  rw[e,show x=2*I f+2*((x-2*I f)/2) by omega,AN,uZ,yI];rw[VF hl,hp];simp
 have n:(x-2*I f)/2<I (aA f):=J;obtain⟨l,hl,hp⟩:=AI n;have e:B4 f x:=by unfold B4;rw[aD c,d];rfl
 rw[e,show x=2*I f+2*((x-2*I f)/2)+1 by omega,A_,uZ]
 grind [VF]
abbrev WM(ls:af):Nat->Nat->Prop:=yh ls (sV ls)
def aiK(g:bj F f){s:Nat}(u:x<2*I f)(ae:s<2):cH (WM f) (2*x+s) (iL (dn f (x/2+1)!=dn f 1) s):=by
 have ok:=g.ok;have N:=E0 f;have hp:=alT (f:=f);have str:∀y,y<2*I f->sV f y=false:=λy R=>by unfold sV;simp;omega
 have j:∀i,i<I f->∀s,s<2->cH (WM f) (2*(2*i)+s) (iL (dn f (i+1)!=dn f 1) s):=by
  intro i
  induction i with
  |zero=>intro _ s _;simp only[jN];cases dn f 1<;>(rw[show 2*(2*0)+s=s by omega];exact .refl _)
  |succ i M=>
   intro z s ae;obtain⟨l,hl⟩:=aP z;have e:2*i=g_ (I f) (i+1) true:=by unfold g_;rw[aD rfl,show i+1+I f-1=i+I f by omega,lg,eJ J]
   have D:=aaV ok z true;rw[<-e]at D;have h:2*i<aT f:=J;have m:=(mE ok).lt _ h;have step:∀t,t<2->cH (WM f) (2*(2*i)+t) (2*(2*(i+1))+iL (sV f (aU f (2*i))) t):=λt H=>by have v:=Oi hp (by rw[N]at m |-;exact uB m) (s:=iL (sV f (aU f (2*i))) t) (CL H);rw[D]at v;exact(Oi hp h H).trans ((PM hp m H).trans v)
   have n:=(step (iL (sV f (aU f (2*i))) s) (CL ae)).symm.trans (M J (iL (sV f (aU f (2*i))) s) (CL ae));rw[I_ ae,ag7 _ _ ae]at n;rcases ok.kinds l (a7 hl)with A|B
   .have Q:=(Iu ok hl A).1;have u:sV f (aU f (2*i)):=by
     rw[e,Cn hl A];unfold sV;simp only[iJ];split<;>omega
    rw[u]at n;rw[Ez hl A];have:((dn f (i+1)!=dn f 1)!=true)=((!dn f (i+1))!=dn f 1):=by cases dn f (i+1)<;>cases dn f 1<;>rfl
    rwa[this]at n
   obtain⟨_,w,E,O,_⟩:=qN ok.cr hl B;have u:sV f (aU f (2*i))=false:=by rw[e,w9 hl B];exact str _ (IT (bt.1 E).1)
   grind [Jc,nL,dn]
 rcases qL x with c|c
 .have:=j (x/2) J s ae;rwa[show 2*(x/2)=x by omega]at this
 have h:=PM (f:=f) hp (x:=2*(x/2)) J ae;rw[sf,str _ J]at h;have L:iL false s=s:=rfl;rw[L,show 2*(x/2)+1=x by omega]at h;exact h.symm.trans (j (x/2) J s ae)
theorem Xl(g:bj F f){w:aG}(H:w∈gW (aU f) (aT f))(h:x∈w)(j:y∈w)(u:x<2*I f)(m:y<2*I f):dn f (x/2+1)=dn f (y/2+1):=by have hp:=alT (f:=f);have E:=(aiK g u aa).symm.trans ((afb g hp H h j aa).trans (aiK g m (s:=0) aa));have n:=aeL g hp λx h=>arI g.ok h;revert E;cases dn f _<;>cases dn f (y/2+1)<;>cases dn f 1<;>intro E<;>first|rfl|exact absurd E n|exact absurd E.symm n
end
def ajG{next:Nat->Nat}(m:AU next j N){α:Type}{φ:Nat->α}(E:∀x,x<N->φ (next x)=φ x)(Q:∀x∈h,x<N)(L:(h.map φ).Nodup):I h<=I (gW next N):=by
 have R:=Bd next N;have O:∀x,x<N->∃(i:Nat) (w:aG),(gW next N)[i]?=some w/\x∈w/\AX (gW next N) x=i:=λx n=>by obtain⟨w,Z,u⟩:=DS.1 (R.2 x n);obtain⟨i,H⟩:=fK Z;exact⟨i,w,H,u,Kp R.1 H u⟩
 have f:∀a b,cH (λx y=>x<N/\y=next x) a b->φ a=φ b:=λa b M=>by
  induction M with
  |rel M=>rw[M.2,E _ M.1]
  |refl _=>rfl
  |symm _ ih=>exact ih.symm
  |trans _ _ D A=>exact D.trans A
 have l7:∀x,x<N->∀y,y<N->AX (gW next N) x=AX (gW next N) y->φ x=φ y:=λx n y F e=>by obtain⟨i,w,H,u,e1⟩:=O x n;obtain⟨ab,v,T,B,X⟩:=O y F;rw[e1,X]at e;subst e;rw[H]at T;cases T;exact f x y (Rl m (λz Y=>.rel ⟨Y,rfl⟩) (a7 H) u B)
 have D:(h.map (AX (gW next N))).Nodup:=by unfold List.Nodup at L |-;rw[vO]at L |-;refine L.imp_of_mem λ{x y} n F M e=>?_;exact M (l7 x (Q x n) y (Q y F) e)
 have A:∀i∈h.map (AX (gW next N)),i∈List.range (I (gW next N)):=λi H=>by grind
 have:=I5 _ _ D A;rwa[cg,wI]at this
def adw(h:∀x,x<n->∃r∈L,cH R x r):ba (cH R) n<=I L:=by
 have f:∀M:aG,M.Nodup->(∀x∈M,x<n/\uP (cH R) x)->∃N:aG,I N=I M/\N.Nodup/\ ∀r∈N,r∈L/\ ∃x∈M,cH R x r:=by
  intro M
  induction M with
  |nil=>intro _ _;exact⟨[],rfl,qK,aE⟩
  |cons a M O=>
   intro D m;obtain⟨Z,j⟩:=rR.1 D;obtain⟨N,u,v,y⟩:=O j λx H=>m x (by simp[H]);obtain⟨F,B⟩:=m a aE;obtain⟨r,z,e⟩:=h a F;refine⟨r::N,by simp[u],rR.2 ⟨λT=>?_,v⟩,λq Y=>?_⟩
   .obtain⟨_,x,H,E⟩:=y r T;have X:=B x (e.trans E.symm);have e2:=(m x (by simp[H])).2 a (E.trans e.symm)
    grind
   grind
 obtain⟨N,u,v,y⟩:=f _ (D8.filter _) λx H=>by obtain⟨Q,A⟩:=r4.1 H;exact⟨gA.1 Q,KX.1 A⟩
 unfold ba;rw[UM,<-u];exact I5 _ _ v λr z=>(y r z).1
def Th(p:Nat->Nat)(x:Nat):∀i j,it p (i+j) x=it p i (it p j x):=by
 intro i j
 induction i with
 |zero=>rw[jN];rfl
 |succ i f=>rw[show i+1+j=(i+j)+1 by omega];show p _=p _;rw[f]
def azD{p:Nat->Nat}(h:it p m x=x):∀k,it p (k*m) x=x:=by
 intro k
 induction k with
 |zero=>rw[DE];rfl
 |succ k f=>rw[Nat.succ_mul,Th,h,f]
def aq4{p:Nat->Nat}(h:uj n p){a b:Nat}(e:cH (gR n p) a b):a=b\/(a<n/\b<n/\ ∃k,it p k a=b):=by
 induction e with
 | @rel a b r=>obtain⟨H,rfl⟩:=r;exact .inr ⟨H,h.lt _ H,1,rfl⟩
 |refl _=>exact .inl rfl
 | @symm a b _ y=>
  rcases y with rfl|⟨H,u,k,f⟩
  .exact .inl rfl
  obtain⟨m,v⟩:=h.aeo H;refine .inr ⟨u,H,k*m,?_⟩;rw[<-f,<-Th,show k*m+k=k*(m+1) by rw[Nat.mul_succ]];exact azD v k
 |trans _ _ i1 i2=>
  rcases i1 with rfl|⟨H,u,k,f⟩
  .exact i2
  rcases i2 with rfl|⟨_,z,j,x⟩
  .grind
  exact .inr ⟨H,z,j+k,by rw[Th,f,x]⟩
theorem aAl{p:Nat->Nat}(h:uj n p){a b:Nat}(D:a≠b)(e:cH (gR n p) a b):¬cH (gR n (tr p (a,b))) a b:=by
 rcases aq4 h e with M|⟨v,B,O,A⟩
 .exact absurd M D
 obtain⟨k,H,z⟩:=aiB (p:=λk=>it p k a=b) O A;have k1:1<=k:=by
  rcases Nat.eq_zero_or_pos k with rfl|h
  .exact absurd H D
  exact h
 have N:∀j,1<=j->j<=k->it p j a≠a:=λj u m E=>by
  rcases Nat.lt_or_eq_of_le m with c|rfl
  .have:it p (k-j) a=b:=by
    rw[<-H,show k=(k-j)+j by omega,Th,E];congr 1;omega
   have:=z _ this;omega
  exact D (E.symm.trans H)
 have L:∀j,j<k->it p j a≠b:=λj u E=>by have:=z j E;omega
 intro Q;have inv:∀x y,gR n (tr p (a,b)) x y->(∃j,1<=j/\j<=k/\x=it p j a)=(∃j,1<=j/\j<=k/\y=it p j a):=by
  rintro x y ⟨F,rfl⟩
  apply propext;unfold tr;simp only;constructor
  .rintro ⟨j,u,m,rfl⟩
   rw[aC (N j u m)];by_cases c:it p j a=b
   .rw[aD c];exact⟨1,J,k1,rfl⟩
   rw[aC c];refine⟨j+1,J,?_,rfl⟩;rcases Nat.lt_or_eq_of_le m with d|rfl
   .exact d
   exact absurd H c
  by_cases c:x=a
  .rw[aD c];rintro⟨j,u,m,E⟩
   exfalso;have:=h.inj _ _ B (h.Ks v (j-1)) (by rw[E,show j=(j-1)+1 by omega];rfl);by_cases d:j=1
   .subst d;exact D this.symm
   exact L (j-1) J this.symm
  rw[aC c];by_cases d:x=b
  .subst d;intro _;exact⟨k,k1,cJ _,H.symm⟩
  rw[aC d];rintro⟨j,u,m,E⟩
  have:=h.inj _ _ F (h.Ks v (j-1)) (by rw[E,show j=(j-1)+1 by omega];rfl);by_cases f:j=1
  .subst f;exact absurd this c
  exact⟨j-1,J,J,this⟩
 have:=Q.inv inv
 grind
def apI{p:Nat->Nat}(h:uj n p){a b:Nat}(H:a<n)(f:b<n)(D:a≠b):(ba (cH (gR n (tr p (a,b)))) n+ba (cH (gR n p)) n)%2=1:=by
 have one:∀x y,cH (um (gR n (tr p (a,b))) a b) x y↔cH (um (gR n p) a b) x y:=λx y=>by
  have h:=YF (p:=p) (S:=λ_ _=>False) H f (x:=x) (y:=y)
  grind
 have j:=K9 one n;rcases Classical.em (cH (gR n p) a b)with c|c
 .grind [acz,WE,aAl]
 have k1:=WE H f c;have k2:=acz (aeX h H f c) n;omega
def ay7:∀(ts:qO) (p:Nat->Nat),uj n p->(∀t∈ts,t.1<n/\t.2<n/\t.1≠t.2)->(ba (cH (gR n (ts.foldl tr p))) n+ba (cH (gR n p)) n+I ts)%2=0:=by
 intro ts
 induction ts with
 |nil=>intro p _ _;simp only[Nb,ga];omega
 |cons t ts m=>
  intro p hp j;obtain⟨a,b⟩:=t;obtain⟨f,H,D⟩:=j (a,b) aE
  replace f:a<n:=f
  replace H:b<n:=H
  replace D:a≠b:=D
  have E:=m _ (hp.tr f H) λt h=>j t (by simp[h]);have u:=apI hp f H D;simp only[CM,fP];omega
def mJ(f:af)(x:Nat):Nat:=aU f (rv x)
def yx(k:Nat):qO:=(List.range k).map λe=>(2*e,2*e+1)
theorem aui(q:Nat->Nat):∀k y,(yx k).foldl tr q y=if y<2*k then q (rv y)else q y:=by
 intro k
 induction k with
 |zero=>intro y;rw[aC J];rfl
 |succ k f=>
  intro y;have e:yx (k+1)=yx k++[(2*k,2*k+1)]:=by unfold yx;rw[nJ,fL];rfl
  rw[e,A8,CM,Nb,Ld]
  grind [sf,AJ]
def cH.push{f:Nat->Nat}(h:∀a b,R a b->cH R' (f a) (f b))(e:cH R x y):cH R' (f x) (f y):=by
 induction e with
 |rel r=>exact h _ _ r
 |refl a=>exact .refl _
 |symm _ j=>exact j.symm
 |trans _ _ i1 i2=>exact i1.trans i2
section
variable {F:Nat} {f:af}
def aa2(ok:gN F f):uj (aT f) (mJ f):=by
 have m:=mE ok;have H:∀y,y<aT f->rv y<aT f:=λy h=>by rw[E0 f]at h |-;exact uB h
 refine⟨λy h=>m.lt _ (H y h),λx y j h e=>?_⟩;have:=m.inj _ _ (H x j) (H y h) e;rw[<-uQ x,this,uQ]
abbrev zU(ls:af):Nat:=I ls+I (aA ls)
def acQ(h:y<aT f):(yx (zU f)).foldl tr (mJ f) y=aU f y:=by grind [aui,mJ,uQ]
def auM(x y:Nat):cH (gR (aT f) ((yx (zU f)).foldl tr (mJ f))) x y↔cH (gR (aT f) (aU f)) x y:=
 ⟨cH.mono λa b r=>by obtain⟨h,rfl⟩:=r;exact .rel ⟨h,acQ h⟩,cH.mono λa b r=>by obtain⟨h,rfl⟩:=r;exact .rel ⟨h,(acQ h).symm⟩⟩
def aeh{k:Nat}:∀t∈yx k,t.1<2*k/\t.2<2*k/\t.1≠t.2:=by
 intro t h;obtain _:=ch.1 h
 grind
def azw(ok:gN F f):ba (cH (gR (aT f) (aU f))) (aT f)=fW f:=by
 obtain⟨D,m⟩:=Bd (aU f) (aT f);have A:∀w∈gW (aU f) (aT f),w≠[]:=λw H=>by obtain⟨⟨d,t,e,_⟩,_⟩:=AY ok w H;rw[e];simp
 have h:I ((gW (aU f) (aT f)).map (·.headD 0))=fW f:=by rw[cg];rfl
 refine Nat.le_antisymm ?_ ?_
 .rw[<-h];refine adw λx j=>?_;obtain⟨w,H,n⟩:=DS.1 (m x j);obtain⟨⟨d,t,e,_⟩,_⟩:=AY ok w H;refine⟨w.headD 0,ch.2 ⟨w,H,rfl⟩,?_⟩;exact Rl (mE ok) (λy v=>.rel ⟨v,rfl⟩) H n (by grind)
 rw[<-h];refine SR (f:=AX (gW (aU f) (aT f))) ?_ (λx j=>?_) ?_
 .rintro a b ⟨E,rfl⟩
  obtain⟨u,z,B⟩:=DS.1 (m a E);obtain⟨i,M⟩:=fK z
  grind [Kp,uY,mE]
 .obtain⟨w,H,rfl⟩:=ch.1 j;obtain⟨⟨d,t,e,L⟩,_⟩:=AY ok w H
  grind
 rw[ahs D A];exact D8
abbrev EJ(ls:af):Nat->Nat->Prop:=gR (aT ls) (mJ ls)
def VP(H:v<I f)(g:Bool):dS (I f) v g<aT f:=by
 have h:=wJ H (!g)
 grind [uZ,uB,uQ]
def ald(v:Nat)(g:Bool):mJ f (dS (I f) v g)=aU f (g_ (I f) v (!g)):=by unfold mJ;rw[uZ]
def aqz(ok:gN F f)(h:v<I f):cH (EJ f) (dS (I f) v true) (dS (I f) v false):=by
 obtain _:=aP h;have:mJ f (mJ f (dS (I f) v true))=dS (I f) v false:=by rw[ald];exact aaV ok h false
 rw[<-this];exact(cH.rel ⟨VP h true,rfl⟩).trans (.rel ⟨(aa2 ok).lt _ (VP h true),rfl⟩)
def QB(ok:gN F f)(H:v<I f)(g h:Bool):cH (EJ f) (dS (I f) v g) (dS (I f) v h):=by
 have e:=aqz ok H;cases g<;>cases h
 .exact .refl _
 .exact e.symm
 .exact e
 exact .refl _
theorem ar7(ok:gN F f){l:U}(hl:f[v]?=some l)(h:l.ak):cH (EJ f) (dS (I f) v true) (dS (I f) (iI f v) true):=by
 obtain⟨u,m,H,n,x,j,M⟩:=qN ok.cr hl h;have:mJ f (dS (I f) v true)=dS (I f) (iI f v) (false==(l.over==(l.sign==1))):=by rw[ald,w9 hl h];rfl
 exact(cH.rel ⟨VP ((bt.1 hl).1) true,this.symm⟩).trans (QB ok ((bt.1 H).1) _ _)
theorem axR(ok:gN F f){k:Nat}(H:k<I (aA f)):cH (EJ f) (2*I f+2*k) (dS (I f) ((aA f).getD k 0) true):=by
 obtain⟨l,h,j⟩:=AI H;have:mJ f (2*I f+2*k)=dS (I f) ((aA f).getD k 0) (dn f ((aA f).getD k 0)):=by unfold mJ;rw[show 2*I f+2*k=2*(I f+k) by omega,sf,show 2*(I f+k)+1=2*I f+2*k+1 by omega,A_]
 exact(cH.rel ⟨by unfold aT;omega,this.symm⟩).trans (QB ok ((bt.1 h).1) _ _)
theorem aBk(ok:gN F f){k:Nat}(H:k<I (aA f)):cH (EJ f) (2*I f+2*k+1) (dS (I f) ((aA f).getD ((k+1)%I (aA f)) 0) true):=by
 obtain⟨l,h,j⟩:=AI (cT _ (show 0<I (aA f) by omega));have:mJ f (2*I f+2*k+1)=dS (I f) ((aA f).getD ((k+1)%I (aA f)) 0) (!dn f ((aA f).getD ((k+1)%I (aA f)) 0)):=by unfold mJ;rw[show 2*I f+2*k+1=2*(I f+k)+1 by omega,AJ,show 2*(I f+k)=2*I f+2*k by omega,AN]
 exact(cH.rel ⟨by unfold aT;omega,this.symm⟩).trans (QB ok ((bt.1 h).1) _ _)
def ap8(ok:gN F f)(z:x<aT f):∃v,v<I f/\cH (EJ f) x (dS (I f) v true):=by
 by_cases c:x<2*I f
 .have n:=uB c;obtain⟨v,j,hv,e⟩:∃v j,v<I f/\rv x=g_ (I f) v j:=⟨_,_,by
   split
   .exact cT _ J
   omega,Nx n⟩
  have:x=dS (I f) v (!j):=by rw[<-ana,<-e,uQ]
  exact⟨v,hv,by rw[this];exact QB ok hv _ _⟩
 have y:aT f=2*I f+2*I (aA f):=rfl;have m:(x-2*I f)/2<I (aA f):=J;rcases qL x with h|h
 .obtain⟨l,H,u⟩:=AI m;refine⟨_,(bt.1 H).1,?_⟩
  grind [axR]
 obtain⟨l,H,u⟩:=AI (cT ((x-2*I f)/2+1) (show 0<I (aA f) by omega));refine⟨_,(bt.1 H).1,?_⟩
 grind [aBk]
def atQ(ok:gN F f):∃L:aG,I L=aq U.ay f+aq U.ak f/2/\(∀j∈L,j<I f)/\(L.map (lA f)).Nodup/\ ∀v,v<I f->∃j∈L,lA f j=lA f v:=by
 have y:=ok.cr;unfold nN at y;simp only[cP,c8]at y;obtain⟨L,R,D,B⟩:=alo ok;refine⟨L,R,D,B,λv m=>?_⟩
 let A:jd:=(aA f).map (λi:Nat=>((0:Int),(i:Int)))++(gE f (I f)).map λid=>((1:Int),id)
 have Z:I A=aq U.ay f+aq U.ak f/2:=by simp only[A,gb,cg,Ba,y.2]
 have z:∀v,v<I f->lA f v∈A:=λv m=>by
  obtain⟨l,hl⟩:=aP m;unfold lA;rw[hl];rcases ok.kinds l (a7 hl)with hp|E
  .simp only[nL hp,fE,if_false];exact Fy _ (ch.2 ⟨v,sB.2 ⟨l,hl,hp⟩,rfl⟩)
  simp only[E,if_true];refine uX _ (ch.2 ⟨l.id,?_,rfl⟩);exact(GQ (cJ _)).2 ⟨v,l.over,m,by rw[KM hl E];simp⟩
 refine Classical.byContradiction λN=>?_;have n:lA f v∉L.map (lA f):=λh=>by obtain⟨j,u,e⟩:=ch.1 h;exact N ⟨j,u,e⟩
 have Q:∀(X Y:jd),X.Nodup->(∀x∈X,x∈Y)->I X<=I Y:=by
  intro X
  induction X with
  |nil=>intro Y _ _;exact bZ _
  |cons a X T=>
   intro Y n ae;obtain⟨O,M⟩:=rR.1 n;have ha:=ae a aE;have:=T (Y.erase a) M λx H=>(Vb (by rintro rfl;exact O H)).2 (ae x (by simp[H]))
   grind
 have:=Q (lA f v::L.map (lA f)) A (rR.2 ⟨n,B⟩) λx H=>by
  rcases c7.1 H with rfl|H
  .exact z v m
  obtain⟨j,u,rfl⟩:=ch.1 H;exact z j (D j u)
 grind
def awK(ok:gN F f){u:Nat}(y:u<I f)(A:v<I f)(e:lA f u=lA f v):cH (EJ f) (dS (I f) v true) (dS (I f) u true):=by
 obtain⟨l,hl⟩:=aP y;obtain⟨m,H⟩:=aP A;unfold lA at e;rw[hl,H]at e;cases h:l.ak<;>cases j:m.ak
 .simp only[h,j,fE,if_false,nh,true_and]at e;have:u=v:=J;subst this;exact .refl _
 .simp[h,j]at e
 .simp[h,j]at e
 simp only[h,j,if_true,nh,true_and]at e;have E:=ok.cr;have hp:HV f:=by unfold nN at E;simp at E;exact(Hq.1 E.1.2).2
 by_cases B:u=v
 .subst B;exact .refl _
 obtain⟨Q,w,n,z,x,M,N⟩:=qN ok.cr H j;have:iI f v=u:=by
  refine Classical.byContradiction λD=>?_;have O:=(hp _ _ w l n hl z h (by rw[x,e]) D).1;have L:=(hp _ _ l m hl H h j e B).1
  grind
 grind [ar7]
def aB2(ok:gN F f):ba (cH (EJ f)) (aT f)=aq U.ay f+aq U.ak f/2:=by
 obtain⟨L,D,u,M,A⟩:=atQ ok;have h:I (L.map (2* ·))=aq U.ay f+aq U.ak f/2:=by rw[cg,D]
 refine Nat.le_antisymm ?_ ?_
 .rw[<-h];refine adw λx n=>?_;obtain⟨v,z,e⟩:=ap8 ok n;obtain⟨j,H,E⟩:=A v z;exact⟨2*j,ch.2 ⟨j,H,rfl⟩,e.trans (awK ok (u j H) z E)⟩
 rw[<-h];refine SR (f:=λx=>lA f (uv f (rv x))) ?_ (λx n=>?_) ?_
 .rintro a b ⟨B,rfl⟩
  exact(ZU ok ((λy m=>by rw[E0 f]at m |-;exact uB m) a B)).1.symm
 .grind
 rw[h_];have:L.map ((λx=>lA f (uv f (rv x))) ∘ (2* ·))=L.map (lA f):=lq λj H=>by
  have:=IA (u j H) false
  grind [sf,g_]
 rw[this];exact M
def ayo(ok:gN F f):ba (cH (zC (aT f) (mJ f) (yx (zU f)))) (aT f)<=1:=by
 refine ag9 λx j=>?_;obtain⟨b,H⟩:=aax (p:=λ_=>false) (λ_=>rfl) ok j;have:=(H 0 aa).push (R':=zC (aT f) (mJ f) (yx (zU f))) (f:=λy=>y/2) ?_
 .grind [iL]
 intro u v r;rcases r with _|r
 .refine .rel (.inl ⟨J,?_⟩)
  grind [vm,mJ,iL]
 refine .rel (.inr ?_);obtain⟨e,h,m⟩:=pK.1 r;have M:(2*e,2*e+1)∈yx _:=ch.2 ⟨e,h,rfl⟩
 grind [J1,KN]
def ayv(ok:gN F f):fW f<=aq U.ay f+aq U.ak f/2+2/\(fW f+(aq U.ay f+aq U.ak f/2))%2=0:=by
 have j:=ajI (yx (zU f)) _ (aa2 ok) λt h=>by
  have:=aeh t h
  grind
 have m:=ay7 (yx _) _ (aa2 ok) λt h=>by have:=aeh t h;rw[E0 f];exact this
 have hl:I (yx (zU f))=I f+I (aA f):=by simp[yx]
 rw[K9 auM,azw ok,show ba _ _=_ from aB2 ok,hl]at j m;have n:=ayo ok;have H:=acd ok;have lY:=Ba (h:=f);have E:=ok.cr;unfold nN at E
 grind
end
structure eN where
 l:Nat
 r:Nat
 b:Bool
structure aQ where
 p:aN
 i:eN
 o:eN
abbrev fG:=List aQ
abbrev aQ.k(x:aQ):U:=x.p.l
def iR:eN->fG->eN->Prop
 |s,[],t=>s=t
 |s,x::r,t=>x.i=s/\iR x.o r t
def zm{s t:eN}{a b:fG}:iR s (a++b) t↔ ∃m,iR s a m/\iR m b t:=by
 induction a generalizing s with
 |nil=>exact⟨λh=>⟨s,rfl,h⟩,λ⟨m,f,H⟩=>by cases f;exact H⟩
 |cons x a j=>grind [iR]
def aqJ{s:eN}{a b:fG}(h:iR s (a++b) s):∃m,iR m (b++a) m:=by obtain⟨m,H,f⟩:=zm.1 h;exact⟨m,zm.2 ⟨s,f,H⟩⟩
structure sD (g:Bool) (i o j q:eN):Prop where
 a:if g then i.l=q.l else i.l=j.r
 b:if g then o.r=j.r else o.r=q.l
 c:if g then j.l=i.r else j.l=o.l
 d:if g then q.r=o.l else q.r=i.r
def cM (l:U):Bool:=l.over==(l.sign==1)
structure zW (x y:aQ):Prop where
 ov:x.k.over= !y.k.over
 sg:x.k.sign=y.k.sign
 x4:sD (cM x.k) x.i x.o y.i y.o
def zW.symm{x y:aQ}(h:zW x y):zW y x:=by
 obtain⟨j,f,a,b,c,d⟩:=h;have e:cM y.k= !cM x.k:=by grind [cM]
 refine⟨by rw[j];simp,f.symm,?_⟩;rw[e];cases H:cM x.k
 .rw[H]at a b c d;constructor<;>simp
  .exact c
  .exact d
  .exact a
  exact b
 rw[H]at a b c d;constructor<;>simp
 .exact c
 .exact d
 .exact a
 exact b
def jE(s:eN):eN:=⟨s.r,s.l,s.b⟩
def aQ.up(x:aQ):eN:=if x.p.d then x.i else jE x.o
def aQ.lo(x:aQ):eN:=if x.p.d then x.o else jE x.i
structure yW (F:Nat) (x:aQ):Prop where
 bad:eo F x.k=false
 cb:x.k.ak->x.i.b=x.o.b
 pb:x.k.ay->x.o.b=x.p.d/\x.i.b= !x.p.d
def nk (x y:aQ):Prop:=x.k.ak=true->y.k.ak->x.k.id=y.k.id->zW x y
def nk.symm{x y:aQ}(h:nk x y):nk y x:=λa b c=>(h b a c.symm).symm
def zH (x y:aQ):Prop:=x.k.ay=true->y.k.ay->x.k.gate=y.k.gate->x.k.au≠y.k.au
def zH.symm{x y:aQ}(h:zH x y):zH y x:=λa b c d=>h b a c.symm d.symm
structure B1 (T B:Nat->Nat->Nat) (x:aQ):Prop where
 wt:x.up.r=T x.k.gate.toNat (x.k.au.toNat-1)
 et:x.up.l=T x.k.gate.toNat x.k.au.toNat
 wb:x.lo.r=B x.k.gate.toNat (x.k.au.toNat-1)
 eb:x.lo.l=B x.k.gate.toNat x.k.au.toNat
abbrev aK(z:fG):af:=z.map aQ.k
structure fT (F:Nat) (z:fG) (T B:Nat->Nat->Nat) (S:aG):Prop where
 path:∃s,iR s z s
 ok:∀x∈z,yW F x
 cr:z.Pairwise nk
 ev:aq U.ak (aK z)%2=0
 ids:∀x∈z,x.k.ak->1<=x.k.id/\x.k.id<=((aq U.ak (aK z)/2:Nat):Int)
 rk:z.Pairwise zH
 rr:∀x∈z,x.k.ay->1<=x.k.au/\x.k.au<=(aV (aK z) x.k.gate.toNat:Int)
 pl:∀x∈z,x.k.ay->B1 T B x
 gt:∀g,g<F->T g (aV (aK z) g)=T (g+1) 0/\B g (aV (aK z) g)=B (g+1) 0
 gz:T F (aV (aK z) F)=T 0 0/\B F (aV (aK z) F)=B 0 0
 one:∃x∈z,x.k.ay
 nd:S.Nodup
 wit:∀s∈S,∃x∈z,s=x.o.l\/s=x.o.r
 num:aq U.ay (aK z)+aq U.ak (aK z)/2+1<=I S
def gO(F:Nat)(l:aW):Prop:= ∃z T B S,z.map aQ.p=l/\fT F z T B S
def vQ{p:U->Bool}{z Z:fG}(h:z.Perm Z):aq p (aK z)=aq p (aK Z):=(h.map aQ.k).countP_eq p
def fT.perm{z Z:fG}{S:aG}(c:fT F z T B S)(h:z.Perm Z)(hp:∃s,iR s Z s):fT F Z T B S:=by
 have f:∀ {x},x∈Z↔x∈z:=λ{x}=>h.symm.mem_iff;have e:∀p,aq p _=aq p _:=λp=>(vQ h).symm;have E:∀g,aV _ g=aV _ g:=λg=>e _;refine⟨hp,λx H=>c.ok x (f.1 H),(h.pairwise_iff λ{x y}=>nk.symm).1 c.cr,by rw[e];exact c.ev,λx H=>by rw[e];exact c.ids x (f.1 H),(h.pairwise_iff λ{x y}=>zH.symm).1 c.rk,
  λx H=>by rw[E];exact c.rr x (f.1 H),λx H=>c.pl x (f.1 H),λg m=>by rw[E];exact c.gt g m,by rw[E];exact c.gz,?_,c.nd,λs ae=>?_,by rw[e,e];exact c.num⟩
 .obtain⟨x,H,j⟩:=c.one;exact⟨x,f.2 H,j⟩
 obtain⟨x,H,j⟩:=c.wit s ae;exact⟨x,f.2 H,j⟩
def fT.mJ{a b:fG}{S:aG}(c:fT F (a++b) T B S):fT F (b++a) T B S:=by obtain⟨s,h⟩:=c.path;exact c.perm (G4) (aqJ h)
def gO.mJ{a b:aW}(c:gO F (a++b)):gO F (b++a):=by obtain⟨z,T,B,S,h,c⟩:=c;obtain⟨x,y,rfl,rfl,rfl⟩:=abx.1 h;exact⟨y++x,T,B,S,by rw[fL],c.mJ⟩
def aze:∀ {z:fG}{s t:eN},(∀x∈z,yW F x)->iR s z t->s.b=false->t.b->∃x∈z,x.k.ay/\x.p.d:=by
 intro z
 induction z with
 |nil=>intro s t _ h f H;cases h;rw[f]at H;cases H
 |cons x z u=>
  intro s t ok h f H;obtain⟨rfl,h⟩:=h;have O:=ok x aE;by_cases m:x.k.ay/\x.p.d
  .grind
  have n:x.o.b=false:=by
   rcases zB O.bad with hp|j
   .rw[(O.pb hp).1]
    grind
   rw[<-O.cb j];exact f
  grind
def fT.down{z:fG}{S:aG}(c:fT F z T B S):∃x∈z,x.k.ay/\x.p.d:=by
 obtain⟨x,j,hp⟩:=c.one;cases f:x.p.d
 .obtain⟨a,b,rfl⟩:=List.append_of_mem j;obtain⟨s,h⟩:=(c.mJ).path;obtain⟨rfl,h⟩:=h;obtain⟨E,m⟩:=(c.ok x aE).pb hp;rw[f]at E m;obtain⟨y,H,e⟩:=aze (λy H=>c.ok y (by
   rcases gn.1 H with H|H
   .simp[H]
   simp[H])) h E m
  refine⟨y,?_,e⟩;rcases gn.1 H with H|H
  .simp[H]
  simp[H]
 exact⟨x,j,hp,f⟩
theorem Rg{l:aW}{f:Nat}(hf:f<=I l):xU l f (I l)=(l.drop f++l.take f).map aN.l:=by
 apply pk;intro i;by_cases j:i<I l
 .have h:(xU l f (I l))[i]?=some (l.getD ((f+i)%I l) ⟨ij,false⟩).l:=by
   simp[xU,j]
  rw[h,fz];by_cases H:f+i<I l
  .rw[s8 (by simp;omega),Fw,eJ H];simp[H]
  rw[qQ (by simp;omega),rG];have m:(f+i)%I l=i-(I l-f):=by rw[Nj J,eJ J];omega
  grind
 have h:I (xU l f (I l))=I l:=by simp[xU]
 rw[lS (by rw[h];omega),lS (by simp;omega)]
def gO.fin{l:aW}(c:gO F l):∃z T B S x r,z=x::r/\x.k.ay/\x.p.d/\aK z=aY l/\I z=I l/\fT F z T B S:=by
 obtain⟨z,T,B,S,h,c⟩:=c;subst h;obtain⟨x,A,hp,L⟩:=c.down;have M:∀y:aQ,y.k.ay=(y.p.l.kind==1):=λy=>rfl;obtain⟨j,n⟩:=fK A;have v:=(bt.1 n).1;obtain⟨f,hf⟩:∃f,ue (z.map aQ.p)=some f:=by
  cases h:ue (z.map aQ.p)with
  |some f=>exact⟨f,rfl⟩
  |none=>
   have:=B6.1 h j (by simpa using v);rw[H4 (by rw[fz,n];rfl)]at this
   grind [Bi]
 have H:=AW hf;have u:f<I z:=by
  have:=CU hf
  simpa using this
 obtain⟨y,m⟩:=bt.2 ⟨u,rfl⟩ |> λh=>(⟨_,h⟩:∃y,z[f]?=some y)
 rw[H4 (by rw[fz,m];rfl)]at H;unfold Bi at H;rw[cP]at H;have E:z=z.take f++y::z.drop (f+1):=by obtain⟨hl,e⟩:=bt.1 m;rw[<-e,ux,jS]
 have D:z.drop f=y::z.drop (f+1):=by grind
 refine⟨y::z.drop (f+1)++z.take f,T,B,S,y,z.drop (f+1)++z.take f,rfl,H.1,H.2,?_,?_,?_⟩
 .unfold aY;rw[hf,nM,Rg (by rw[cg];omega),<-D];simp only[fL,vv,sC,h_];rfl
 .grind
 rw[E]at c;exact c.mJ
end
end Go.Abs
