/-
  Certificates: names of faces at each letter show that a code is valid.
-/
import Derived.Test.YtnhlfpanllllgaaGreatDoorVe
set_option linter.all false
open List renaming length->I
set_option maxHeartbeats 16000000
namespace Go.Abs
variable{f T B:Nat->Nat->Nat}{y u j:Nat}{g:ae}{m:Nat->Nat}{h:aa->aa}
section
variable{F x:Nat}
def akz{R:Nat->Nat->Prop}{n:Nat}{L:aG}(h:∀x,x<n->∃r∈L,cX R x r):bK (cX R) n<=I L:=by
 have key:∀M:aG,M.Nodup->(∀x∈M,x<n/\rO (cX R) x)->∃N:aG,I N=I M/\N.Nodup/\ ∀r∈N,r∈L/\ ∃x∈M,cX R x r:=by
  intro M
  induction M with
  |nil=>intro _ _;exact⟨[],rfl,tA,aQ⟩
  |cons a M X=>
   intro D m;obtain⟨T,Y⟩:=o0.1 D;obtain⟨N,u,y,f⟩:=X Y λx H=>m x (by simp[H]);obtain⟨O,B⟩:=m a aQ;obtain⟨r,j,e⟩:=h a O;refine⟨r::N,by simp[u],o0.2 ⟨λF=>?_,y⟩,λq g=>?_⟩
   .obtain⟨_,x,H,E⟩:=f r F;have e1:=B x (e.trans E.symm);have e2:=(m x (by simp[H])).2 a (E.trans e.symm);have:a=x:=J;exact T (this▸H)
   rcases dk.1 g with rfl|g
   .exact⟨j,a,aQ,e⟩
   obtain⟨Q,x,H,E⟩:=f q g;exact⟨Q,x,by simp[H],E⟩
 obtain⟨N,u,y,f⟩:=key ((List.range n).filter (BE (cX R))) (D5.filter _) λx H=>by obtain⟨A,z⟩:=uQ.1 H;exact⟨gI.1 A,JD.1 z⟩
 unfold bK;rw[Oi,<-u];exact KK _ _ y λr j=>(f r j).1
def Rl(p:Nat->Nat)(x:Nat):∀i j,it p (i+j) x=it p i (it p j x):=by
 intro i j
 induction i with
 |zero=>rw[kA];rfl
 |succ i f=>rw[show i+1+j=(i+j)+1 by omega];show p (it p (i+j) x)=p (it p i (it p j x));rw[f]
def aHa{p:Nat->Nat}{m:Nat}(h:it p m x=x):∀k,it p (k*m) x=x:=by
 intro k
 induction k with
 |zero=>rw[zg];rfl
 |succ k f=>rw[Ie,Rl,h,f]
def aBB{n:Nat}{p:Nat->Nat}(h:uY n p){a b:Nat}(e:cX (im n p) a b):a=b\/(a<n/\b<n/\ ∃k,it p k a=b):=by
 induction e with
 | @rel a b r=>obtain⟨H,rfl⟩:=r;exact .inr ⟨H,h.lt _ H,1,rfl⟩
 |refl _=>exact .inl rfl
 | @symm a b _ y=>
  rcases y with rfl|⟨H,g,k,f⟩
  .exact .inl rfl
  obtain⟨m,u⟩:=h.afC H;refine .inr ⟨g,H,k*m,?_⟩;rw[<-f,<-Rl,show k*m+k=k*(m+1) by rw[Nat.mul_succ]];exact aHa u k
 |trans _ _ i1 i2=>
  rcases i1 with rfl|⟨H,g,k,f⟩
  .exact i2
  rcases i2 with rfl|⟨_,z,j,x⟩
  .exact .inr ⟨H,g,k,f⟩
  exact .inr ⟨H,z,j+k,by rw[Rl,f,x]⟩
def aBj{n:Nat}{p:Nat->Nat}(h:uY n p){a b:Nat}(u:a≠b)(e:cX (im n p) a b):¬cX (im n (tr p (a,b))) a b:=by
 rcases aBB h e with F|⟨A,B,L,M⟩
 .exact absurd F u
 obtain⟨k,H,T⟩:=afD (p:=λk=>it p k a=b) L M;have z:1<=k:=by
  rcases Nat.eq_zero_or_pos k with rfl|h
  .exact absurd H u
  exact h
 have N:∀j,1<=j->j<=k->it p j a≠a:=λj m g E=>by
  rcases Nat.lt_or_eq_of_le g with c|rfl
  .have:it p (k-j) a=b:=by
    rw[<-H,show k=(k-j)+j by omega,Rl,E];congr 1;omega
   have:=T _ this;omega
  exact u (E.symm.trans H)
 have fg:∀j,j<k->it p j a≠b:=λj m E=>by have:=T j E;omega
 intro e2;have inv:∀x y,im n (tr p (a,b)) x y->(∃j,1<=j/\j<=k/\x=it p j a)=(∃j,1<=j/\j<=k/\y=it p j a):=by
  rintro x y ⟨D,rfl⟩
  apply propext;unfold tr;simp only;constructor
  .rintro ⟨j,m,g,rfl⟩
   rw[aw (N j m g)];by_cases c:it p j a=b
   .rw[aH c];exact⟨1,J,z,rfl⟩
   rw[aw c];refine⟨j+1,J,?_,rfl⟩;rcases Nat.lt_or_eq_of_le g with d|rfl
   .exact d
   exact absurd H c
  by_cases c:x=a
  .rw[aH c];rintro⟨j,m,g,E⟩
   exfalso;have:=h.inj _ _ B (h.Jv A (j-1)) (by rw[E,show j=(j-1)+1 by omega];rfl);by_cases d:j=1
   .subst d;exact u this.symm
   exact fg (j-1) J this.symm
  rw[aw c];by_cases d:x=b
  .subst d;intro _;exact⟨k,z,cT _,H.symm⟩
  rw[aw d];rintro⟨j,m,g,E⟩
  have:=h.inj _ _ D (h.Jv A (j-1)) (by rw[E,show j=(j-1)+1 by omega];rfl);by_cases f:j=1
  .subst f;exact absurd this c
  exact⟨j-1,J,J,this⟩
 have:=e2.inv inv;have Q:∃j,1<=j/\j<=k/\b=it p j a:=⟨k,z,cT _,H.symm⟩;rw[<-this]at Q;obtain⟨j,m,g,E⟩:=Q;exact N j m g E.symm
def as4{n:Nat}{p:Nat->Nat}(h:uY n p){a b:Nat}(f:a<n)(H:b<n)(E:a≠b):(bK (cX (im n (tr p (a,b)))) n+bK (cX (im n p)) n)%2=1:=by
 have one:∀x y,cX (tN (im n (tr p (a,b))) a b) x y↔cX (tN (im n p) a b) x y:=λx y=>by have h:=aax (p:=p) (S:=λ_ _=>False) f H (x:=x) (y:=y);have e:∀q:Nat->Nat,(λx y=>im n q x y\/False)=im n q:=λq=>funext λx=>funext λy=>propext aQ;rw[e,e]at h;exact h
 have m:bK (cX (tN (im n (tr p (a,b))) a b)) n=bK (cX (tN (im n p) a b)) n:=Ku one n;rcases Classical.em (cX (im n p) a b)with c|c
 .have g:=aa4 c n;have j:=aeF f H (aBj h E c);omega
 have g:=aeF f H c;have j:=aa4 (ahX h f H c) n;omega
def aGM{n:Nat}:∀(T:tK) (p:Nat->Nat),uY n p->(∀t∈T,t.1<n/\t.2<n/\t.1≠t.2)->(bK (cX (im n (T.foldl tr p))) n+bK (cX (im n p)) n+I T)%2=0:=by
 intro T
 induction T with
 |nil=>intro p _ _;simp only[IH,eK];omega
 |cons t T j=>
  intro p hp g;obtain⟨a,b⟩:=t;obtain⟨f,H,E⟩:=g (a,b) aQ
  replace f:a<n:=f
  replace H:b<n:=H
  replace E:a≠b:=E
  have e1:=j (tr p (a,b)) (hp.tr f H) λt h=>g t (by simp[h]);have e2:(bK (cX (im n (tr p (a,b)))) n+bK (cX (im n p)) n)%2=1:=as4 hp f H E;simp only[vi,dw];omega
def mV(g:ae)(x:Nat):Nat:=cA g (rv x)
def we(k:Nat):tK:=(List.range k).map λe=>(2*e,2*e+1)
def ay2(q:Nat->Nat):∀k y,(we k).foldl tr q y=if y<2*k then q (rv y)else q y:=by
 intro k
 induction k with
 |zero=>intro y;rw[aw J];rfl
 |succ k f=>
  intro y;have e:we (k+1)=we k++[(2*k,2*k+1)]:=by unfold we;rw[r9,lU];rfl
  rw[e,za,vi,IH,VQ];by_cases j:y=2*k
  .subst j;rw[aH rfl,f,aw J,aH J,wy]
  rw[aw j];by_cases g:y=2*k+1
  .subst g;rw[aH rfl,f,aw J,aH J,B_]
  rw[aw g,f];by_cases h:y<2*k
  .rw[aH h,aH J]
  rw[aw h,aw J]
def cX.push{R g:Nat->Nat->Prop}{f:Nat->Nat}(h:∀a b,R a b->cX g (f a) (f b))(e:cX R x y):cX g (f x) (f y):=by
 induction e with
 |rel r=>exact h _ _ r
 |refl a=>exact .refl _
 |symm _ j=>exact j.symm
 |trans _ _ i1 i2=>exact i1.trans i2
section
variable {F:Nat} {g:ae}
def aaM(ok:gy F g):uY (ct g) (mV g):=by
 have m:=uu ok;have f:=H0 g;have H:∀y,y<ct g->rv y<ct g:=λy h=>by rw[f]at h |-;exact Aq h
 refine⟨λy h=>m.lt _ (H y h),λx y j h e=>?_⟩;have:=m.inj _ _ (H x j) (H y h) e;rw[<-Bs x,this,Bs]
abbrev Fb(ls:ae):Nat:=I ls+I (aL ls)
def api(h:y<ct g):(we (Fb g)).foldl tr (mV g) y=cA g y:=by rw[ay2,aH (by rw[H0]at h;exact h)];unfold mV;rw[Bs]
def awP(x y:Nat):cX (im (ct g) ((we (Fb g)).foldl tr (mV g))) x y↔cX (im (ct g) (cA g)) x y:=
 ⟨cX.mono λa b r=>by obtain⟨h,rfl⟩:=r;exact .rel ⟨h,api h⟩,cX.mono λa b r=>by obtain⟨h,rfl⟩:=r;exact .rel ⟨h,(api h).symm⟩⟩
def af3{k:Nat}:∀t∈we k,t.1<2*k/\t.2<2*k/\t.1≠t.2:=by intro t H;obtain⟨e,h,rfl⟩:=eg.1 H;have:=gI.1 h;refine⟨?_,?_,?_⟩<;>simp only<;>omega
def aqX(ok:gy F g):bK (cX (im (ct g) (cA g))) (ct g)=oi g:=by
 obtain⟨z,A⟩:=GS (cA g) (ct g);have E:∀w∈fO (cA g) (ct g),w≠[]:=λw H=>by obtain⟨⟨d,t,e,_⟩,_⟩:=LL ok w H;rw[e];simp
 have h:I ((fO (cA g) (ct g)).map (·.headD 0))=oi g:=by rw[cH];rfl
 refine aaY ?_ ?_
 .rw[<-h];refine akz λx m=>?_;obtain⟨w,H,M⟩:=EX.1 (A x m);obtain⟨⟨d,t,e,_⟩,_⟩:=LL ok w H;refine⟨w.headD 0,eg.2 ⟨w,H,rfl⟩,?_⟩;exact adv (uu ok) (R:=im (ct g) (cA g)) (λy L=>.rel ⟨L,rfl⟩) H M (by rw[e];simp)
 rw[<-h];refine alh (f:=C0 (fO (cA g) (ct g))) ?_ (λx m=>?_) ?_
 .rintro a b ⟨N,rfl⟩
  obtain⟨u,B,j⟩:=EX.1 (A a N);obtain⟨i,D⟩:=jL B;rw[MZ z D j,MZ z D (zr (uu ok) B j)]
 .obtain⟨w,H,rfl⟩:=eg.1 m;obtain⟨⟨d,t,e,O⟩,_⟩:=LL ok w H;rw[e];simp only[List.headD_cons];have:ct g=2*I g+2*I (aL g):=rfl;omega
 rw[aAQ z E];exact D5
abbrev En(ls:ae):Nat->Nat->Prop:=im (ct ls) (mV ls)
def acV{v:Nat}(H:v<I g)(f:Bool):fj (I g) v f<ct g:=by have h:=DS H (!f);rw[<-zc]at h;have:=Aq h;rw[Bs]at this;have:ct g=2*I g+2*I (aL g):=rfl;omega
def aih(v:Nat)(f:Bool):mV g (fj (I g) v f)=cA g (j5 (I g) v (!f)):=by unfold mV;rw[zc]
def ayg(ok:gy F g){v:Nat}(h:v<I g):cX (En g) (fj (I g) v true) (fj (I g) v false):=by
 obtain⟨l,hl⟩:=aR h;have f:=apB ok h false;have:mV g (mV g (fj (I g) v true))=fj (I g) v false:=by rw[aih];exact f
 have p:=aaM ok;rw[<-this];exact(cX.rel ⟨acV h true,rfl⟩).trans (.rel ⟨p.lt _ (acV h true),rfl⟩)
def Wd(ok:gy F g){v:Nat}(H:v<I g)(f h:Bool):cX (En g) (fj (I g) v f) (fj (I g) v h):=by
 have e:=ayg ok H;cases f<;>cases h
 .exact .refl _
 .exact e.symm
 .exact e
 exact .refl _
def aAK(ok:gy F g){v:Nat}{l:aa}(hl:g[v]?=some l)(h:l.aF):cX (En g) (fj (I g) v true) (fj (I g) (iK g v) true):=by
 obtain⟨y,m,f,x,od,u,M⟩:=rJ ok.cr hl h;have j:=(cD.1 hl).1;have H:=(cD.1 f).1;have:mV g (fj (I g) v true)=fj (I g) (iK g v) (false==(l.over==(l.sign==1))):=by rw[aih,Al hl h];rfl
 exact(cX.rel ⟨acV j true,this.symm⟩).trans (Wd ok H _ _)
def aAo(ok:gy F g){k:Nat}(H:k<I (aL g)):cX (En g) (2*I g+2*k) (fj (I g) ((aL g).getD k 0) true):=by
 have A:2*I g+2*k<ct g:=by unfold ct;omega
 obtain⟨l,h,j⟩:=CO H;have f:=(cD.1 h).1;have:mV g (2*I g+2*k)=fj (I g) ((aL g).getD k 0) (c9 g ((aL g).getD k 0)):=by unfold mV;rw[show 2*I g+2*k=2*(I g+k) by omega,wy,show 2*(I g+k)+1=2*I g+2*k+1 by omega,Hk]
 exact(cX.rel ⟨A,this.symm⟩).trans (Wd ok f _ _)
def avh(ok:gy F g){k:Nat}(f:k<I (aL g)):cX (En g) (2*I g+2*k+1) (fj (I g) ((aL g).getD ((k+1)%I (aL g)) 0) true):=by
 have A:2*I g+2*k+1<ct g:=by unfold ct;omega
 obtain⟨l,h,j⟩:=CO (fC (k+1) (show 0<I (aL g) by omega));have H:=(cD.1 h).1;have:mV g (2*I g+2*k+1)=fj (I g) ((aL g).getD ((k+1)%I (aL g)) 0) (!c9 g ((aL g).getD ((k+1)%I (aL g)) 0)):=by unfold mV;rw[show 2*I g+2*k+1=2*(I g+k)+1 by omega,B_,show 2*(I g+k)=2*I g+2*k by omega,Iw]
 exact(cX.rel ⟨A,this.symm⟩).trans (Wd ok H _ _)
def aCV(ok:gy F g)(z:x<ct g):∃v,v<I g/\cX (En g) x (fj (I g) v true):=by
 by_cases c:x<2*I g
 .have m:rv x<2*I g:=Aq c;obtain⟨v,j,hv,e⟩:∃v j,v<I g/\rv x=j5 (I g) v j:=⟨_,_,by
   split
   .exact fC _ J
   omega,Jw m⟩
  have:x=fj (I g) v (!j):=by rw[<-ayw,<-e,Bs]
  exact⟨v,hv,by rw[this];exact Wd ok hv _ _⟩
 have y:ct g=2*I g+2*I (aL g):=rfl;have H:(x-2*I g)/2<I (aL g):=J;rcases w6 x with h|h
 .obtain⟨l,f,u⟩:=CO H;refine⟨_,(cD.1 f).1,?_⟩;have:=aAo ok H;rwa[show 2*I g+2*((x-2*I g)/2)=x by omega]at this
 obtain⟨l,f,u⟩:=CO (fC ((x-2*I g)/2+1) (show 0<I (aL g) by omega));refine⟨_,(cD.1 f).1,?_⟩;have:=avh ok H;rwa[show 2*I g+2*((x-2*I g)/2)+1=x by omega]at this
def ay8(ok:gy F g):∃L:aG,I L=ai aa.aM g+ai aa.aF g/2/\(∀j∈L,j<I g)/\(L.map (nr g)).Nodup/\ ∀v,v<I g->∃j∈L,nr g j=nr g v:=by
 have y:=ok.cr;unfold nX at y;simp only[dj,dI]at y;obtain⟨L,M,N,B⟩:=aqL ok;refine⟨L,M,N,B,λv f=>?_⟩
 let A:sK:=(aL g).map (λi:Nat=>((0:Int),(i:Int)))++(gY g (I g)).map λid=>((1:Int),id)
 have R:I A=ai aa.aM g+ai aa.aF g/2:=by simp only[A,fv,cH,O2,y.2]
 have D:∀v,v<I g->nr g v∈A:=λv f=>by
  obtain⟨l,hl⟩:=aR f;unfold nr;rw[hl];rcases ok.kinds l (ch hl)with hp|z
  .simp only[q_ hp,eX,if_false];exact AI _ (eg.2 ⟨v,uh.2 ⟨l,hl,hp⟩,rfl⟩)
  simp only[z,if_true];refine zt _ (eg.2 ⟨l.id,?_,rfl⟩);exact(GY (cT _)).2 ⟨v,l.over,f,by rw[Lk hl z];simp⟩
 refine Classical.byContradiction λZ=>?_;have m:nr g v∉L.map (nr g):=λh=>by obtain⟨j,u,e⟩:=eg.1 h;exact Z ⟨j,u,e⟩
 have T:∀(X Y:sK),X.Nodup->(∀x∈X,x∈Y)->I X<=I Y:=by
  intro X
  induction X with
  |nil=>intro Y _ _;exact cE _
  |cons a X ih=>intro Y m hs;obtain⟨Q,O⟩:=o0.1 m;have E:=hs a aQ;have:=ih (Y.erase a) O λx H=>(O9 (by rintro rfl;exact Q H)).2 (hs x (by simp[H]));rw[M5 E]at this;have:0<I Y:=Ij E;simp only[dw];omega
 have:=T (nr g v::L.map (nr g)) A (o0.2 ⟨m,B⟩) λx H=>by
  rcases dk.1 H with rfl|H
  .exact D v f
  obtain⟨j,u,rfl⟩:=eg.1 H;exact D j (N j u)
 rw[dw,cH,M,R]at this;omega
def azz(ok:gy F g){v:Nat}(B:u<I g)(M:v<I g)(e:nr g u=nr g v):cX (En g) (fj (I g) v true) (fj (I g) u true):=by
 obtain⟨l,hl⟩:=aR B;obtain⟨m,H⟩:=aR M;unfold nr at e;rw[hl,H]at e;simp only at e;cases h:l.aF<;>cases f:m.aF
 .simp only[h,f,eX,if_false,mj,true_and]at e;have:u=v:=J;subst this;exact .refl _
 .simp[h,f]at e
 .simp[h,f]at e
 simp only[h,f,if_true,mj,true_and]at e;have j:=ok.cr;have hp:GW g:=by unfold nX at j;simp only[dj,dI,jP,gI]at j;exact(G9.1 j.1.2).2
 by_cases x:u=v
 .subst x;exact .refl _
 obtain⟨O,w,y,L,A,wo,N⟩:=rJ ok.cr H f;have:iK g v=u:=by refine Classical.byContradiction λE=>?_;have D:=(hp _ _ w l y hl L h (by rw[A,e]) E).1;have z:=(hp _ _ l m hl H h f e x).1;rw[wo]at D;revert D z;cases l.over<;>cases m.over<;>simp
 have:=aAK ok H f;rwa[‹iK g v=u›]at this
def aHf(ok:gy F g):bK (cX (En g)) (ct g)=ai aa.aM g+ai aa.aF g/2:=by
 obtain⟨L,O,u,R,B⟩:=ay8 ok;have Q:=H0 g;have M:ct g=2*I g+2*I (aL g):=rfl;have D:∀y,y<ct g->rv y<ct g:=λy z=>by rw[Q]at z |-;exact Aq z
 have h:I (L.map (2* ·))=ai aa.aM g+ai aa.aF g/2:=by rw[cH,O]
 refine aaY ?_ ?_
 .rw[<-h];refine akz λx m=>?_;obtain⟨v,A,e⟩:=aCV ok m;obtain⟨j,H,E⟩:=B v A;exact⟨2*j,eg.2 ⟨j,H,rfl⟩,e.trans (azz ok (u j H) A E)⟩
 rw[<-h];refine alh (f:=λx=>nr g (qg g (rv x))) ?_ (λx m=>?_) ?_
 .rintro a b ⟨N,rfl⟩
  exact(aBY ok (D a N)).1.symm
 .obtain⟨j,H,rfl⟩:=eg.1 m;have:=u j H;omega
 rw[o9];have:L.map ((λx=>nr g (qg g (rv x))) ∘ (2* ·))=L.map (nr g):=Ax λj H=>by have:=EH (g:=g) (u j H) false;simp only[Function.comp_apply,wy];rw[show 2*j+1=j5 (I g) j false from rfl,this]
 rw[this];exact R
def arL(ok:gy F g):bK (cX (zF (ct g) (mV g) (we (Fb g)))) (ct g)<=1:=by
 refine aG6 λx z=>?_;obtain⟨b,m⟩:=aFD (p:=λ_=>false) (λ_=>rfl) ok z;have h:=m 0 U;have:=h.push (g:=zF (ct g) (mV g) (we (Fb g))) (f:=λy=>y/2) ?_
 .have B:nZ b 0<2:=QM U;rw[show(2*x+0)/2=x by omega,show nZ b 0/2=0 by omega]at this;exact this
 intro u v r;rcases r with⟨D,rfl⟩|r
 .refine .rel (.inl ⟨J,?_⟩);unfold Y5 mV nZ;simp only[eX,if_false];omega
 refine .rel (.inr ?_);obtain⟨e,A,H⟩:=K_.1 r;have j:(2*e,2*e+1)∈we (Fb g):=eg.2 ⟨e,A,rfl⟩;simp only[dk,iu,or_false,mj]at H;rcases H with⟨rfl,rfl⟩|⟨rfl,rfl⟩
 .rw[aa9];simp only[eX,if_false];rw[show 4*e/2=2*e by omega,show(4*e+2)/2=2*e+1 by omega];exact j
 rw[aaZ];simp only[eX,if_false];rw[show(4*e+1)/2=2*e by omega,show(4*e+3)/2=2*e+1 by omega];exact j
def aBS(ok:gy F g):oi g<=ai aa.aM g+ai aa.aF g/2+2/\(oi g+(ai aa.aM g+ai aa.aF g/2))%2=0:=by
 have f:=H0 g;have e1:=aDg (we (Fb g)) (mV g) (aaM ok) λt h=>by have:=af3 t h;rw[f];exact⟨this.1,this.2.1⟩
 have e2:=aGM (we (Fb g)) (mV g) (aaM ok) λt h=>by have:=af3 t h;rw[f];exact this
 have hl:I (we (Fb g))=I g+I (aL g):=by simp[we]
 rw[Ku awP,aqX ok,show bK (cX (im (ct g) (mV g))) (ct g)=_ from aHf ok,hl]at e1 e2;have m:=arL ok;have j:=Wn ok;have lN:=O2 (L:=g);have H:=ok.cr;unfold nX at H;simp only[dj,dI]at H;have E:=H.1.1;omega
end
structure gj where
 l:Nat
 r:Nat
 b:Bool
structure cM where
 p:aU
 i:gj
 o:gj
abbrev iA:=List cM
abbrev cM.k(x:cM):aa:=x.p.l
def mr:gj->iA->gj->Prop
 |s,[],t=>s=t
 |s,x::r,t=>x.i=s/\mr x.o r t
def Nw{s t:gj}{a b:iA}:mr s (a++b) t↔ ∃m,mr s a m/\mr m b t:=by
 induction a generalizing s with
 |nil=>exact⟨λh=>⟨s,rfl,h⟩,λ⟨m,f,H⟩=>by cases f;exact H⟩
 |cons x a g=>show(x.i=s/\mr x.o (a++b) t)↔_;rw[g];exact⟨λ⟨h,m,f,H⟩=>⟨m,⟨h,f⟩,H⟩,λ⟨m,⟨h,f⟩,H⟩=>⟨h,m,f,H⟩⟩
def arG{s:gj}{a b:iA}(h:mr s (a++b) s):∃m,mr m (b++a) m:=by obtain⟨m,H,f⟩:=Nw.1 h;exact⟨m,Nw.2 ⟨s,f,H⟩⟩
structure tS (g:Bool) (i o j q:gj):Prop where
 a:if g then i.l=q.l else i.l=j.r
 b:if g then o.r=j.r else o.r=q.l
 c:if g then j.l=i.r else j.l=o.l
 d:if g then q.r=o.l else q.r=i.r
def gN (l:aa):Bool:=l.over==(l.sign==1)
structure BX (x y:cM):Prop where
 ov:x.k.over= !y.k.over
 sg:x.k.sign=y.k.sign
 x4:tS (gN x.k) x.i x.o y.i y.o
def BX.symm{x y:cM}(h:BX x y):BX y x:=by
 obtain⟨f,H,a,b,c,d⟩:=h;have e:gN y.k= !gN x.k:=by unfold gN;rw[f,H];cases y.k.over<;>cases(y.k.sign==1)<;>rfl
 refine⟨by rw[f];simp,H.symm,?_⟩;rw[e];cases g:gN x.k
 .rw[g]at a b c d;simp only[eX,if_false]at a b c d;constructor<;>simp only[GD,if_true]
  .exact c
  .exact d
  .exact a
  exact b
 rw[g]at a b c d;simp only[if_true]at a b c d;constructor<;>simp only[zl,eX,if_false]
 .exact c
 .exact d
 .exact a
 exact b
def jX(s:gj):gj:=⟨s.r,s.l,s.b⟩
def cM.up(x:cM):gj:=if x.p.d then x.i else jX x.o
def cM.lo(x:cM):gj:=if x.p.d then x.o else jX x.i
structure Ar (F:Nat) (x:cM):Prop where
 bad:eO F x.k=false
 cb:x.k.aF->x.i.b=x.o.b
 pb:x.k.aM->x.o.b=x.p.d/\x.i.b= !x.p.d
def nY (x y:cM):Prop:=x.k.aF=true->y.k.aF->x.k.id=y.k.id->BX x y
def nY.symm{x y:cM}(h:nY x y):nY y x:=λa b c=>(h b a c.symm).symm
def Ah (x y:cM):Prop:=x.k.aM=true->y.k.aM->x.k.gate=y.k.gate->x.k.ay≠y.k.ay
def Ah.symm{x y:cM}(h:Ah x y):Ah y x:=λa b c d=>h b a c.symm d.symm
structure HJ (T B:Nat->Nat->Nat) (x:cM):Prop where
 wt:x.up.r=T x.k.gate.toNat (x.k.ay.toNat-1)
 et:x.up.l=T x.k.gate.toNat x.k.ay.toNat
 wb:x.lo.r=B x.k.gate.toNat (x.k.ay.toNat-1)
 eb:x.lo.l=B x.k.gate.toNat x.k.ay.toNat
abbrev bG(z:iA):ae:=z.map cM.k
structure jg (F:Nat) (z:iA) (T B:Nat->Nat->Nat) (S:aG):Prop where
 path:∃s,mr s z s
 ok:∀x∈z,Ar F x
 cr:z.Pairwise nY
 ev:ai aa.aF (bG z)%2=0
 ids:∀x∈z,x.k.aF->1<=x.k.id/\x.k.id<=((ai aa.aF (bG z)/2:Nat):Int)
 rk:z.Pairwise Ah
 rr:∀x∈z,x.k.aM->1<=x.k.ay/\x.k.ay<=(di (bG z) x.k.gate.toNat:Int)
 pl:∀x∈z,x.k.aM->HJ T B x
 gt:∀g,g<F->T g (di (bG z) g)=T (g+1) 0/\B g (di (bG z) g)=B (g+1) 0
 gz:T F (di (bG z) F)=T 0 0/\B F (di (bG z) F)=B 0 0
 one:∃x∈z,x.k.aM
 nd:S.Nodup
 wit:∀s∈S,∃x∈z,s=x.o.l\/s=x.o.r
 num:ai aa.aM (bG z)+ai aa.aF (bG z)/2+1<=I S
def oD(F:Nat)(l:cY):Prop:= ∃z T B S,z.map cM.p=l/\jg F z T B S
def DU{p:aa->Bool}{z Z:iA}(h:z.Perm Z):ai p (bG z)=ai p (bG Z):=(h.map cM.k).countP_eq p
def jg.perm{z Z:iA}{S:aG}(c:jg F z T B S)(h:z.Perm Z)(hp:∃s,mr s Z s):jg F Z T B S:=by
 have f:∀ {x},x∈Z↔x∈z:=λ{x}=>h.symm.mem_iff;have e:∀p,ai p (bG Z)=ai p (bG z):=λp=>(DU h).symm;have E:∀g,di (bG Z) g=di (bG z) g:=λg=>e _;refine⟨hp,λx H=>c.ok x (f.1 H),(h.pairwise_iff λ{x y}=>nY.symm).1 c.cr,by rw[e];exact c.ev,λx H=>by rw[e];exact c.ids x (f.1 H),(h.pairwise_iff λ{x y}=>Ah.symm).1 c.rk,
  λx H=>by rw[E];exact c.rr x (f.1 H),λx H=>c.pl x (f.1 H),λg m=>by rw[E];exact c.gt g m,by rw[E];exact c.gz,?_,c.nd,λs hs=>?_,by rw[e,e];exact c.num⟩
 .obtain⟨x,H,j⟩:=c.one;exact⟨x,f.2 H,j⟩
 obtain⟨x,H,j⟩:=c.wit s hs;exact⟨x,f.2 H,j⟩
def jg.mV{a b:iA}{S:aG}(c:jg F (a++b) T B S):jg F (b++a) T B S:=by obtain⟨s,h⟩:=c.path;exact c.perm (List.perm_append_comm) (arG h)
def oD.mV{a b:cY}(c:oD F (a++b)):oD F (b++a):=by obtain⟨z,T,B,S,h,c⟩:=c;obtain⟨x,y,rfl,rfl,rfl⟩:=List.map_eq_append_iff.1 h;exact⟨y++x,T,B,S,by rw[lU],c.mV⟩
def auy:∀ {z:iA}{s t:gj},(∀x∈z,Ar F x)->mr s z t->s.b=false->t.b->∃x∈z,x.k.aM/\x.p.d:=by
 intro z
 induction z with
 |nil=>intro s t _ h f H;cases h;rw[f]at H;cases H
 |cons x z A=>
  intro s t ok h f H;obtain⟨rfl,h⟩:=h;have tR:=ok x aQ;by_cases g:x.k.aM/\x.p.d
  .exact⟨x,aQ,g⟩
  have m:x.o.b=false:=by
   rcases yO tR.bad with hp|D
   .rw[(tR.pb hp).1];cases B:x.p.d
    .rfl
    exact absurd ⟨hp,B⟩ g
   rw[<-tR.cb D];exact f
  obtain⟨y,j,e⟩:=A (λx u=>ok x (by simp[u])) h m H;exact⟨y,by simp[j],e⟩
def jg.down{z:iA}{S:aG}(c:jg F z T B S):∃x∈z,x.k.aM/\x.p.d:=by
 obtain⟨x,g,hp⟩:=c.one;cases f:x.p.d
 .obtain⟨a,b,rfl⟩:=List.append_of_mem g;have j:=c.mV;obtain⟨s,h⟩:=j.path;obtain⟨rfl,h⟩:=h;obtain⟨e1,e2⟩:=(c.ok x aQ).pb hp;rw[f]at e1 e2;obtain⟨y,H,e⟩:=auy (λy H=>c.ok y (by
   rcases fc.1 H with H|H
   .simp[H]
   simp[H])) h e1 e2
  refine⟨y,?_,e⟩;rcases fc.1 H with H|H
  .simp[H]
  simp[H]
 exact⟨x,g,hp,f⟩
def adS{l:cY}{f:Nat}(u:f<=I l):sR l f (I l)=(l.drop f++l.take f).map aU.l:=by
 apply y_;intro i;by_cases m:i<I l
 .have h:(sR l f (I l))[i]?=some (l.getD ((f+i)%I l) ⟨lD,false⟩).l:=by
   simp[sR,m]
  rw[h,fY];by_cases H:f+i<I l
  .rw[xv (by simp;omega),yt,jv H];simp[H]
  rw[vI (by simp;omega),l8];have j:(f+i)%I l=i-(I l-f):=by rw[acJ J,jv J];omega
  have g:i-(I l-f)<I l:=J;rw[j,nN,aH J];simp[g]
 have h:I (sR l f (I l))=I l:=by simp[sR]
 rw[oF (by rw[h];omega),oF (by simp;omega)]
def oD.fin{l:cY}(c:oD F l):∃z T B S x r,z=x::r/\x.k.aM/\x.p.d/\bG z=oo l/\I z=I l/\jg F z T B S:=by
 obtain⟨z,T,B,S,h,c⟩:=c;subst h;obtain⟨x,L,hp,A⟩:=c.down;have N:∀y:cM,y.k.aM=(y.p.l.kind==1):=λy=>rfl;obtain⟨j,u⟩:=jL L;have M:=(cD.1 u).1;have E:(z.map cM.p)[j]?=some x.p:=by rw[fY,u];rfl
 obtain⟨f,hf⟩:∃f,tL (z.map cM.p)=some f:=by
  cases h:tL (z.map cM.p)with
  |some f=>exact⟨f,rfl⟩
  |none=>have:=GU.1 h j (by simpa using M);rw[acs E]at this;unfold E1 at this;rw[N]at hp;simp[hp,A]at this
 have H:=IK hf;have D:f<I z:=by
  have:=Eo hf
  simpa using this
 obtain⟨y,g⟩:=cD.2 ⟨D,rfl⟩ |> λh=>(⟨_,h⟩:∃y,z[f]?=some y)
 have m:(z.map cM.p)[f]?=some y.p:=by rw[fY,g];rfl
 rw[acs m]at H;unfold E1 at H;rw[dj]at H;have O:z=z.take f++y::z.drop (f+1):=by obtain⟨hl,e⟩:=cD.1 g;rw[<-e,sQ,ot]
 have Z:z.drop f=y::z.drop (f+1):=by obtain⟨hl,e⟩:=cD.1 g;rw[<-e,sQ]
 refine⟨y::z.drop (f+1)++z.take f,T,B,S,y,z.drop (f+1)++z.take f,rfl,H.1,H.2,?_,?_,?_⟩
 .unfold oo;rw[hf,mO,adS (by rw[cH];omega),<-Z];simp only[lU,E_,Ex,o9];rfl
 .rw[<-Z,fv,l8,iM,cH];omega
 rw[O]at c;exact c.mV
def atl(L:ai aa.aF g%2=0)(z:abc g)(hp:GW g):nX g:=by
 rw[aaI L (G9.2 ⟨z,hp⟩)];have Q:=aab g;have y:∀id∈gY g (I g),ai (nC id) g<=2:=λid _=>by rw[R5 id];have:=BJ hp id true;have:=BJ hp id false;omega
 have R:=afK (f:=λid=>ai (nC id) g) _ y;have N:I (gY g (I g))<=ai aa.aF g/2:=by
  have u:∀id∈gY g (I g),1<=id/\id<=((ai aa.aF g/2:Nat):Int):=λid H=>by obtain⟨j,o,O,A⟩:=(GY (cT _)).1 H;obtain⟨m,E,M,od,_⟩:=BS A;rw[<-od];exact z m (ch E) M
  have:=KK ((gY g (I g)).map Int.toNat) (List.range' 1 (ai aa.aF g/2)) ?_ ?_
  .rwa[cH,List.length_range']at this
  .refine yK.2 (V9 (λ{a b} F B h e=>h ?_) (Uk g (I g)));have:=u a F;have:=u b B;omega
  intro x D;obtain⟨id,H,rfl⟩:=eg.1 D;have:=u id H;rw[List.mem_range'_1];omega
 simp only[dI];omega
def NG{s t:gj}{z:iA}{x:cM}(h:mr s z t)(H:z[0]?=some x):x.i=s:=by
 cases z with
 |nil=>cases H
 |cons y z=>cases H;exact h.1
def am2:∀ {z:iA}{s t:gj}{i:Nat}{x y:cM},mr s z t->z[i]?=some x->z[i+1]?=some y->x.o=y.i:=by
 intro z
 induction z with
 |nil=>intro s t i x y _ H;cases H
 |cons a z g=>
  intro s t i x y h H f;cases i with
  |zero=>cases H;exact(NG h.2 f).symm
  |succ i=>exact g h.2 H f
def apl:∀ {z:iA}{s t:gj}{x:cM},mr s z t->z[I z-1]?=some x->x.o=t:=by
 intro z
 induction z with
 |nil=>intro s t x _ H;cases H
 |cons a z f=>
  intro s t x h H;cases z with
  |nil=>cases H;exact h.2
  |cons b z=>exact f h.2 H
def agP{z:iA}{s:gj}{x y:cM}(h:mr s z s)(f:z[j]?=some x)(H:z[(j+1)%I z]?=some y):x.o=y.i:=by
 have g:=(cD.1 f).1;by_cases c:j+1<I z
 .rw[jv c]at H;exact am2 h f H
 have:j+1=I z:=J;rw[this,Am]at H;rw[apl h (by rw[<-this];exact f),NG h H]
def Bt{z:iA}{i:Nat}{x:cM}(h:z[i]?=some x):(bG z)[i]?=some x.k:=by rw[fY,h];rfl
def Dn{z:iA}{i:Nat}{l:aa}(h:(bG z)[i]?=some l):∃x,z[i]?=some x/\x.k=l:=by rw[fY,eU]at h;exact h
def ac1{z:iA}{s t:gj}(ok:∀x∈z,Ar F x)(h:mr s z t)(hs:s.b=false):∀i x,z[i]?=some x->x.i.b= !c9 (bG z) i/\x.o.b= !c9 (bG z) (i+1):=by
 have step:∀i x,z[i]?=some x->x.i.b=(!c9 (bG z) i)->x.o.b= !c9 (bG z) (i+1):=λi x H m=>by
  have tR:=ok x (ch H);rcases yO tR.bad with hp|j
  .rw[PI (Bt H) hp,N9,(tR.pb hp).1];have:=(tR.pb hp).2;rw[m]at this;revert this;cases c9 (bG z) i<;>cases x.p.d<;>simp
  rw[NH (Bt H) (by
   cases hp:x.k.aM
   .rfl
   rw[q_ hp]at j;cases j),<-m,tR.cb j]
 intro i
 induction i with
 |zero=>
  intro x H;have:x.i.b= !c9 (bG z) 0:=by rw[NG h H,hs];rfl
  exact⟨this,step 0 x H this⟩
 |succ i u=>intro y f;obtain⟨x,H⟩:=aR (L:=z) (k:=i) (by have:=(cD.1 f).1;omega);have e:=(u x H).2;rw[am2 h H f]at e;exact⟨e,step (i+1) y f e⟩
def amI(H:∀m,m<F->f m (di g m)=f (m+1) 0):∀(d m k j u:Nat),j=m+d->j<=F->k<=di g m->u<=di g j->iR g m+k=iR g j+u->f m k=f j u:=by
 intro d
 induction d with
 |zero=>intro m k j u e _ _ _ h;rw[vX]at e;subst e;rw[show k=u by omega]
 |succ d y=>intro m k j u e z B x h;have A:=B2 (L:=g) (show m+1<=j by omega);have hs:=u6 g m;have:k=di g m:=J;subst this;rw[H m J];exact y (m+1) 0 j u J z (cE _) x J
def WO(H:∀m,m<F->f m (di g m)=f (m+1) 0){m k j u:Nat}(A:m<=F)(z:j<=F)(x:k<=di g m)(y:u<=di g j)(h:iR g m+k=iR g j+u):f m k=f j u:=by
 rcases Nat.le_total m j with c|c
 .exact amI H (j-m) m k j u J z x y h
 exact(amI H (m-j) j u m k J A y x h.symm).symm
def NI:cM:=⟨⟨lD,false⟩,⟨0,0,false⟩,⟨0,0,false⟩⟩
def pY(z:iA)(x:Nat):Nat:=
 if x<2*I z then(if x%2=0 then(z.getD (x/2) NI).o.l else(z.getD (x/2) NI).o.r)
 else if x%2=0 then(z.getD ((aL (bG z)).getD ((x-2*I z)/2) 0) NI).up.l else(z.getD ((aL (bG z)).getD ((x-2*I z)/2) 0) NI).lo.l
def Ff{z:iA}{i:Nat}{x:cM}(h:z[i]?=some x):z.getD i NI=x:=by rw[dS,h];rfl
section
variable {F:Nat} {z:iA} {s:gj}
def Xp(h:mr s z s){v:Nat}{x:cM}(H:z[v]?=some x)(m:Bool):pY z (fj (I z) v m)=if m then x.o.l else x.i.r:=by
 have u:=(cD.1 H).1;cases m with
 |true=>show pY z (2*v)=_;unfold pY;rw[aH J,aH J,show 2*v/2=v by omega,Ff H];rfl
 |false=>show pY z (2*((v+I z-1)%I z)+1)=_;have j:=fC (v+I z-1) (show 0<I z by omega);obtain⟨y,f⟩:=aR (L:=z) j;have e:=agP h f (by rw[vZ u];exact H);unfold pY;rw[aH J,aw J,show(2*((v+I z-1)%I z)+1)/2=(v+I z-1)%I z by omega,Ff f,e];rfl
def aA4(h:mr s z s){v:Nat}{x:cM}(H:z[v]?=some x)(m:Bool):pY z (j5 (I z) v m)=if m then x.i.l else x.o.r:=by
 have u:=(cD.1 H).1;cases m with
 |false=>show pY z (2*v+1)=_;unfold pY;rw[aH J,aw J,show(2*v+1)/2=v by omega,Ff H];rfl
 |true=>show pY z (2*((v+I z-1)%I z))=_;have j:=fC (v+I z-1) (show 0<I z by omega);obtain⟨y,f⟩:=aR (L:=z) j;have e:=agP h f (by rw[vZ u];exact H);unfold pY;rw[aH J,aH J,show(2*((v+I z-1)%I z))/2=(v+I z-1)%I z by omega,Ff f,e];rfl
def anv{k v:Nat}{x:cM}(h:(aL (bG z)).getD k 0=v)(H:z[v]?=some x):pY z (2*I z+2*k)=x.up.l:=by unfold pY;rw[aw J,aH J,show(2*I z+2*k-2*I z)/2=k by omega,h,Ff H]
def akY{k v:Nat}{x:cM}(h:(aL (bG z)).getD k 0=v)(H:z[v]?=some x):pY z (2*I z+2*k+1)=x.lo.l:=by unfold pY;rw[aw J,aw J,show(2*I z+2*k+1-2*I z)/2=k by omega,h,Ff H]
def jg.UO{S:aG}(c:jg F z T B S){i:Nat}{x y:cM}(A:z[i]?=some x)(m:z[j]?=some y)(g:i≠j):nY x y/\Ah x y:=by
 obtain⟨f,E⟩:=cD.1 A;obtain⟨H,u⟩:=cD.1 m;subst E u;rcases aaU g with h|h
 .exact⟨Gf.1 c.cr i j f H h,Gf.1 c.rk i j f H h⟩
 exact⟨(Gf.1 c.cr j i H f h).symm,(Gf.1 c.rk j i H f h).symm⟩
def jg.fK{S:aG}(c:jg F z T B S){x:cM}(h:x∈z)(hp:x.k.aM):vf F (bG z) x.k:=by obtain⟨⟨⟨⟨g0,g1⟩,_⟩,_⟩,_⟩:=(sU hp).1 (c.ok x h).bad;obtain⟨r0,r1⟩:=c.rr x h hp;exact⟨g0,g1,r0,r1⟩
def jg.dg{S:aG}(c:jg F z T B S)(hl:I z<=1000000):gy F (bG z):=by
 refine⟨by rw[cH];exact hl,⟨λl hl hp=>?_,λi j l m g u pl A e=>?_⟩,atl c.ev (λl hl N=>?_) (λi j l m g u E L e f=>?_),λl hl=>?_⟩
 .obtain⟨x,h,rfl⟩:=eg.1 hl;exact c.fK h hp
 .obtain⟨x,h,rfl⟩:=Dn g;obtain⟨y,H,rfl⟩:=Dn u;refine Decidable.byContradiction λf=>?_;obtain⟨M,D⟩:=(Fj (c.fK (ch h) pl) (c.fK (ch H) A)).1 e;exact(c.UO h H f).2 pl A M D
 .obtain⟨x,h,rfl⟩:=eg.1 hl;exact c.ids x h N
 .obtain⟨x,h,rfl⟩:=Dn g;obtain⟨y,H,rfl⟩:=Dn u;have:=(c.UO h H f).1 E L e;refine⟨?_,this.sg⟩;rw[this.ov];cases y.k.over<;>simp
 obtain⟨x,h,rfl⟩:=eg.1 hl;exact yO (c.ok x h).bad
def jg.tV{S:aG}(c:jg F z T B S):tV F (bG z):=λl hl hp=>by obtain⟨x,h,rfl⟩:=eg.1 hl;exact((sU hp).1 (c.ok x h).bad).1.1.1
def jg.Ss{S:aG}(c:jg F z T B S)(hl:I z<=1000000){k v:Nat}{x y:cM}(L:(aL (bG z))[k]?=some u)(hv:(aL (bG z))[(k+1)%I (aL (bG z))]?=some v)(A:z[u]?=some x)(j:z[v]?=some y):x.up.l=y.up.r/\x.lo.l=y.lo.r:=by
 have ok:=c.dg hl;have hk:=(cD.1 L).1;obtain⟨l,O,Q,Z⟩:=Af ok.ax L;obtain⟨m,N,E,M⟩:=Af ok.ax hv;rw[Bt A]at O;cases O;rw[Bt j]at N;cases N;have gx:=c.fK (ch A) Q;have X:=c.fK (ch j) E;have D:=c.pl x (ch A) Q;have R:=c.pl y (ch j) E;obtain⟨x1,x2,x3,x4⟩:=gx;obtain⟨y1,y2,y3,y4⟩:=X;have key:∀f:Nat->Nat->Nat,(∀g,g<F->f g (di (bG z) g)=f (g+1) 0)->f F (di (bG z) F)=f 0 0->f x.k.gate.toNat x.k.ay.toNat=f y.k.gate.toNat (y.k.ay.toNat-1):=by
  intro f H hz;unfold fH at Z M;by_cases Y:k+1<I (aL (bG z))
  .rw[jv Y]at M;exact WO H J J J J J
  have hT:=HH c.tV;have hs:=u6 (bG z) F;have:k+1=I (aL (bG z)):=J;rw[this,Am]at M;rw[WO H (m:=x.k.gate.toNat) (k:=x.k.ay.toNat) (j:=F) (u:=di (bG z) F) J (cT _) J (cT _) J,hz];exact WO H (cE _) J (cE _) J (by show 0+0=_;omega)
 exact⟨by rw[D.et,R.wt];exact key T (λg h=>(c.gt g h).1) c.gz.1,by rw[D.eb,R.wb];exact key B (λg h=>(c.gt g h).2) c.gz.2⟩
def jg.walk{S:aG}(c:jg F z T B S)(hl:I z<=1000000)(h:mr s z s)(hs:s.b=false)(hx:x<ct (bG z)):pY z (cA (bG z) x)=pY z x:=by
 have ok:=c.dg hl;have O:I (bG z)=I z:=cH ..;have hN:ct (bG z)=2*I z+2*I (aL (bG z)):=by unfold ct;rw[O]
 have Z:=ac1 c.ok h hs;by_cases c1:x<2*I z
 .obtain⟨v,L,hv,rfl⟩:∃v L,v<I z/\x=j5 (I z) v L:=⟨_,_,by
   split
   .exact fC _ J
   omega,Jw c1⟩
  obtain⟨e,H⟩:=aR (L:=z) hv;have f:=Bt H;have oe:=c.ok e (ch H);rw[aA4 h H];rcases yO oe.bad with hp|hc
  .have M:c9 (bG z) v=e.p.d:=by
    have:=(Z v e H).1;rw[(oe.pb hp).2]at this;revert this;cases e.p.d<;>cases c9 (bG z) v<;>simp
   obtain⟨a1,a2⟩:=IE ok f hp;have t:=IV f hp L;rw[O]at t;rw[t,M];by_cases Q:(e.p.d==L)
   .rw[aH Q,anv a2 H];unfold cM.up;have:=eq_of_beq Q;subst this;cases e.p.d<;>rfl
   rw[aw Q];have E:=fC ((aL (bG z)).idxOf v+I (aL (bG z))-1) (show 0<I (aL (bG z)) by omega);obtain⟨u,D⟩:=aR E;obtain⟨l,u1,u2⟩:=uh.1 (ch D);obtain⟨y,j,rfl⟩:=Dn u1;have Jm:(aL (bG z))[(aL (bG z)).idxOf v]?=some v:=by obtain⟨q,hq⟩:=aR a1;rw[dS,hq]at a2;rw[hq];exact congrArg some a2
   have:=(c.Ss hl D (by rw[vZ a1];exact Jm) j H).2;rw[akY (by rw[dS,D];rfl) j,this];unfold cM.lo;revert Q;cases e.p.d<;>cases L<;>simp[jX]
  obtain⟨b1,m,E,mc,od,mo,ms⟩:=rJ ok.cr f hc;obtain⟨y,j,rfl⟩:=Dn E;have aN:v≠iK (bG z) v:=by intro ee;rw[<-ee,f]at E;have:=lq E;rw[<-this]at mo;revert mo;cases e.k.over<;>simp
  obtain⟨_,_,X,xb,xc,xd⟩:=(c.UO H j aN).1 hc mc od.symm;have t:=Al f hc L;rw[O]at t;rw[t,Xp h j];unfold gN at X xb;cases hg:(e.k.over==(e.k.sign==1))<;>rw[hg]at X xb<;>simp only[eX,if_false,if_true]at X xb<;>cases L<;>simp_all
 have hk:(x-2*I z)/2<I (aL (bG z)):=J;obtain⟨u,D⟩:=aR hk;obtain⟨l,u1,u2⟩:=uh.1 (ch D);obtain⟨e,H,rfl⟩:=Dn u1;have A:(aL (bG z)).getD ((x-2*I z)/2) 0=u:=by rw[dS,D];rfl
 rcases w6 x with zS|zS
 .have N:x=2*I z+2*((x-2*I z)/2):=J;have E:=fC ((x-2*I z)/2+1) (show 0<I (aL (bG z)) by omega);obtain⟨w,hw⟩:=aR E;obtain⟨l,w1,w2⟩:=uh.1 (ch hw);obtain⟨y,j,rfl⟩:=Dn w1;have Y:(aL (bG z)).getD (((x-2*I z)/2+1)%I (aL (bG z))) 0=w:=by rw[dS,hw];rfl
  have R:=c.ok y (ch j);have M:c9 (bG z) w=y.p.d:=by have:=(Z w y j).1;rw[(R.pb w2).2]at this;revert this;cases y.p.d<;>cases c9 (bG z) w<;>simp
  have t:=Iw (g:=bG z) ((x-2*I z)/2);rw[O,<-N]at t;rw[t,Y,Xp h j,M];have a:=(c.Ss hl D hw H j).1;have r:=anv A H;rw[<-N]at r;rw[r,a];unfold cM.up;cases y.p.d<;>simp[jX]
 have N:x=2*I z+2*((x-2*I z)/2)+1:=J;have R:=c.ok e (ch H);have M:c9 (bG z) u=e.p.d:=by have:=(Z u e H).1;rw[(R.pb u2).2]at this;revert this;cases e.p.d<;>cases c9 (bG z) u<;>simp
 have t:=Hk (g:=bG z) ((x-2*I z)/2);rw[O,<-N]at t;rw[t,A,Xp h H,M];have r:=akY A H;rw[<-N]at r;rw[r];unfold cM.lo;cases e.p.d<;>simp[jX]
def jg.check{S:aG}(c:jg F z T B S){x:cM}{r:iA}(E:z=x::r)(hp:x.k.aM)(u:x.p.d)(hl:I z<=400)(hU:ai aa.aF (bG z)<=200)(hF:F<=40):dA F (bG z)=0:=by
 have ok:=c.dg J;have m:I (bG z)=I z:=cH ..;obtain⟨s,h⟩:=c.path;have Q:z[0]?=some x:=by rw[E];rfl
 have hs:s.b=false:=by rw[<-NG h Q,((c.ok x (ch Q)).pb hp).2,u];rfl
 have jT:0<I z:=by rw[E];simp
 have Z:=ac1 c.ok h hs;have eB:ai aa.aM (bG z)%2=0:=by
  obtain⟨y,H⟩:=aR (L:=z) (k:=I z-1) J;have:=(Z _ y H).2;rw[apl h H,hs,show I z-1+1=I (bG z) by rw[m];omega]at this;unfold c9 at this;rw[jN]at this
  simpa using this
 have Y:oi (bG z)=ai aa.aM (bG z)+ai aa.aF (bG z)/2+2:=by
  obtain⟨b1,b2⟩:=aBS ok;have key:∀a∈S,∃d,pY z d=a/\d<2*I z:=λa ha=>by
   obtain⟨y,H,e⟩:=c.wit a ha;obtain⟨j,D⟩:=jL H;have wG:=(cD.1 D).1;rcases e with e|e
   .exact⟨2*j,by unfold pY;rw[aH J,aH J,show 2*j/2=j by omega,Ff D,e],J⟩
   exact⟨2*j+1,by unfold pY;rw[aH J,aw J,show(2*j+1)/2=j by omega,Ff D,e],J⟩
  obtain⟨M,L,O⟩:=agp (P:=λa d=>pY z d=a/\d<2*I z) (f:=pY z) (λa d h=>h.1) key;have hN:ct (bG z)=2*I z+2*I (aL (bG z)):=by unfold ct;rw[m]
  have:=avR (uu ok) (φ:=pY z) (λy H=>c.walk J h hs H) (h:=M) (λd u=>by obtain⟨_,_,h⟩:=O d u;omega) (by rw[L];exact c.nd)
  have hM:I M=I S:=by rw[<-L,cH]
  have N:=c.num;have:I M<=oi (bG z):=this;omega
 have aN:bG z≠[]:=by intro e;rw[e]at m;simp at m;omega
 unfold dA;rw[aw (by rw[m];omega),aw J,aw aN,aH];unfold nH;have R:=(PS c.tV).2 ⟨ok.ax.fK,ok.ax.inj⟩;have A:(bG z).any (eO F)=false:=E5.2 λl hl=>by obtain⟨y,H,rfl⟩:=eg.1 hl;rw[(c.ok y H).bad];decide
 rw[Bt Q,WT.2 ⟨A,R,ok.cr⟩,Y,eB];have X:(x.k.kind==1):=hp;simp only[X,CD,wX]
def oD.check{l:cY}(c:oD F l)(hl:I l<=400)(y:ai aa.aF (l.map aU.l)<=200)(u:F<=40):dA F (oo l)=0:=by
 obtain⟨w,T,B,S,x,r,m,hp,g,D,H,cz⟩:=c.fin;have Q:ai aa.aF (bG w)=ai aa.aF (l.map aU.l):=by
  rw[D];have j:(tL l).getD 0<=I l:=by
   cases h:tL l with
   |none=>exact cE _
   |some f=>have:=Eo h;simp at this;simp only[mO];omega
  unfold oo;rw[adS j];show List.countP _ _=List.countP _ _;rw[lU,vH,IL,<-vH,<-lU,ot]
 rw[<-D];exact cz.check m hp g J J u
end
def yn(g:ae)(x:Nat):Nat:=C0 (fO (cA g) (ct g)) x
def r4(g:ae)(i:Nat):gj:=⟨yn g (2*i),yn g (2*i+1),!c9 g (i+1)⟩
def fx(g:ae)(i:Nat):cM:=⟨⟨g.getD i lD,jK g i⟩,r4 g ((i+I g-1)%I g),r4 g i⟩
def mY (g:ae):iA:=(List.range (I g)).map (fx g)
def kP (g:ae)(f k:Nat):Nat:=yn g (2*I g+2*((iR g f+k+I (aL g)-1)%I (aL g)))
def j0 (g:ae)(f k:Nat):Nat:=yn g (2*I g+2*((iR g f+k+I (aL g)-1)%I (aL g))+1)
def G6(g:ae):(mY g).map cM.p=cq g:=by unfold mY cq;rw[o9];rfl
def nV(g:ae):bG (mY g)=g:=by
 have h:bG (mY g)=(cq g).map aU.l:=by rw[<-G6,o9];rfl
 rw[h];apply y_;intro i;rw[fY];by_cases H:i<I g
 .obtain⟨l,hl⟩:=aR H;rw[nR hl,hl];rfl
 rw[oF (by rw[cU];omega),oF J];rfl
def Jr(g:ae):I (mY g)=I g:=by simp[mY]
def EG{i:Nat}(h:i<I g):(mY g)[i]?=some (fx g i):=by simp[mY,h]
def fJ{i:Nat}{l:aa}(h:g[i]?=some l):(fx g i).k=l:=by show g.getD i lD=l;rw[dS,h];rfl
def ano(f:Nat->cM)(e:Nat->gj):∀k a,(∀i,a<=i->i<a+k->(f i).i=e i/\(f i).o=e (i+1))->mr (e a) ((List.range' a k).map f) (e (a+k)):=by
 intro k
 induction k with
 |zero=>intro a _;rfl
 |succ k g=>intro a h;rw[List.range'_succ,eR];obtain⟨j,H⟩:=h a (cT _) J;refine⟨j,?_⟩;rw[H,show a+(k+1)=a+1+k by omega];exact g (a+1) λi u m=>h i J J
def VP{R:cM->cM->Prop}{f:Nat->cM}{n:Nat}(h:∀i j,i<n->j<n->i≠j->R (f i) (f j)):((List.range n).map f).Pairwise R:=yK.2 (V9 (λ{a b} H g E=>h a b (gI.1 H) (gI.1 g) E) (D5 (n:=n)))
section
variable {F:Nat} {g:ae}
def WL(f:cK F g){i:Nat}{w:aG}(h:(fO (cA g) (ct g))[i]?=some w)(H:x∈w):yn g x=i:=MZ (GS _ _).1 h H
def aFL(m:cK F g)(j:x<ct g):∃w,(fO (cA g) (ct g))[yn g x]?=some w/\x∈w:=by obtain⟨u,f,h⟩:=EX.1 ((GS (cA g) (ct g)).2 x j);obtain⟨i,H⟩:=jL f;rw[WL m H h];exact⟨u,H,h⟩
def EZ(f:cK F g)(H:x<ct g):yn g (cA g x)=yn g x:=by obtain⟨w,h,j⟩:=aFL f H;exact WL f h (zr (uu f.ok) (ch h) j)
def Z2(j:cK F g){v:Nat}(h:v<I g)(f:Bool):yn g (j5 (I g) v f)=if f then(fx g v).i.l else(fx g v).o.r:=by cases f<;>rfl
def Rm{v:Nat}(f:Bool):yn g (fj (I g) v f)=if f then(fx g v).o.l else(fx g v).i.r:=by cases f<;>rfl
def akw(f:cK F g):c9 g (I g):=by unfold c9;rw[jN];have:=f.even;simp[this]
def adY(f:cK F g){i:Nat}(H:i<I g):(fx g i).i.b= !c9 g i:=by
 show(!c9 g ((i+I g-1)%I g+1))=_;by_cases h:i=0
 .subst h;rw[kA,jv J,show I g-1+1=I g by omega,akw f];rfl
 rw[show i+I g-1=(i-1)+I g by omega,yq,jv J,show i-1+1=i by omega]
def Kr{v:Nat}(h:v<I g)(f:Bool):j5 (I g) v f<ct g:=by have:=DS h f;unfold ct;omega
def SG(f:cK F g){v:Nat}{l:aa}(hl:g[v]?=some l)(hp:l.aM):(fx g v).p.d=c9 g v:=by show jK g v=_;simp[jK,hl,hp]
def Em(j:cK F g){i:Nat}(f:i<I g):Ar F (fx g i):=by
 obtain⟨l,hl⟩:=aR f;have h:=fJ hl;refine⟨by rw[h];exact j.bad l (ch hl),λH=>?_,λhp=>?_⟩
 .rw[h]at H;rw[adY j f];show _= !c9 g (i+1);rw[NH hl (by
   cases hp:l.aM
   .rfl
   rw[q_ hp]at H;cases H)]
 rw[h]at hp;rw[adY j f,SG j hl hp];refine⟨?_,rfl⟩;show(!c9 g (i+1))=_;rw[PI hl hp,N9]
def OE(B:cK F g){i:Nat}(y:i<I g)(z:j<I g)(O:i≠j):nY (fx g i) (fx g j):=by
 obtain⟨l,hl⟩:=aR y;obtain⟨m,H⟩:=aR z;intro A M e;rw[fJ hl]at A e;rw[fJ H]at M e;obtain⟨_,hp⟩:=B.ids;obtain⟨D,L⟩:=hp i j l m hl H A M e O;obtain⟨R,w,N,Z,Q,wo,ws⟩:=rJ B.ok.cr hl A;have h:iK g i=j:=by refine Classical.byContradiction λX=>?_;have E:=(hp _ _ w m N H Z M (by rw[Q,e]) X).1;rw[wo]at E;revert D E;cases l.over<;>cases m.over<;>simp
 refine⟨?_,by rw[fJ hl,fJ H];exact L,?_⟩
 .rw[fJ hl,fJ H];revert D;cases l.over<;>cases m.over<;>simp
 rw[fJ hl];have u:=EZ B (Kr y true);have T:=EZ B (Kr y false);have f:=EZ B (Kr z true);have x:=EZ B (Kr z false);rw[Al hl A,h,Rm,Z2 B y]at u T;rw[Al H M,<-h,R,h,Rm,Z2 B z]at f x;have Y:(m.over==(m.sign==1))= !gN l:=by unfold gN;rw[<-L];revert D;cases l.over<;>cases m.over<;>cases(l.sign==1)<;>simp
 rw[Y]at f x;have FO:(l.over==(l.sign==1))=gN l:=rfl;rw[FO]at u T;cases zN:gN l<;>rw[zN]at u T f x<;>simp at u T f x<;>constructor<;>simp[u,T,f,x]
def Vl(j:cK F g){v:Nat}{l:aa}(hl:g[v]?=some l)(hp:l.aM):HJ (kP g) (j0 g) (fx g v):=by
 have m:=(cD.1 hl).1;have ok:=j.ok;have gd:=ok.ax.fK l (ch hl) hp;obtain⟨g0,g1,r0,r1⟩:=gd;obtain⟨A,D⟩:=IE ok hl hp;have x:=Nk ok.ax hl hp;have M:iR g l.gate.toNat+l.ay.toNat=(aL g).idxOf v+1:=by rw[x];unfold fH;omega
 have h:iR g l.gate.toNat+(l.ay.toNat-1)=(aL g).idxOf v:=J;have B:(iR g l.gate.toNat+l.ay.toNat+I (aL g)-1)%I (aL g)=(aL g).idxOf v:=by rw[M,show(aL g).idxOf v+1+I (aL g)-1=(aL g).idxOf v+I (aL g) by omega,yq,jv A]
 have H:=fJ hl;have f:=SG j hl hp;have N:∀k,k<I (aL g)->2*I g+2*k<ct g/\2*I g+2*k+1<ct g:=λk H=>by unfold ct;omega
 have L:=fC ((aL g).idxOf v+I (aL g)-1) (show 0<I (aL g) by omega);have u:=EZ j (Kr m (c9 g v));have z:=EZ j (Kr m (!c9 g v));have y:=EZ j (N _ A).2;have Q:=EZ j (N _ L).1;rw[IV hl hp,Z2 j m]at u z;rw[Hk,D,Rm]at y;rw[Iw,vZ A,D,Rm]at Q;constructor
 .rw[H];unfold kP;rw[h];unfold cM.up;rw[f];cases E:c9 g v<;>rw[E]at Q<;>exact Q
 .rw[H];unfold kP;rw[B];unfold cM.up;rw[f];cases E:c9 g v<;>rw[E]at u<;>exact u.symm
 .rw[H];unfold j0;rw[h];unfold cM.lo;rw[f];cases E:c9 g v<;>rw[E]at z<;>exact z.symm
 rw[H];unfold j0;rw[B];unfold cM.lo;rw[f];cases E:c9 g v<;>rw[E]at y<;>exact y
def cK.cz(u:cK F g):jg F (mY g) (kP g) (j0 g) (List.range (oi g)):=by
 have Q:0<I g:=jr.2 u.ne;have mem:∀x∈mY g,∃i,i<I g/\x=fx g i:=λx f=>by obtain⟨i,H,rfl⟩:=eg.1 f;exact⟨i,gI.1 H,rfl⟩
 have X:iR g (F+1)=I (aL g):=HH λl hl hp=>((sU hp).1 (u.bad l hl)).1.1.1;have hs:=u6 g F;have y:0<I (aL g):=by obtain⟨l,D,B⟩:=u.first;exact Ij (uh.2 ⟨l,D,B⟩)
 have E:=u.ok.cr;unfold nX at E;simp only[dj,dI]at E;refine⟨⟨r4 g (I g-1),?_⟩,λx f=>?_,VP λi j H L z=>OE u H L z,by rw[nV];exact E.1.1,λx f N=>?_,VP λi j H L z=>?_,λx f hp=>?_,λx f hp=>?_,
  λk T=>?_,?_,?_,D5,λs hs=>?_,?_⟩
 .have:=ano (fx g) (λi=>r4 g ((i+I g-1)%I g)) (I g) 0 λi _ H=>⟨rfl,?_⟩
  .simp only[kA]at this;rw[jv J,show I g+I g-1=(I g-1)+I g by omega,yq,jv J,<-aeL]at this;exact this
  show r4 g i=r4 g ((i+1+I g-1)%I g);rw[show i+1+I g-1=i+I g by omega,yq,jv J]
 .obtain⟨i,H,rfl⟩:=mem x f;exact Em u H
 .obtain⟨i,H,rfl⟩:=mem x f;obtain⟨l,hl⟩:=aR H;rw[fJ hl]at N |-;rw[nV];exact u.ids.1 l (ch hl) N
 .obtain⟨l,hl⟩:=aR H;obtain⟨m,y⟩:=aR L;intro pl A e1 e2;rw[fJ hl]at pl e1 e2;rw[fJ y]at A e1 e2;exact z (u.ok.ax.inj i j l m hl y pl A ((Fj (u.ok.ax.fK l (ch hl) pl) (u.ok.ax.fK m (ch y) A)).2 ⟨e1,e2⟩))
 .obtain⟨i,H,rfl⟩:=mem x f;obtain⟨l,hl⟩:=aR H;rw[fJ hl]at hp |-;rw[nV];obtain⟨_,_,r0,r1⟩:=u.ok.ax.fK l (ch hl) hp;exact⟨r0,r1⟩
 .obtain⟨i,H,rfl⟩:=mem x f;obtain⟨l,hl⟩:=aR H;rw[fJ hl]at hp;exact Vl u hl hp
 .rw[nV];unfold kP j0;rw[u6 g k,vX];exact⟨rfl,rfl⟩
 .rw[nV];unfold kP j0;have e1:iR g F+di g F=I (aL g):=J;have O:iR g 0=0:=rfl;rw[e1,O,kA,show(aL g).length+I (aL g)-1=(I (aL g)-1)+I (aL g) by omega,yq];exact⟨rfl,rfl⟩
 .obtain⟨l,D,B⟩:=u.first;exact⟨fx g 0,ch (EG Q),by rw[fJ D];exact B⟩
 .obtain⟨w,M⟩:=aR (gI.1 hs);obtain⟨⟨d,t,e,R⟩,_⟩:=LL u.ok w (ch M);have hp:yn g d=s:=WL u M (by rw[e];simp);refine⟨fx g (d/2),ch (EG J),?_⟩;rcases w6 d with h|h
  .refine .inl ?_;show s=yn g (2*(d/2));rw[show 2*(d/2)=d by omega,hp]
  refine .inr ?_;show s=yn g (2*(d/2)+1);rw[show 2*(d/2)+1=d by omega,hp]
 rw[nV,Cq,u.nw];omega
end
structure qV (F:Nat) (z:iA) (T B:Nat->Nat->Nat):Prop where
 ok:∀x∈z,Ar F x
 cr:z.Pairwise nY
 ev:ai aa.aF (bG z)%2=0
 ids:∀x∈z,x.k.aF->1<=x.k.id/\x.k.id<=((ai aa.aF (bG z)/2:Nat):Int)
 rk:z.Pairwise Ah
 rr:∀x∈z,x.k.aM->1<=x.k.ay/\x.k.ay<=(di (bG z) x.k.gate.toNat:Int)
 pl:∀x∈z,x.k.aM->HJ T B x
 gt:∀g,g<F->T g (di (bG z) g)=T (g+1) 0/\B g (di (bG z) g)=B (g+1) 0
 gz:T F (di (bG z) F)=T 0 0/\B F (di (bG z) F)=B 0 0
def gj.mp(m:Nat->Nat)(s:gj):gj:=⟨m s.l,m s.r,s.b⟩
def cM.mp(m:Nat->Nat)(h:aa->aa)(x:cM):cM:=⟨⟨h x.p.l,x.p.d⟩,x.i.mp m,x.o.mp m⟩
def tS.mp{g:Bool}{i o j q:gj}(h:tS g i o j q)(m:Nat->Nat):tS g (i.mp m) (o.mp m) (j.mp m) (q.mp m):=by obtain⟨a,b,c,d⟩:=h;cases g<;>simp only[eX,if_false,if_true]at a b c d<;>constructor<;>simp[gj.mp,a,b,c,d]
def ajP(m:Nat->Nat)(h:aa->aa)(x:cM):(x.mp m h).up=x.up.mp m:=by unfold cM.up cM.mp;cases x.p.d<;>rfl
def ae5(m:Nat->Nat)(h:aa->aa)(x:cM):(x.mp m h).lo=x.lo.mp m:=by unfold cM.lo cM.mp;cases x.p.d<;>rfl
def UX:∀ {z:iA}{s t:gj},mr s z t->mr (s.mp m) (z.map (cM.mp m h)) (t.mp m):=by
 intro z
 induction z with
 |nil=>intro s t e;cases e;rfl
 |cons x z f=>intro s t e;obtain⟨rfl,e⟩:=e;exact⟨rfl,f e⟩
def ahp{S L:aG}(H:S.Nodup):I S<=I (S.filter λs=> !L.contains s)+I L:=by
 have g:I S=I (S.filter λs=> !L.contains s)+I (S.filter λs=>L.contains s):=by have:=List.length_eq_countP_add_countP (λs=> !L.contains s) (l:=S);rw[Oi,Oi]at this;rw[this];congr 2;apply List.filter_congr;intro x _;simp
 have f:=KK (S.filter λs=>L.contains s) L (H.filter _) λx h=>by simpa using(uQ.1 h).2
 omega
structure Bo (h:aa->aa):Prop where
 kind:∀l,(h l).kind=l.kind
 over:∀l,(h l).over=l.over
 sign:∀l,(h l).sign=l.sign
def Bo.aM(s:Bo h)(l:aa):(h l).aM=l.aM:=by unfold aa.aM;rw[s.kind]
def Bo.aF(s:Bo h)(l:aa):(h l).aF=l.aF:=by unfold aa.aF;rw[s.kind]
def Bo.id:Bo id:=⟨λ_=>rfl,λ_=>rfl,λ_=>rfl⟩
section
variable {F:Nat} {X r A:iA} {T B E D:Nat->Nat->Nat} {S:aG} {m:Nat->Nat} {h:aa->aa}
def jg.q{z:iA}(c:jg F z T B S):qV F z T B:=⟨c.ok,c.cr,c.ev,c.ids,c.rk,c.rr,c.pl,c.gt,c.gz⟩
def qV.perm{z Z:iA}(c:qV F z T B)(f:z.Perm Z):qV F Z T B:=by
 have H:∀ {x},x∈Z↔x∈z:=λ{x}=>f.symm.mem_iff;have e:∀p,ai p (bG Z)=ai p (bG z):=λp=>(DU f).symm;have E:∀g,di (bG Z) g=di (bG z) g:=λg=>e _;exact⟨λx h=>c.ok x (H.1 h),(f.pairwise_iff λ{x y}=>nY.symm).1 c.cr,by rw[e];exact c.ev,λx h=>by rw[e];exact c.ids x (H.1 h),(f.pairwise_iff λ{x y}=>Ah.symm).1 c.rk,
  λx h=>by rw[E];exact c.rr x (H.1 h),λx h=>c.pl x (H.1 h),λg j=>by rw[E];exact c.gt g j,by rw[E];exact c.gz⟩
def Ar.mp{x:cM}(o:Ar F x)(s:Bo h)(H:eO F (h x.k)=false):Ar F (x.mp m h):=by
 refine⟨H,λf=>?_,λhp=>?_⟩
 .exact o.cb (by rw[<-s.aF];exact f)
 exact o.pb (by rw[<-s.aM];exact hp)
def qV.edit(q:qV F (X++r) T B)(s:Bo h)(hb:∀x∈r,eO F (h x.k)=false)
  (O:∀x∈r,∀y∈r,x.k.aF->y.k.aF->(h x.k).id=(h y.k).id->x.k.id=y.k.id)
  (lk:∀x∈r,∀y∈r,x.k.aM->y.k.aM->(h x.k).gate=(h y.k).gate->(h x.k).ay=(h y.k).ay->x.k.gate=y.k.gate/\x.k.ay=y.k.ay)
  (n1:∀x∈A,Ar F x) (n2:A.Pairwise nY) (n3:A.Pairwise Ah) (n4:∀x∈A,∀y∈r,nY x (y.mp m h)) (n5:∀x∈A,∀y∈r,Ah x (y.mp m h))
  (ev:ai aa.aF (bG (A++r.map (cM.mp m h)))%2=0)
  (ids:∀x∈A,x.k.aF->1<=x.k.id/\x.k.id<=((ai aa.aF (bG (A++r.map (cM.mp m h)))/2:Nat):Int))
  (L:∀x∈r,x.k.aF->1<=(h x.k).id/\(h x.k).id<=((ai aa.aF (bG (A++r.map (cM.mp m h)))/2:Nat):Int))
  (rr:∀x∈A,x.k.aM->1<=x.k.ay/\x.k.ay<=(di (bG (A++r.map (cM.mp m h))) x.k.gate.toNat:Int))
  (R:∀x∈r,x.k.aM->1<=(h x.k).ay/\(h x.k).ay<=(di (bG (A++r.map (cM.mp m h))) (h x.k).gate.toNat:Int))
  (pl:∀x∈A,x.k.aM->HJ E D x)
  (ED:∀x∈r,x.k.aM->(m (T x.k.gate.toNat (x.k.ay.toNat-1))=E (h x.k).gate.toNat ((h x.k).ay.toNat-1)/\m (B x.k.gate.toNat (x.k.ay.toNat-1))=D (h x.k).gate.toNat ((h x.k).ay.toNat-1))/\m (T x.k.gate.toNat x.k.ay.toNat)=E (h x.k).gate.toNat (h x.k).ay.toNat/\m (B x.k.gate.toNat x.k.ay.toNat)=D (h x.k).gate.toNat (h x.k).ay.toNat)
  (gt:∀g,g<F->E g (di (bG (A++r.map (cM.mp m h))) g)=E (g+1) 0/\D g (di (bG (A++r.map (cM.mp m h))) g)=D (g+1) 0)
  (gz:E F (di (bG (A++r.map (cM.mp m h))) F)=E 0 0/\D F (di (bG (A++r.map (cM.mp m h))) F)=D 0 0):qV F (A++r.map (cM.mp m h)) E D:=by
 have Y:=(Ac.1 q.cr).2.1;have N:=(Ac.1 q.rk).2.1;have mem:∀x∈A++r.map (cM.mp m h),x∈A\/ ∃y∈r,x=y.mp m h:=λx H=>by
  rcases fc.1 H with H|H
  .exact .inl H
  obtain⟨y,f,rfl⟩:=eg.1 H;exact .inr ⟨y,f,rfl⟩
 have z:∀y∈r,y∈X++r:=λy f=>zt _ f;refine⟨λx H=>?_,?_,ev,λx H j=>?_,?_,λx H hp=>?_,λx H hp=>?_,gt,gz⟩
 .rcases mem x H with H|⟨y,f,rfl⟩
  .exact n1 x H
  exact(q.ok y (z y f)).mp s (hb y f)
 .refine Ac.2 ⟨n2,yK.2 (Y.imp_of_mem λ{x y} H f Q j u e=>?_),λx H y f=>?_⟩
  .have j:x.k.aF:=by rw[<-s.aF];exact j
   have u:y.k.aF:=by rw[<-s.aF];exact u
   obtain⟨h1,h2,h3⟩:=Q j u (O x H y f j u e);refine⟨?_,?_,?_⟩
   .show(h x.k).over= !(h y.k).over;rw[s.over,s.over];exact h1
   .show(h x.k).sign=(h y.k).sign;rw[s.sign,s.sign];exact h2
   have:gN (x.mp m h).k=gN x.k:=by show((h x.k).over==((h x.k).sign==1))=_;rw[s.over,s.sign];rfl
   rw[this];exact h3.mp m
  obtain⟨w,M,rfl⟩:=eg.1 f;exact n4 x H w M
 .rcases mem x H with H|⟨y,f,rfl⟩
  .exact ids x H j
  exact L y f (by rw[<-s.aF];exact j)
 .refine Ac.2 ⟨n3,yK.2 (N.imp_of_mem λ{x y} H f Q j u e1 e2=>?_),λx H y f=>?_⟩
  .have j:x.k.aM:=by rw[<-s.aM];exact j
   have u:y.k.aM:=by rw[<-s.aM];exact u
   obtain⟨f1,f2⟩:=lk x H y f j u e1 e2;exact Q j u f1 f2
  obtain⟨w,M,rfl⟩:=eg.1 f;exact n5 x H w M
 .rcases mem x H with H|⟨y,f,rfl⟩
  .exact rr x H hp
  exact R y f (by rw[<-s.aM];exact hp)
 rcases mem x H with H|⟨y,f,rfl⟩
 .exact pl x H hp
 have hp:y.k.aM:=by rw[<-s.aM];exact hp
 obtain⟨p1,p2,Z,p4⟩:=q.pl y (z y f) hp;obtain⟨⟨a1,a2⟩,a3,a4⟩:=ED y f hp;constructor
 .rw[ajP];show m y.up.r=_;rw[p1];exact a1
 .rw[ajP];show m y.up.l=_;rw[p2];exact a3
 .rw[ae5];show m y.lo.r=_;rw[Z];exact a2
 rw[ae5];show m y.lo.l=_;rw[p4];exact a4
def qV.done{l:cY}{z:iA}{L N:aG}{V:Nat}(q:qV F (A++r.map (cM.mp m h)) E D)(R:S.Nodup)(wit:∀s∈S,∃x∈X++r,s=x.o.l\/s=x.o.r)
  (M:z.Perm (A++r.map (cM.mp m h))) (j:∃s,mr s z s) (hl:z.map cM.p=l) (one:∃x∈A++r.map (cM.mp m h),x.k.aM)
  (O:∀s∈S,s∉L->m s=s) (Z:∀x∈X,∀s∈S,(s=x.o.l\/s=x.o.r)->s∉L->∃y∈A++r.map (cM.mp m h),s=y.o.l\/s=y.o.r)
  (hN:N.Nodup) (g:∀s∈N,s∉S) (B:∀s∈N,∃y∈A++r.map (cM.mp m h),s=y.o.l\/s=y.o.r)
  (hS:V<=I S) (num:ai aa.aM (bG (A++r.map (cM.mp m h)))+ai aa.aF (bG (A++r.map (cM.mp m h)))/2+1+I L<=V+I N):oD F l:=by
 have Q:=q.perm M.symm;have T:∀ {x},x∈z↔x∈A++r.map (cM.mp m h):=λ{x}=>M.mem_iff;refine⟨z,E,D,N++S.filter (λs=> !L.contains s),hl,⟨j,Q.ok,Q.cr,Q.ev,Q.ids,Q.rk,Q.rr,Q.pl,Q.gt,Q.gz,?_,?_,λs hs=>?_,?_⟩⟩
 .obtain⟨x,H,e⟩:=one;exact⟨x,T.2 H,e⟩
 .refine BI.2 ⟨hN,R.filter _,λa ha b Y e=>?_⟩;subst e;exact g a ha (uQ.1 Y).1
 .have key:∃y∈A++r.map (cM.mp m h),s=y.o.l\/s=y.o.r:=by
   rcases fc.1 hs with hs|hs
   .exact B s hs
   obtain⟨u,f⟩:=uQ.1 hs;have f:s∉L:=by simpa using f
   obtain⟨x,H,e⟩:=wit s u;rcases fc.1 H with H|H
   .exact Z x H s u e f
   refine⟨x.mp m h,zt _ (eg.2 ⟨x,H,rfl⟩),?_⟩;have hp:=O s u f;rcases e with e|e
   .left;show s=m x.o.l;rw[<-e,hp]
   right;show s=m x.o.r;rw[<-e,hp]
  obtain⟨y,hy,e⟩:=key;exact⟨y,T.2 hy,e⟩
 have e:∀p,ai p (bG z)=ai p (bG (A++r.map (cM.mp m h))):=λp=>DU M;rw[e,e,fv];have:=ahp (L:=L) R;omega
end
def aeJ(p:aa->Bool)(a b:iA):ai p (bG (a++b))=ai p (bG a)+ai p (bG b):=by show List.countP p (List.map _ _)=List.countP p (List.map _ _)+List.countP p (List.map _ _);rw[lU,vH]
def n_(p:aa->Bool)(x:cM)(b:iA):ai p (bG (x::b))=(if p x.k then 1 else 0)+ai p (bG b):=by show List.countP p (List.map _ _)=_+List.countP p (List.map _ _);rw[eR,vh,IL]
def Xu(p:aa->Bool):ai p (bG [])=0:=rfl
def Ds{p:aa->Bool}(hp:∀l,p (h l)=p l)(r:iA):ai p (bG (r.map (cM.mp m h)))=ai p (bG r):=by
 induction r with
 |nil=>rfl
 |cons x r f=>rw[eR,n_,n_,f];show(if p (h x.k)then 1 else 0)+_=_;rw[hp]
def JF{l:aa}(g:Nat)(h:l.aF):pP g l=false:=by
 unfold pP;cases hp:l.aM
 .rfl
 rw[q_ hp]at h;cases h
def pk{l:aa}(h:l.aF):l.aM=false:=by
 cases hp:l.aM
 .rfl
 rw[q_ hp]at h;cases h
def aAf{α:Type}{z:List α}{a:Nat}(B:a<I z)(F:2<=I z):∃x y r,z.drop a++z.take a=x::y::r/\z[a]?=some x/\z[(a+1)%I z]?=some y:=by
 obtain⟨x,j⟩:=aR B;obtain⟨hl,e⟩:=cD.1 j;have m:z.drop a=x::z.drop (a+1):=by rw[<-e,sQ]
 by_cases c:a+1<I z
 .obtain⟨y,H⟩:=aR c;obtain⟨L,e2⟩:=cD.1 H;have Y:z.drop (a+1)=y::z.drop (a+1+1):=by rw[<-e2,sQ]
  exact⟨x,y,z.drop (a+1+1)++z.take a,by rw[m,Y];rfl,j,by rw[jv c];exact H⟩
 have D:a+1=I z:=J;obtain⟨y,H⟩:=aR (L:=z) (k:=0) J;have Y:z.drop (a+1)=[]:=List.drop_eq_nil_of_le J;have u:z.take a=y::(z.take a).drop 1:=by
  have A:(z.take a)[0]?=some y:=by rw[nN,aH J];exact H
  obtain⟨f,E⟩:=cD.1 A;have:=sQ (h:=f);rw[E,Ih]at this;exact this.symm
 refine⟨x,y,(z.take a).drop 1,?_,j,by rw[D,Am];exact H⟩;rw[m,Y]
 conv=>lhs;rw[u]
 rfl
section
variable {F:Nat} {g:ae}
def zh{l:aa}(h:l.aF):(if aa.aF l=true then 1 else 0)=1/\(if aa.aM l=true then 1 else 0)=0:=by simp[h,pk h]
def QW{l:aa}(h:l.aM):(if aa.aF l=true then 1 else 0)=0/\(if aa.aM l=true then 1 else 0)=1:=by simp[h,q_ h]
end
def jD(ids:cV)(l:aa):aa:=if l.kind==2 then{l with id:=l.id-((ids.take (I ids)).countP (λi=>decide (i<l.id)):Nat)}else l
def B7(ids:cV):Bo (jD ids):=by refine⟨λl=>?_,λl=>?_,λl=>?_⟩<;>unfold jD<;>split<;>rfl
def apG(ids:cV)(p:aU):oZ ids p=⟨jD ids p.l,p.d⟩:=by unfold oZ jD lJ;split<;>rfl
def Bk{ids:cV}{l:aa}(h:l.aM):jD ids l=l:=by unfold jD;have:=q_ h;unfold aa.aF at this;rw[aw (by rw[this];decide)]
def alz{ids:cV}{l:aa}(h:eO F l=false):eO F (jD ids l)=false:=by
 rcases yO h with hp|H
 .rw[Bk hp];exact h
 have f:(jD ids l).aF:=by rw[(B7 ids).aF];exact H
 rw[M6 H]at h;rw[M6 f];unfold jD;split<;>exact h
def ajZ(ids:cV)(g:Nat)(l:aa):pP g (jD ids l)=pP g l:=by
 cases hp:l.aM
 .unfold pP;rw[(B7 ids).aM,hp];rfl
 rw[Bk hp]
def aeW{ids:cV}{l:aa}(h:l.aF):(jD ids l).id=l.id-((ids.countP λi=>decide (i<l.id):Nat):Int):=by unfold jD;unfold aa.aF at h;rw[aH h,jN]
def ahW{l:cY}{drop:Nat->aU->Bool}{d:aU->Bool}(h:∀i p,drop i p=d p):nb l drop=l.filter λp=> !d p:=by
 have key:∀k,k<=I l->ux l drop k=(l.take k).filter λp=> !d p:=by
  intro k
  induction k with
  |zero=>intro _;rfl
  |succ k f=>
   intro j;obtain⟨p,hp⟩:=aR (L:=l) (k:=k) J;rw[iJ,hp,KN,<-f J];cases H:d p
   .rw[Kp hp (by rw[h];exact H)];simp[H]
   rw[Bp hp (by rw[h];exact H)];simp[H]
 unfold nb;rw[key _ (cT _),jN]
def UM:∀ {z:iA}{s t:gj},mr s z t->z≠[]->∃w∈z,w.o=t:=by
 intro z
 induction z with
 |nil=>intro s t _ h;exact absurd rfl h
 |cons x z f=>
  intro s t h _;obtain⟨_,h⟩:=h;cases z with
  |nil=>cases h;exact⟨x,aQ,rfl⟩
  |cons y z=>obtain⟨w,H,e⟩:=f h aQ;exact⟨w,xo _ H,e⟩
section
variable {F:Nat} {g:ae}
def aEh{x y:cM}{r:iA}(q:qV F (x::y::r) T B)(g:x.k.aF)(m:y.k.aF)(e:x.k.id=y.k.id):∀w∈r,w.k.aF->w.k.id≠x.k.id:=by intro w h j E;obtain⟨f,z⟩:=tD.1 q.cr;obtain⟨u,_⟩:=tD.1 z;have a:=(f y aQ g m e).ov;have b:=(f w (by simp[h]) g j E.symm).ov;have d:=(u w h m j (by rw[<-e,E])).ov;rw[b]at a;rw[d]at a;revert a;cases w.k.over<;>simp
def aaw(f:cK F g){a:Nat}(u:a<I g):∃x y r s,(mY g).drop a++(mY g).take a=x::y::r/\(cq g)[a]?=some x.p/\(cq g)[aK g a]?=some y.p/\
  jg F (x::y::r) (kP g) (j0 g) (List.range (oi g))/\mr s (x::y::r) s/\(cq g).drop a++(cq g).take a=(x::y::r).map cM.p/\(mY g)[a]?=some x/\(mY g)[aK g a]?=some y/\(x::y::r).Perm (mY g):=by
 have m:2<=I g:=by obtain⟨l,j,hp⟩:=f.first;have:=f.even;have:0<ai aa.aM g:=xk.2 ⟨l,ch j,hp⟩;have:=qk aa.aM g;omega
 have hl:=Jr g;obtain⟨x,y,r,e,H,h⟩:=aAf (z:=mY g) (a:=a) J J;rw[hl]at h;have c:jg F ((mY g).drop a++(mY g).take a) (kP g) (j0 g) (List.range (oi g)):=by refine jg.mV ?_;rw[ot];exact f.cz
 rw[e]at c;obtain⟨s,hs⟩:=c.path;refine⟨x,y,r,s,e,?_,?_,c,hs,?_,H,h,?_⟩
 .rw[<-G6,fY,H];rfl
 .rw[<-G6,fY,h];rfl
 .rw[<-e,lU,E_,Ex,G6]
 rw[<-e];exact List.perm_append_comm.trans (by rw[ot])
def akB{a:Nat}{d:aU->Bool}{f:aU->aU}(c:oD F ((((cq g).drop a++(cq g).take a).filter d).map f)):oD F (((cq g).filter d).map f):=by rw[KN,lU]at c;have:=c.mV;rwa[<-lU,<-KN,ot]at this
def aj5{l:aa}:l.aF=(l.kind==2):=rfl
def aou{α:Type}{l:List α}{p:α->Bool}(h:∀x∈l,p x):l.filter p=l:=List.filter_eq_self.2 h
def awl(ag:cK F g){a:Nat}(ha:a<I g){L:cY}(h:yj g a=some L):oD F L:=by
 obtain⟨x,y,r,s,e,hx,hy,c,hp,L9,_,_,qQ⟩:=aaw ag ha;have q:=c.q;unfold yj at h;have e1:(cq g).getD a ⟨lD,false⟩=x.p:=by rw[dS,hx];rfl
 have e2:(cq g).getD ((a+1)%I g) ⟨lD,false⟩=y.p:=by rw[dS,hy];rfl
 simp only[e1,e2]at h;split at h
 case isFalse=>cases h
 rename_i Z;simp only[dj,dI]at Z;obtain⟨ji,l9,ac⟩:=Z;have B:x.k.aF:=by rw[aj5];simp[ji]
 have D:y.k.aF:=by rw[aj5];simp[l9]
 have wE:x.k.id=y.k.id:=ac;cases h;have Ua:=aEh q B D wE;have kM:BX x y:=(tD.1 q.cr).1 y aQ B D wE;obtain⟨jU,gV,wL⟩:=hp
 have ix:=(q.ok x aQ).cb B;have iy:=(q.ok y aQ).cb D;have E:=kM.x4;rw[jU,gV]at E;rw[jU]at ix;rw[gV]at iy;have ab:y.o=s:=by
  obtain⟨k1,k2,Q,k4⟩:=E;have hb:y.o.b=s.b:=by rw[<-iy,<-ix]
  cases y with
  |mk yp yi yo=>
  cases yo with
  |mk l r b=>
  cases s with
  |mk sl sr sb=>
  cases hg:gN x.k<;>rw[hg]at k1 k2 Q k4<;>simp only[eX,if_false,if_true]at k1 k2 Q k4 hb<;>simp_all
 rw[ab]at wL;have M:∃b,(s.r=b\/s.l=b)/\ ∀t,(t=x.o.l\/t=x.o.r)->t=s.l\/t=s.r\/t=(if gN x.k then x.o.r else x.o.l):=by
  obtain⟨k1,k2,Q,k4⟩:=E;refine⟨s.r,.inl rfl,?_⟩;cases hg:gN x.k<;>rw[hg]at k1 k2 Q k4<;>simp only[eX,if_false,if_true]at k1 k2 Q k4 |-
  .rintro t (rfl|rfl)
   .exact .inr (.inr rfl)
   exact .inl k1.symm
  rintro t (rfl|rfl)
  .exact .inr (.inl Q)
  exact .inr (.inr rfl)
 obtain⟨_,_,M⟩:=M;have eB:=q.ev;have Cg:∀z:iA,ai aa.aF (bG (x::y::z))=ai aa.aF (bG z)+2:=λz=>by rw[n_,n_,(zh B).1,(zh D).1];omega
 have IX:∀z:iA,ai aa.aM (bG (x::y::z))=ai aa.aM (bG z):=λz=>by rw[n_,n_,(zh B).2,(zh D).2];omega
 have AZ:∀(z:iA) k,di (bG (x::y::z)) k=di (bG z) k:=λz k=>by show ai _ _=ai _ _;rw[n_,n_,JF k B,JF k D];simp
 have mC:ai aa.aF (bG (r.map (cM.mp id (jD [x.k.id]))))=ai aa.aF (bG r):=Ds (λl=>(B7 _).aF l) r;have aS:ai aa.aM (bG (r.map (cM.mp id (jD [x.k.id]))))=ai aa.aM (bG r):=Ds (λl=>(B7 _).aM l) r;have mG:∀k,di (bG (r.map (cM.mp id (jD [x.k.id])))) k=di (bG r) k:=λk=>Ds (λl=>ajZ _ k l) r;have f:∀w∈r,w.k.aF->(jD [x.k.id] w.k).id=if x.k.id<w.k.id then w.k.id-1 else w.k.id:=λw H Z=>by
  rw[aeW Z];by_cases c:x.k.id<w.k.id
  .simp[c]
  simp[c]
 have LQ:∀w∈x::y::r,w.k.aF->1<=w.k.id/\w.k.id<=((ai aa.aF (bG r)/2:Nat):Int)+1:=λw H Z=>by have:=q.ids w H Z;rw[Cg]at this;omega
 have hr:r≠[]:=by
  obtain⟨w,H,T⟩:=c.one;rintro rfl
  simp only[dk,iu,or_false]at H;rcases H with rfl|rfl
  .rw[pk B]at T;cases T
  rw[pk D]at T;cases T
 have inr:∀w∈r,w∈x::y::r:=λw H=>by simp[H]
 have qn:qV F ([]++r.map (cM.mp id (jD [x.k.id]))) (kP g) (j0 g):=by
  refine qV.edit (X:=[x,y]) (r:=r) q (B7 _) (λw H=>alz (q.ok w (inr w H)).bad) (λu j v hv R cv e=>?_) (λu j v hv Y pv e1 e2=>?_) (λ_ h=>by cases h) List.Pairwise.nil List.Pairwise.nil (λ_ h=>by cases h) (λ_ h=>by cases h) ?_ (λ_ h=>by cases h) (λu j R=>?_) (λ_ h=>by cases h) (λu j Y=>?_) (λ_ h=>by cases h) (λu j Y=>?_) (λk E=>?_) ?_
  .have h1:=Ua u j R;have h2:=Ua v hv cv;rw[f u j R,f v hv cv]at e;split at e<;>split at e<;>omega
  .rw[Bk Y,Bk pv]at e1 e2;exact⟨e1,e2⟩
  .rw[fN,mC];rw[Cg]at eB;omega
  .rw[fN,mC,f u j R];have h1:=LQ u (inr u j) R;have h2:=Ua u j R;have h3:=LQ x aQ B;split<;>omega
  .rw[fN,Bk Y,mG,<-AZ r];exact q.rr u (inr u j) Y
  .rw[Bk Y];exact⟨⟨rfl,rfl⟩,rfl,rfl⟩
  .rw[fN,mG,<-AZ r];exact q.gt k E
  rw[fN,mG,<-AZ r];exact q.gz
 have Po:oD F (r.map λw=>oZ [x.k.id] w.p):=by
  refine qV.done (X:=[x,y]) (r:=r) (A:=[]) (L:=[if gN x.k then x.o.r else x.o.l]) (N:=[]) (V:=oi g) (z:=r.map (cM.mp id (jD [x.k.id]))) qn c.nd (λt O=>c.wit t O) (List.Perm.refl _) ⟨s,UX (m:=id) wL⟩ ?_ ?_ (λ_ _ _=>rfl) (λw H t O ew hL=>?_) tA (λt O=>by cases O) (λt O=>by cases O) (by rw[Cq];exact cT _) ?_
  .rw[o9];refine Ax λw _=>?_;rw[apG];rfl
  .obtain⟨w,H,T⟩:=c.one;simp only[dk]at H;rcases H with rfl|rfl|H
   .rw[pk B]at T;cases T
   .rw[pk D]at T;cases T
   refine⟨w.mp id (jD [x.k.id]),?_,?_⟩
   .rw[fN];exact eg.2 ⟨w,H,rfl⟩
   show(jD [x.k.id] w.k).aM=true;rw[(B7 _).aM];exact T
  .obtain⟨v,hv,ad⟩:=UM wL hr;have key:t=s.l\/t=s.r:=by
    simp only[dk,iu,or_false]at H hL;rcases H with rfl|rfl
    .rcases M t ew with h|h|h
     .exact .inl h
     .exact .inr h
     exact absurd h hL
    rw[ab]at ew;exact ew
   refine⟨v.mp id (jD [x.k.id]),by rw[fN];exact eg.2 ⟨v,hv,rfl⟩,?_⟩;show t=id v.o.l\/t=id v.o.r;rw[ad];exact key
  rw[fN,mC,aS];have h1:=ag.nw;have h2:ai aa.aF (bG (x::y::r))=ai aa.aF g:=by rw[DU qQ,nV]
  have h3:ai aa.aM (bG (x::y::r))=ai aa.aM g:=by rw[DU qQ,nV]
  rw[Cg]at h2;rw[IX]at h3;simp only[eK,dw];omega
 show oD F ((nb (cq g) (ri [x.k.id])).map (oZ [x.k.id]));rw[ahW (l:=cq g) (drop:=ri [x.k.id]) (d:=λp=>(p.l.kind==2)&&[x.k.id].contains p.l.id) λ_ _=>rfl];refine akB (a:=a) ?_;rw[L9];have hf:((x::y::r).map cM.p).filter (λp=> !((p.l.kind==2)&&[x.k.id].contains p.l.id))=r.map cM.p:=by
  rw[eR,eR,Uf (by simp[ji]),Uf (by simp[l9,ac])];refine aou λp hp=>?_;obtain⟨w,H,rfl⟩:=eg.1 hp;cases E:(w.p.l.kind==2)
  .rfl
  have:=Ua w H E;simp[this]
 rw[hf,o9];exact Po
end
end
end Go.Abs
