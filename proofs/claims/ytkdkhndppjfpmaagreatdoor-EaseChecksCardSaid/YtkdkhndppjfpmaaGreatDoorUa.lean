/-
  Certificates: names of faces at each letter show that a code is valid.
-/
import Derived.Test.YtkdkhndppjfpmaaGreatDoorVe
set_option linter.all false
open List renaming length->I
set_option maxHeartbeats 16000000
namespace Go.Abs
variable{n y u j:Nat}{f T B:Nat->Nat->Nat}{g:ai}{m:Nat->Nat}{h:aa->aa}
section
variable{F v x:Nat}
def ajy{R:Nat->Nat->Prop}{L:aF}(h:∀x,x<n->∃r∈L,cH R x r):bY (cH R) n<=I L:=by
 have g:∀M:aF,M.Nodup->(∀x∈M,x<n/\uI (cH R) x)->∃N:aF,I N=I M/\N.Nodup/\ ∀r∈N,r∈L/\ ∃x∈M,cH R x r:=by
  intro M
  induction M with
  |nil=>intro _ _;exact⟨[],rfl,qF,aP⟩
  |cons a M T=>
   intro B m;obtain⟨F,X⟩:=nR.1 B;obtain⟨N,v,y,f⟩:=T X λx H=>m x (by simp[H]);obtain⟨D,A⟩:=m a aP;obtain⟨r,j,e⟩:=h a D;refine⟨r::N,by simp[v],nR.2 ⟨λY=>?_,y⟩,λq u=>?_⟩
   .obtain⟨_,x,H,E⟩:=f r Y;have Z:=A x (e.trans E.symm);have e2:=(m x (by simp[H])).2 a (E.trans e.symm);have:a=x:=J;exact F (this▸H)
   rcases dr.1 u with rfl|u
   .exact⟨j,a,aP,e⟩
   obtain⟨Q,x,H,E⟩:=f q u;exact⟨Q,x,by simp[H],E⟩
 obtain⟨N,v,y,f⟩:=g ((List.range n).filter (CE (cH R))) (Cq.filter _) λx H=>by obtain⟨O,z⟩:=rY.1 H;exact⟨gN.1 O,ML.1 z⟩
 unfold bY;rw[P4,<-v];exact KW _ _ y λr j=>(f r j).1
def RG(p:Nat->Nat)(x:Nat):∀i j,it p (i+j) x=it p i (it p j x):=by
 intro i j
 induction i with
 |zero=>rw[lq];rfl
 |succ i f=>rw[show i+1+j=(i+j)+1 by omega];show p (it p (i+j) x)=p (it p i (it p j x));rw[f]
def azv{p:Nat->Nat}{m:Nat}(h:it p m x=x):∀k,it p (k*m) x=x:=by
 intro k
 induction k with
 |zero=>rw[zC];rfl
 |succ k f=>rw[Nat.succ_mul,RG,h,f]
def ati{p:Nat->Nat}(h:uj n p){a b:Nat}(e:cH (eM n p) a b):a=b\/(a<n/\b<n/\ ∃k,it p k a=b):=by
 induction e with
 | @rel a b r=>obtain⟨H,rfl⟩:=r;exact .inr ⟨H,h.lt _ H,1,rfl⟩
 |refl _=>exact .inl rfl
 | @symm a b _ x=>
  rcases x with rfl|⟨H,g,k,f⟩
  .exact .inl rfl
  obtain⟨m,u⟩:=h.afi H;refine .inr ⟨g,H,k*m,?_⟩;rw[<-f,<-RG,show k*m+k=k*(m+1) by rw[Nat.mul_succ]];exact azv u k
 |trans _ _ i1 i2=>
  rcases i1 with rfl|⟨H,g,k,f⟩
  .exact i2
  rcases i2 with rfl|⟨_,y,j,v⟩
  .exact .inr ⟨H,g,k,f⟩
  exact .inr ⟨H,y,j+k,by rw[RG,f,v]⟩
def axJ{p:Nat->Nat}(h:uj n p){a b:Nat}(F:a≠b)(e:cH (eM n p) a b):¬cH (eM n (tr p (a,b))) a b:=by
 rcases ati h e with L|⟨z,A,M,X⟩
 .exact absurd L F
 obtain⟨k,H,T⟩:=ahW (p:=λk=>it p k a=b) M X;have u:1<=k:=by
  rcases Nat.eq_zero_or_pos k with rfl|h
  .exact absurd H F
  exact h
 have N:∀j,1<=j->j<=k->it p j a≠a:=λj m g E=>by
  rcases Nat.lt_or_eq_of_le g with c|rfl
  .have:it p (k-j) a=b:=by
    rw[<-H,show k=(k-j)+j by omega,RG,E];congr 1;omega
   have:=T _ this;omega
  exact F (E.symm.trans H)
 have D:∀j,j<k->it p j a≠b:=λj m E=>by have:=T j E;omega
 intro O;have inv:∀x y,eM n (tr p (a,b)) x y->(∃j,1<=j/\j<=k/\x=it p j a)=(∃j,1<=j/\j<=k/\y=it p j a):=by
  rintro x y ⟨B,rfl⟩
  apply propext;unfold tr;simp only;constructor
  .rintro ⟨j,m,g,rfl⟩
   rw[aC (N j m g)];by_cases c:it p j a=b
   .rw[aD c];exact⟨1,J,u,rfl⟩
   rw[aC c];refine⟨j+1,J,?_,rfl⟩;rcases Nat.lt_or_eq_of_le g with d|rfl
   .exact d
   exact absurd H c
  by_cases c:x=a
  .rw[aD c];rintro⟨j,m,g,E⟩
   exfalso;have:=h.inj _ _ A (h.Kh z (j-1)) (by rw[E,show j=(j-1)+1 by omega];rfl);by_cases d:j=1
   .subst d;exact F this.symm
   exact D (j-1) J this.symm
  rw[aC c];by_cases d:x=b
  .subst d;intro _;exact⟨k,u,c3 _,H.symm⟩
  rw[aC d];rintro⟨j,m,g,E⟩
  have:=h.inj _ _ B (h.Kh z (j-1)) (by rw[E,show j=(j-1)+1 by omega];rfl);by_cases f:j=1
  .subst f;exact absurd this c
  exact⟨j-1,J,J,this⟩
 have:=O.inv inv;have v:∃j,1<=j/\j<=k/\b=it p j a:=⟨k,u,c3 _,H.symm⟩;rw[<-this]at v;obtain⟨j,m,g,E⟩:=v;exact N j m g E.symm
def aqE{p:Nat->Nat}(h:uj n p){a b:Nat}(f:a<n)(H:b<n)(F:a≠b):(bY (cH (eM n (tr p (a,b)))) n+bY (cH (eM n p)) n)%2=1:=by
 have one:∀x y,cH (sQ (eM n (tr p (a,b))) a b) x y↔cH (sQ (eM n p) a b) x y:=λx y=>by have h:=aaR (p:=p) (S:=λ_ _=>False) f H (x:=x) (y:=y);have e:∀q:Nat->Nat,(λx y=>eM n q x y\/False)=eM n q:=λq=>funext λx=>funext λy=>propext aP;rw[e,e]at h;exact h
 have m:bY (cH (sQ (eM n (tr p (a,b))) a b)) n=bY (cH (sQ (eM n p) a b)) n:=Jn one n;rcases Classical.em (cH (eM n p) a b)with c|c
 .have g:=Xq c n;have j:=X4 f H (axJ h F c);omega
 have g:=X4 f H c;have j:=Xq (alp h f H c) n;omega
def aBV:∀(T:rV) (p:Nat->Nat),uj n p->(∀t∈T,t.1<n/\t.2<n/\t.1≠t.2)->(bY (cH (eM n (T.foldl tr p))) n+bY (cH (eM n p)) n+I T)%2=0:=by
 intro T
 induction T with
 |nil=>intro p _ _;simp only[IV,fU];omega
 |cons t T j=>
  intro p hp g;obtain⟨a,b⟩:=t;obtain⟨f,H,F⟩:=g (a,b) aP
  replace f:a<n:=f
  replace H:b<n:=H
  replace F:a≠b:=F
  have E:=j (tr p (a,b)) (hp.tr f H) λt h=>g t (by simp[h]);have m:(bY (cH (eM n (tr p (a,b)))) n+bY (cH (eM n p)) n)%2=1:=aqE hp f H F;simp only[sh,dW];omega
def nN(g:ai)(x:Nat):Nat:=bz g (rv x)
def w7(k:Nat):rV:=(List.range k).map λe=>(2*e,2*e+1)
def aqe(q:Nat->Nat):∀k y,(w7 k).foldl tr q y=if y<2*k then q (rv y)else q y:=by
 intro k
 induction k with
 |zero=>intro y;rw[aC J];rfl
 |succ k f=>
  intro y;have e:w7 (k+1)=w7 k++[(2*k,2*k+1)]:=by unfold w7;rw[rN,kP];rfl
  rw[e,BN,sh,IV,KP];by_cases h:y=2*k
  .subst h;rw[aD rfl,f,aC J,aD J,tp]
  rw[aC h];by_cases g:y=2*k+1
  .subst g;rw[aD rfl,f,aC J,aD J,A6]
  rw[aC g,f];by_cases c9:y<2*k
  .rw[aD c9,aD J]
  rw[aC c9,aC J]
def cH.push{R g:Nat->Nat->Prop}{f:Nat->Nat}(h:∀a b,R a b->cH g (f a) (f b))(e:cH R x y):cH g (f x) (f y):=by
 induction e with
 |rel r=>exact h _ _ r
 |refl a=>exact .refl _
 |symm _ j=>exact j.symm
 |trans _ _ i1 i2=>exact i1.trans i2
section
variable {F:Nat} {g:ai}
def W4(ok:gh F g):uj (bt g) (nN g):=by
 have m:=qS ok;have f:=E2 g;have H:∀y,y<bt g->rv y<bt g:=λy h=>by rw[f]at h |-;exact wT h
 refine⟨λy h=>m.lt _ (H y h),λx y j h e=>?_⟩;have:=m.inj _ _ (H x j) (H y h) e;rw[<-w_ x,this,w_]
abbrev GA(ls:ai):Nat:=I ls+I (aE ls)
def an6(h:y<bt g):(w7 (GA g)).foldl tr (nN g) y=bz g y:=by rw[aqe,aD (by rw[E2]at h;exact h)];unfold nN;rw[w_]
def aBX(x y:Nat):cH (eM (bt g) ((w7 (GA g)).foldl tr (nN g))) x y↔cH (eM (bt g) (bz g)) x y:=
 ⟨cH.mono λa b r=>by obtain⟨h,rfl⟩:=r;exact .rel ⟨h,an6 h⟩,cH.mono λa b r=>by obtain⟨h,rfl⟩:=r;exact .rel ⟨h,(an6 h).symm⟩⟩
def alK{k:Nat}:∀t∈w7 k,t.1<2*k/\t.2<2*k/\t.1≠t.2:=by intro t H;obtain⟨e,h,rfl⟩:=dY.1 H;have:=gN.1 h;refine⟨?_,?_,?_⟩<;>simp only<;>omega
def asa(ok:gh F g):bY (cH (eM (bt g) (bz g))) (bt g)=gC g:=by
 obtain⟨j,T⟩:=GG (bz g) (bt g);have D:∀w∈fz (bz g) (bt g),w≠[]:=λw H=>by obtain⟨⟨d,t,e,_⟩,_⟩:=yh ok w H;rw[e];simp
 have h:I ((fz (bz g) (bt g)).map (·.headD 0))=gC g:=by rw[cY];rfl
 refine acf ?_ ?_
 .rw[<-h];refine ajy λx m=>?_;obtain⟨w,H,E⟩:=EE.1 (T x m);obtain⟨⟨d,t,e,_⟩,_⟩:=yh ok w H;refine⟨w.headD 0,dY.2 ⟨w,H,rfl⟩,?_⟩;exact Sq (qS ok) (R:=eM (bt g) (bz g)) (λy A=>.rel ⟨A,rfl⟩) H E (by rw[e];simp)
 rw[<-h];refine U0 (f:=A_ (fz (bz g) (bt g))) ?_ (λx m=>?_) ?_
 .rintro a b ⟨B,rfl⟩
  obtain⟨u,v,n⟩:=EE.1 (T a B);obtain⟨i,z⟩:=j9 v;rw[Ix j z n,Ix j z (w8 (qS ok) v n)]
 .obtain⟨w,H,rfl⟩:=dY.1 m;obtain⟨⟨d,t,e,L⟩,_⟩:=yh ok w H;rw[e];simp only[List.headD_cons];have:bt g=2*I g+2*I (aE g):=rfl;omega
 rw[agP j D];exact Cq
abbrev Fc(ls:ai):Nat->Nat->Prop:=eM (bt ls) (nN ls)
def adw(H:v<I g)(f:Bool):eZ (I g) v f<bt g:=by have h:=Bj H (!f);rw[<-u9]at h;have:=wT h;rw[w_]at this;have:bt g=2*I g+2*I (aE g):=rfl;omega
def afJ(v:Nat)(f:Bool):nN g (eZ (I g) v f)=bz g (jF (I g) v (!f)):=by unfold nN;rw[u9]
def awA(ok:gh F g)(h:v<I g):cH (Fc g) (eZ (I g) v true) (eZ (I g) v false):=by
 obtain⟨l,hl⟩:=aT h;have f:=acO ok h false;have:nN g (nN g (eZ (I g) v true))=eZ (I g) v false:=by rw[afJ];exact f
 have p:=W4 ok;rw[<-this];exact(cH.rel ⟨adw h true,rfl⟩).trans (.rel ⟨p.lt _ (adw h true),rfl⟩)
def Vy(ok:gh F g)(H:v<I g)(f h:Bool):cH (Fc g) (eZ (I g) v f) (eZ (I g) v h):=by
 have e:=awA ok H;cases f<;>cases h
 .exact .refl _
 .exact e.symm
 .exact e
 exact .refl _
def aqf(ok:gh F g){l:aa}(hl:g[v]?=some l)(h:l.aB):cH (Fc g) (eZ (I g) v true) (eZ (I g) (i_ g v) true):=by
 obtain⟨x,m,f,u,y,n,M⟩:=qM ok.cr hl h;have j:=(cn.1 hl).1;have H:=(cn.1 f).1;have:nN g (eZ (I g) v true)=eZ (I g) (i_ g v) (false==(l.over==(l.sign==1))):=by rw[afJ,yB hl h];rfl
 exact(cH.rel ⟨adw j true,this.symm⟩).trans (Vy ok H _ _)
def ayg(ok:gh F g){k:Nat}(H:k<I (aE g)):cH (Fc g) (2*I g+2*k) (eZ (I g) ((aE g).getD k 0) true):=by
 have A:2*I g+2*k<bt g:=by unfold bt;omega
 obtain⟨l,h,j⟩:=yW H;have f:=(cn.1 h).1;have:nN g (2*I g+2*k)=eZ (I g) ((aE g).getD k 0) (bN g ((aE g).getD k 0)):=by unfold nN;rw[show 2*I g+2*k=2*(I g+k) by omega,tp,show 2*(I g+k)+1=2*I g+2*k+1 by omega,D1]
 exact(cH.rel ⟨A,this.symm⟩).trans (Vy ok f _ _)
def azu(ok:gh F g){k:Nat}(f:k<I (aE g)):cH (Fc g) (2*I g+2*k+1) (eZ (I g) ((aE g).getD ((k+1)%I (aE g)) 0) true):=by
 have A:2*I g+2*k+1<bt g:=by unfold bt;omega
 obtain⟨l,h,j⟩:=yW (fk (k+1) (show 0<I (aE g) by omega));have H:=(cn.1 h).1;have:nN g (2*I g+2*k+1)=eZ (I g) ((aE g).getD ((k+1)%I (aE g)) 0) (!bN g ((aE g).getD ((k+1)%I (aE g)) 0)):=by unfold nN;rw[show 2*I g+2*k+1=2*(I g+k)+1 by omega,A6,show 2*(I g+k)=2*I g+2*k by omega,EY]
 exact(cH.rel ⟨A,this.symm⟩).trans (Vy ok H _ _)
def aBH(ok:gh F g)(y:x<bt g):∃v,v<I g/\cH (Fc g) x (eZ (I g) v true):=by
 by_cases c:x<2*I g
 .have m:rv x<2*I g:=wT c;obtain⟨v,j,hv,e⟩:∃v j,v<I g/\rv x=jF (I g) v j:=⟨_,_,by
   split
   .exact fk _ J
   omega,HI m⟩
  have:x=eZ (I g) v (!j):=by rw[<-auK,<-e,w_]
  exact⟨v,hv,by rw[this];exact Vy ok hv _ _⟩
 have u:bt g=2*I g+2*I (aE g):=rfl;have H:(x-2*I g)/2<I (aE g):=J;rcases tD x with h|h
 .obtain⟨l,f,n⟩:=yW H;refine⟨_,(cn.1 f).1,?_⟩;have:=ayg ok H;rwa[show 2*I g+2*((x-2*I g)/2)=x by omega]at this
 obtain⟨l,f,n⟩:=yW (fk ((x-2*I g)/2+1) (show 0<I (aE g) by omega));refine⟨_,(cn.1 f).1,?_⟩;have:=azu ok H;rwa[show 2*I g+2*((x-2*I g)/2)+1=x by omega]at this
def asB(ok:gh F g):∃L:aF,I L=an aa.aI g+an aa.aB g/2/\(∀j∈L,j<I g)/\(L.map (mN g)).Nodup/\ ∀v,v<I g->∃j∈L,mN g j=mN g v:=by
 have u:=ok.cr;unfold oo at u;simp only[c6,dk]at u;obtain⟨L,B,D,y⟩:=al4 ok;refine⟨L,B,D,y,λv f=>?_⟩
 let A:yf:=(aE g).map (λi:Nat=>((0:Int),(i:Int)))++(gZ g (I g)).map λid=>((1:Int),id)
 have Q:I A=an aa.aI g+an aa.aB g/2:=by simp only[A,gT,cY,Lb,u.2]
 have N:∀v,v<I g->mN g v∈A:=λv f=>by
  obtain⟨l,hl⟩:=aT f;unfold mN;rw[hl];rcases ok.kinds l (bR hl)with hp|E
  .simp only[pR hp,eI,if_false];exact Qu _ (dY.2 ⟨v,uk.2 ⟨l,hl,hp⟩,rfl⟩)
  simp only[E,if_true];refine Aw _ (dY.2 ⟨l.id,?_,rfl⟩);exact(HH (c3 _)).2 ⟨v,l.over,f,by rw[Ky hl E];simp⟩
 refine Classical.byContradiction λR=>?_;have m:mN g v∉L.map (mN g):=λh=>by obtain⟨j,n,e⟩:=dY.1 h;exact R ⟨j,n,e⟩
 have T:∀(X Y:yf),X.Nodup->(∀x∈X,x∈Y)->I X<=I Y:=by
  intro X
  induction X with
  |nil=>intro Y _ _;exact cG _
  |cons a X Z=>intro Y m ae;obtain⟨O,M⟩:=nR.1 m;have z:=ae a aP;have:=Z (Y.erase a) M λx H=>(QL (by rintro rfl;exact O H)).2 (ae x (by simp[H]));rw[No z]at this;have:0<I Y:=LS z;simp only[dW];omega
 have:=T (mN g v::L.map (mN g)) A (nR.2 ⟨m,y⟩) λx H=>by
  rcases dr.1 H with rfl|H
  .exact N v f
  obtain⟨j,n,rfl⟩:=dY.1 H;exact N j (D j n)
 rw[dW,cY,B,Q]at this;omega
def awe(ok:gh F g)(z:u<I g)(E:v<I g)(e:mN g u=mN g v):cH (Fc g) (eZ (I g) v true) (eZ (I g) u true):=by
 obtain⟨l,hl⟩:=aT z;obtain⟨m,H⟩:=aT E;unfold mN at e;rw[hl,H]at e;simp only at e;cases h:l.aB<;>cases f:m.aB
 .simp only[h,f,eI,if_false,mY,true_and]at e;have:u=v:=J;subst this;exact .refl _
 .simp[h,f]at e
 .simp[h,f]at e
 simp only[h,f,if_true,mY,true_and]at e;have j:=ok.cr;have hp:Hn g:=by unfold oo at j;simp only[c6,dk,kr,gN]at j;exact(IQ.1 j.1.2).2
 by_cases B:u=v
 .subst B;exact .refl _
 obtain⟨N,w,n,A,y,wo,M⟩:=qM ok.cr H f;have:i_ g v=u:=by refine Classical.byContradiction λL=>?_;have D:=(hp _ _ w l n hl A h (by rw[y,e]) L).1;have x:=(hp _ _ l m hl H h f e B).1;rw[wo]at D;revert D x;cases l.over<;>cases m.over<;>simp
 have:=aqf ok H f;rwa[‹i_ g v=u›]at this
def azw(ok:gh F g):bY (cH (Fc g)) (bt g)=an aa.aI g+an aa.aB g/2:=by
 obtain⟨L,M,n,Q,A⟩:=asB ok;have O:=E2 g;have B:bt g=2*I g+2*I (aE g):=rfl;have N:∀y,y<bt g->rv y<bt g:=λy u=>by rw[O]at u |-;exact wT u
 have h:I (L.map (2* ·))=an aa.aI g+an aa.aB g/2:=by rw[cY,M]
 refine acf ?_ ?_
 .rw[<-h];refine ajy λx m=>?_;obtain⟨v,z,e⟩:=aBH ok m;obtain⟨j,H,E⟩:=A v z;exact⟨2*j,dY.2 ⟨j,H,rfl⟩,e.trans (awe ok (n j H) z E)⟩
 rw[<-h];refine U0 (f:=λx=>mN g (oG g (rv x))) ?_ (λx m=>?_) ?_
 .rintro a b ⟨D,rfl⟩
  exact(acu ok (N a D)).1.symm
 .obtain⟨j,H,rfl⟩:=dY.1 m;have:=n j H;omega
 rw[nU];have:L.map ((λx=>mN g (oG g (rv x))) ∘ (2* ·))=L.map (mN g):=xx λj H=>by have:=C8 (g:=g) (n j H) false;simp only[Function.comp_apply,tp];rw[show 2*j+1=jF (I g) j false from rfl,this]
 rw[this];exact Q
def aCH(ok:gh F g):bY (cH (AA (bt g) (nN g) (w7 (GA g)))) (bt g)<=1:=by
 refine akz λx m=>?_;obtain⟨b,j⟩:=aaa (p:=λ_=>false) (λ_=>rfl) ok m;have h:=j 0 U;have:=h.push (g:=AA (bt g) (nN g) (w7 (GA g))) (f:=λy=>y/2) ?_
 .have z:jd b 0<2:=A2 U;rw[show(2*x+0)/2=x by omega,show jd b 0/2=0 by omega]at this;exact this
 intro u v r;rcases r with⟨A,rfl⟩|r
 .refine .rel (.inl ⟨J,?_⟩);unfold vC nN jd;simp only[eI,if_false];omega
 refine .rel (.inr ?_);obtain⟨e,n,H⟩:=Lj.1 r;have X:(2*e,2*e+1)∈w7 (GA g):=dY.2 ⟨e,n,rfl⟩;simp only[dr,ic,or_false,mY]at H;rcases H with⟨rfl,rfl⟩|⟨rfl,rfl⟩
 .rw[Jf];simp only[eI,if_false];rw[show 4*e/2=2*e by omega,show(4*e+2)/2=2*e+1 by omega];exact X
 rw[Kf];simp only[eI,if_false];rw[show(4*e+1)/2=2*e by omega,show(4*e+3)/2=2*e+1 by omega];exact X
def axG(ok:gh F g):gC g<=an aa.aI g+an aa.aB g/2+2/\(gC g+(an aa.aI g+an aa.aB g/2))%2=0:=by
 have H:=E2 g;have E:=akA (w7 (GA g)) (nN g) (W4 ok) λt h=>by have:=alK t h;rw[H];exact⟨this.1,this.2.1⟩
 have m:=aBV (w7 (GA g)) (nN g) (W4 ok) λt h=>by have:=alK t h;rw[H];exact this
 have hl:I (w7 (GA g))=I g+I (aE g):=by simp[w7]
 rw[Jn aBX,asa ok,show bY (cH (eM (bt g) (nN g))) (bt g)=_ from azw ok,hl]at E m;have u:=aCH ok;have j:=Ru ok;have kK:=Lb (L:=g);have f:=ok.cr;unfold oo at f;simp only[c6,dk]at f;have n:=f.1.1;omega
end
structure ff where
 l:Nat
 r:Nat
 b:Bool
structure bl where
 p:aR
 i:ff
 o:ff
abbrev gW:=List bl
abbrev bl.k(x:bl):aa:=x.p.l
def jj:ff->gW->ff->Prop
 |s,[],t=>s=t
 |s,x::r,t=>x.i=s/\jj x.o r t
def zh{s t:ff}{a b:gW}:jj s (a++b) t↔ ∃m,jj s a m/\jj m b t:=by
 induction a generalizing s with
 |nil=>exact⟨λh=>⟨s,rfl,h⟩,λ⟨m,f,H⟩=>by cases f;exact H⟩
 |cons x a g=>show(x.i=s/\jj x.o (a++b) t)↔_;rw[g];exact⟨λ⟨h,m,f,H⟩=>⟨m,⟨h,f⟩,H⟩,λ⟨m,⟨h,f⟩,H⟩=>⟨h,m,f,H⟩⟩
def apf{s:ff}{a b:gW}(h:jj s (a++b) s):∃m,jj m (b++a) m:=by obtain⟨m,H,f⟩:=zh.1 h;exact⟨m,zh.2 ⟨s,f,H⟩⟩
structure s6 (g:Bool) (i o j q:ff):Prop where
 a:if g then i.l=q.l else i.l=j.r
 b:if g then o.r=j.r else o.r=q.l
 c:if g then j.l=i.r else j.l=o.l
 d:if g then q.r=o.l else q.r=i.r
def gQ (l:aa):Bool:=l.over==(l.sign==1)
structure y7 (x y:bl):Prop where
 ov:x.k.over= !y.k.over
 sg:x.k.sign=y.k.sign
 x4:s6 (gQ x.k) x.i x.o y.i y.o
def y7.symm{x y:bl}(h:y7 x y):y7 y x:=by
 obtain⟨f,H,a,b,c,d⟩:=h;have e:gQ y.k= !gQ x.k:=by unfold gQ;rw[f,H];cases y.k.over<;>cases(y.k.sign==1)<;>rfl
 refine⟨by rw[f];simp,H.symm,?_⟩;rw[e];cases g:gQ x.k
 .rw[g]at a b c d;simp only[eI,if_false]at a b c d;constructor<;>simp only[HG,if_true]
  .exact c
  .exact d
  .exact a
  exact b
 rw[g]at a b c d;simp only[if_true]at a b c d;constructor<;>simp only[BS,eI,if_false]
 .exact c
 .exact d
 .exact a
 exact b
def jW(s:ff):ff:=⟨s.r,s.l,s.b⟩
def bl.up(x:bl):ff:=if x.p.d then x.i else jW x.o
def bl.lo(x:bl):ff:=if x.p.d then x.o else jW x.i
structure zc (F:Nat) (x:bl):Prop where
 bad:ek F x.k=false
 cb:x.k.aB->x.i.b=x.o.b
 pb:x.k.aI->x.o.b=x.p.d/\x.i.b= !x.p.d
def lG (x y:bl):Prop:=x.k.aB=true->y.k.aB->x.k.id=y.k.id->y7 x y
def lG.symm{x y:bl}(h:lG x y):lG y x:=λa b c=>(h b a c.symm).symm
def zG (x y:bl):Prop:=x.k.aI=true->y.k.aI->x.k.gate=y.k.gate->x.k.ay≠y.k.ay
def zG.symm{x y:bl}(h:zG x y):zG y x:=λa b c d=>h b a c.symm d.symm
structure CV (T B:Nat->Nat->Nat) (x:bl):Prop where
 wt:x.up.r=T x.k.gate.toNat (x.k.ay.toNat-1)
 et:x.up.l=T x.k.gate.toNat x.k.ay.toNat
 wb:x.lo.r=B x.k.gate.toNat (x.k.ay.toNat-1)
 eb:x.lo.l=B x.k.gate.toNat x.k.ay.toNat
abbrev aZ(z:gW):ai:=z.map bl.k
structure jN (F:Nat) (z:gW) (T B:Nat->Nat->Nat) (S:aF):Prop where
 path:∃s,jj s z s
 ok:∀x∈z,zc F x
 cr:z.Pairwise lG
 ev:an aa.aB (aZ z)%2=0
 ids:∀x∈z,x.k.aB->1<=x.k.id/\x.k.id<=((an aa.aB (aZ z)/2:Nat):Int)
 rk:z.Pairwise zG
 rr:∀x∈z,x.k.aI->1<=x.k.ay/\x.k.ay<=(bU (aZ z) x.k.gate.toNat:Int)
 pl:∀x∈z,x.k.aI->CV T B x
 gt:∀g,g<F->T g (bU (aZ z) g)=T (g+1) 0/\B g (bU (aZ z) g)=B (g+1) 0
 gz:T F (bU (aZ z) F)=T 0 0/\B F (bU (aZ z) F)=B 0 0
 one:∃x∈z,x.k.aI
 nd:S.Nodup
 wit:∀s∈S,∃x∈z,s=x.o.l\/s=x.o.r
 num:an aa.aI (aZ z)+an aa.aB (aZ z)/2+1<=I S
def lL(F:Nat)(l:cX):Prop:= ∃z T B S,z.map bl.p=l/\jN F z T B S
def Al{p:aa->Bool}{z Z:gW}(h:z.Perm Z):an p (aZ z)=an p (aZ Z):=(h.map bl.k).countP_eq p
def jN.perm{z Z:gW}{S:aF}(c:jN F z T B S)(h:z.Perm Z)(hp:∃s,jj s Z s):jN F Z T B S:=by
 have f:∀ {x},x∈Z↔x∈z:=λ{x}=>h.symm.mem_iff;have e:∀p,an p (aZ Z)=an p (aZ z):=λp=>(Al h).symm;have E:∀g,bU (aZ Z) g=bU (aZ z) g:=λg=>e _;refine⟨hp,λx H=>c.ok x (f.1 H),(h.pairwise_iff λ{x y}=>lG.symm).1 c.cr,by rw[e];exact c.ev,λx H=>by rw[e];exact c.ids x (f.1 H),(h.pairwise_iff λ{x y}=>zG.symm).1 c.rk,
  λx H=>by rw[E];exact c.rr x (f.1 H),λx H=>c.pl x (f.1 H),λg m=>by rw[E];exact c.gt g m,by rw[E];exact c.gz,?_,c.nd,λs ae=>?_,by rw[e,e];exact c.num⟩
 .obtain⟨x,H,j⟩:=c.one;exact⟨x,f.2 H,j⟩
 obtain⟨x,H,j⟩:=c.wit s ae;exact⟨x,f.2 H,j⟩
def jN.nN{a b:gW}{S:aF}(c:jN F (a++b) T B S):jN F (b++a) T B S:=by obtain⟨s,h⟩:=c.path;exact c.perm (KX) (apf h)
def lL.nN{a b:cX}(c:lL F (a++b)):lL F (b++a):=by obtain⟨z,T,B,S,h,c⟩:=c;obtain⟨x,y,rfl,rfl,rfl⟩:=List.map_eq_append_iff.1 h;exact⟨y++x,T,B,S,by rw[kP],c.nN⟩
def azd:∀ {z:gW}{s t:ff},(∀x∈z,zc F x)->jj s z t->s.b=false->t.b->∃x∈z,x.k.aI/\x.p.d:=by
 intro z
 induction z with
 |nil=>intro s t _ h f H;cases h;rw[f]at H;cases H
 |cons x z u=>
  intro s t ok h f H;obtain⟨rfl,h⟩:=h;have O:=ok x aP;by_cases g:x.k.aI/\x.p.d
  .exact⟨x,aP,g⟩
  have m:x.o.b=false:=by
   rcases Dg O.bad with hp|A
   .rw[(O.pb hp).1];cases v:x.p.d
    .rfl
    exact absurd ⟨hp,v⟩ g
   rw[<-O.cb A];exact f
  obtain⟨y,j,e⟩:=u (λx n=>ok x (by simp[n])) h m H;exact⟨y,by simp[j],e⟩
def jN.down{z:gW}{S:aF}(c:jN F z T B S):∃x∈z,x.k.aI/\x.p.d:=by
 obtain⟨x,g,hp⟩:=c.one;cases f:x.p.d
 .obtain⟨a,b,rfl⟩:=List.append_of_mem g;have m:=c.nN;obtain⟨s,h⟩:=m.path;obtain⟨rfl,h⟩:=h;obtain⟨E,j⟩:=(c.ok x aP).pb hp;rw[f]at E j;obtain⟨y,H,e⟩:=azd (λy H=>c.ok y (by
   rcases iW.1 H with H|H
   .simp[H]
   simp[H])) h E j
  refine⟨y,?_,e⟩;rcases iW.1 H with H|H
  .simp[H]
  simp[H]
 exact⟨x,g,hp,f⟩
def aeP{l:cX}{f:Nat}(n:f<=I l):s5 l f (I l)=(l.drop f++l.take f).map aR.l:=by
 apply yV;intro i;by_cases m:i<I l
 .have h:(s5 l f (I l))[i]?=some (l.getD ((f+i)%I l) ⟨mw,false⟩).l:=by
   simp[s5,m]
  rw[h,ig];by_cases H:f+i<I l
  .rw[zl (by simp;omega),BY,jh H];simp[H]
  rw[wY (by simp;omega),kV];have j:(f+i)%I l=i-(I l-f):=by rw[aaw J,jh J];omega
  have g:i-(I l-f)<I l:=J;rw[j,nE,aD J];simp[g]
 have h:I (s5 l f (I l))=I l:=by simp[s5]
 rw[pF (by rw[h];omega),pF (by simp;omega)]
def lL.fin{l:cX}(c:lL F l):∃z T B S x r,z=x::r/\x.k.aI/\x.p.d/\aZ z=oF l/\I z=I l/\jN F z T B S:=by
 obtain⟨z,T,B,S,h,c⟩:=c;subst h;obtain⟨x,A,hp,u⟩:=c.down;have E:∀y:bl,y.k.aI=(y.p.l.kind==1):=λy=>rfl;obtain⟨j,n⟩:=j9 A;have L:=(cn.1 n).1;have D:(z.map bl.p)[j]?=some x.p:=by rw[ig,n];rfl
 obtain⟨f,hf⟩:∃f,uo (z.map bl.p)=some f:=by
  cases h:uo (z.map bl.p)with
  |some f=>exact⟨f,rfl⟩
  |none=>have:=G9.1 h j (by simpa using L);rw[acy D]at this;unfold FW at this;rw[E]at hp;simp[hp,u]at this
 have H:=HA hf;have v:f<I z:=by
  have:=Cg hf
  simpa using this
 obtain⟨y,g⟩:=cn.2 ⟨v,rfl⟩ |> λh=>(⟨_,h⟩:∃y,z[f]?=some y)
 have m:(z.map bl.p)[f]?=some y.p:=by rw[ig,g];rfl
 rw[acy m]at H;unfold FW at H;rw[c6]at H;have M:z=z.take f++y::z.drop (f+1):=by obtain⟨hl,e⟩:=cn.1 g;rw[<-e,tj,nu]
 have Z:z.drop f=y::z.drop (f+1):=by obtain⟨hl,e⟩:=cn.1 g;rw[<-e,tj]
 refine⟨y::z.drop (f+1)++z.take f,T,B,S,y,z.drop (f+1)++z.take f,rfl,H.1,H.2,?_,?_,?_⟩
 .unfold oF;rw[hf,kZ,aeP (by rw[cY];omega),<-Z];simp only[kP,u_,uJ,nU];rfl
 .rw[<-Z,gT,kV,gX,cY];omega
 rw[M]at c;exact c.nN
def att(E:an aa.aB g%2=0)(v:aaz g)(hp:Hn g):oo g:=by
 rw[aac E (IQ.2 ⟨v,hp⟩)];have Q:=Xm g;have u:∀id∈gZ g (I g),an (oI id) g<=2:=λid _=>by rw[Q3 id];have:=Dk hp id true;have:=Dk hp id false;omega
 have O:=alR (f:=λid=>an (oI id) g) _ u;have L:I (gZ g (I g))<=an aa.aB g/2:=by
  have n:∀id∈gZ g (I g),1<=id/\id<=((an aa.aB g/2:Nat):Int):=λid H=>by obtain⟨j,o,N,y⟩:=(HH (c3 _)).1 H;obtain⟨m,B,F,M,_⟩:=C4 y;rw[<-M];exact v m (bR B) F
  have:=KW ((gZ g (I g)).map Int.toNat) (List.range' 1 (an aa.aB g/2)) ?_ ?_
  .rwa[cY,List.length_range']at this
  .refine zk.2 (Ua (λ{a b} D z h e=>h ?_) (T5 g (I g)));have:=n a D;have:=n b z;omega
  intro x A;obtain⟨id,H,rfl⟩:=dY.1 A;have:=n id H;rw[List.mem_range'_1];omega
 simp only[dk];omega
def Nf{s t:ff}{z:gW}{x:bl}(h:jj s z t)(H:z[0]?=some x):x.i=s:=by
 cases z with
 |nil=>cases H
 |cons y z=>cases H;exact h.1
def ahh:∀ {z:gW}{s t:ff}{i:Nat}{x y:bl},jj s z t->z[i]?=some x->z[i+1]?=some y->x.o=y.i:=by
 intro z
 induction z with
 |nil=>intro s t i x y _ H;cases H
 |cons a z g=>
  intro s t i x y h H f;cases i with
  |zero=>cases H;exact(Nf h.2 f).symm
  |succ i=>exact g h.2 H f
def WB:∀ {z:gW}{s t:ff}{x:bl},jj s z t->z[I z-1]?=some x->x.o=t:=by
 intro z
 induction z with
 |nil=>intro s t x _ H;cases H
 |cons a z f=>
  intro s t x h H;cases z with
  |nil=>cases H;exact h.2
  |cons b z=>exact f h.2 H
def ag2{z:gW}{s:ff}{x y:bl}(h:jj s z s)(f:z[j]?=some x)(H:z[(j+1)%I z]?=some y):x.o=y.i:=by
 have g:=(cn.1 f).1;by_cases c:j+1<I z
 .rw[jh c]at H;exact ahh h f H
 have:j+1=I z:=J;rw[this,zu]at H;rw[WB h (by rw[<-this];exact f),Nf h H]
def Df{z:gW}{i:Nat}{x:bl}(h:z[i]?=some x):(aZ z)[i]?=some x.k:=by rw[ig,h];rfl
def EJ{z:gW}{i:Nat}{l:aa}(h:(aZ z)[i]?=some l):∃x,z[i]?=some x/\x.k=l:=by rw[ig,e_]at h;exact h
def ZZ{z:gW}{s t:ff}(ok:∀x∈z,zc F x)(h:jj s z t)(ae:s.b=false):∀i x,z[i]?=some x->x.i.b= !bN (aZ z) i/\x.o.b= !bN (aZ z) (i+1):=by
 have step:∀i x,z[i]?=some x->x.i.b=(!bN (aZ z) i)->x.o.b= !bN (aZ z) (i+1):=λi x H m=>by
  have O:=ok x (bR H);rcases Dg O.bad with hp|j
  .rw[FK (Df H) hp,MK,(O.pb hp).1];have:=(O.pb hp).2;rw[m]at this;revert this;cases bN (aZ z) i<;>cases x.p.d<;>simp
  rw[Ks (Df H) (by
   cases hp:x.k.aI
   .rfl
   rw[pR hp]at j;cases j),<-m,O.cb j]
 intro i
 induction i with
 |zero=>
  intro x H;have:x.i.b= !bN (aZ z) 0:=by rw[Nf h H,ae];rfl
  exact⟨this,step 0 x H this⟩
 |succ i n=>intro y f;obtain⟨x,H⟩:=aT (L:=z) (k:=i) (by have:=(cn.1 f).1;omega);have e:=(n x H).2;rw[ahh h H f]at e;exact⟨e,step (i+1) y f e⟩
def afU(H:∀m,m<F->f m (bU g m)=f (m+1) 0):∀(d m k j n:Nat),j=m+d->j<=F->k<=bU g m->n<=bU g j->hJ g m+k=hJ g j+n->f m k=f j n:=by
 intro d
 induction d with
 |zero=>intro m k j n e _ _ _ h;rw[vu]at e;subst e;rw[show k=n by omega]
 |succ d v=>intro m k j n e x z u h;have y:=Bz (L:=g) (show m+1<=j by omega);have ae:=tX g m;have:k=bU g m:=J;subst this;rw[H m J];exact v (m+1) 0 j n J x (cG _) u J
def Wz(H:∀m,m<F->f m (bU g m)=f (m+1) 0){m k j n:Nat}(y:m<=F)(x:j<=F)(u:k<=bU g m)(v:n<=bU g j)(h:hJ g m+k=hJ g j+n):f m k=f j n:=by
 rcases Nat.le_total m j with c|c
 .exact afU H (j-m) m k j n J x u v h
 exact(afU H (m-j) j n m k J y v u h.symm).symm
def NQ:bl:=⟨⟨mw,false⟩,⟨0,0,false⟩,⟨0,0,false⟩⟩
def qU(z:gW)(x:Nat):Nat:=
 if x<2*I z then(if x%2=0 then(z.getD (x/2) NQ).o.l else(z.getD (x/2) NQ).o.r)
 else if x%2=0 then(z.getD ((aE (aZ z)).getD ((x-2*I z)/2) 0) NQ).up.l else(z.getD ((aE (aZ z)).getD ((x-2*I z)/2) 0) NQ).lo.l
def G4{z:gW}{i:Nat}{x:bl}(h:z[i]?=some x):z.getD i NQ=x:=by rw[dC,h];rfl
section
variable {F:Nat} {z:gW} {s:ff}
def Wn(h:jj s z s){x:bl}(H:z[v]?=some x)(m:Bool):qU z (eZ (I z) v m)=if m then x.o.l else x.i.r:=by
 have n:=(cn.1 H).1;cases m with
 |true=>show qU z (2*v)=_;unfold qU;rw[aD J,aD J,show 2*v/2=v by omega,G4 H];rfl
 |false=>show qU z (2*((v+I z-1)%I z)+1)=_;have j:=fk (v+I z-1) (show 0<I z by omega);obtain⟨y,f⟩:=aT (L:=z) j;have e:=ag2 h f (by rw[xU n];exact H);unfold qU;rw[aD J,aC J,show(2*((v+I z-1)%I z)+1)/2=(v+I z-1)%I z by omega,G4 f,e];rfl
def avO(h:jj s z s){x:bl}(H:z[v]?=some x)(m:Bool):qU z (jF (I z) v m)=if m then x.i.l else x.o.r:=by
 have n:=(cn.1 H).1;cases m with
 |false=>show qU z (2*v+1)=_;unfold qU;rw[aD J,aC J,show(2*v+1)/2=v by omega,G4 H];rfl
 |true=>show qU z (2*((v+I z-1)%I z))=_;have j:=fk (v+I z-1) (show 0<I z by omega);obtain⟨y,f⟩:=aT (L:=z) j;have e:=ag2 h f (by rw[xU n];exact H);unfold qU;rw[aD J,aD J,show(2*((v+I z-1)%I z))/2=(v+I z-1)%I z by omega,G4 f,e];rfl
def akC{k:Nat}{x:bl}(h:(aE (aZ z)).getD k 0=v)(H:z[v]?=some x):qU z (2*I z+2*k)=x.up.l:=by unfold qU;rw[aC J,aD J,show(2*I z+2*k-2*I z)/2=k by omega,h,G4 H]
def aee{k:Nat}{x:bl}(h:(aE (aZ z)).getD k 0=v)(H:z[v]?=some x):qU z (2*I z+2*k+1)=x.lo.l:=by unfold qU;rw[aC J,aC J,show(2*I z+2*k+1-2*I z)/2=k by omega,h,G4 H]
def jN.Ko{S:aF}(c:jN F z T B S){i:Nat}{x y:bl}(u:z[i]?=some x)(g:z[j]?=some y)(n:i≠j):lG x y/\zG x y:=by
 obtain⟨f,E⟩:=cn.1 u;obtain⟨H,m⟩:=cn.1 g;subst E m;rcases aaV n with h|h
 .exact⟨M3.1 c.cr i j f H h,M3.1 c.rk i j f H h⟩
 exact⟨(M3.1 c.cr j i H f h).symm,(M3.1 c.rk j i H f h).symm⟩
def jN.fG{S:aF}(c:jN F z T B S){x:bl}(h:x∈z)(hp:x.k.aI):tq F (aZ z) x.k:=by obtain⟨⟨⟨⟨g0,g1⟩,_⟩,_⟩,_⟩:=(oX hp).1 (c.ok x h).bad;obtain⟨r0,r1⟩:=c.rr x h hp;exact⟨g0,g1,r0,r1⟩
def jN.dg{S:aF}(c:jN F z T B S)(hl:I z<=1000000):gh F (aZ z):=by
 refine⟨by rw[cY];exact hl,⟨λl hl hp=>?_,λi j l m f n pl u e=>?_⟩,att c.ev (λl hl L=>?_) (λi j l m f n A D e g=>?_),λl hl=>?_⟩
 .obtain⟨x,h,rfl⟩:=dY.1 hl;exact c.fG h hp
 .obtain⟨x,h,rfl⟩:=EJ f;obtain⟨y,H,rfl⟩:=EJ n;refine Decidable.byContradiction λg=>?_;obtain⟨E,v⟩:=(GO (c.fG (bR h) pl) (c.fG (bR H) u)).1 e;exact(c.Ko h H g).2 pl u E v
 .obtain⟨x,h,rfl⟩:=dY.1 hl;exact c.ids x h L
 .obtain⟨x,h,rfl⟩:=EJ f;obtain⟨y,H,rfl⟩:=EJ n;have:=(c.Ko h H g).1 A D e;refine⟨?_,this.sg⟩;rw[this.ov];cases y.k.over<;>simp
 obtain⟨x,h,rfl⟩:=dY.1 hl;exact Dg (c.ok x h).bad
def jN.tE{S:aF}(c:jN F z T B S):tE F (aZ z):=λl hl hp=>by obtain⟨x,h,rfl⟩:=dY.1 hl;exact((oX hp).1 (c.ok x h).bad).1.1.1
def jN.Sn{S:aF}(c:jN F z T B S)(hl:I z<=1000000){k:Nat}{x y:bl}(L:(aE (aZ z))[k]?=some u)(hv:(aE (aZ z))[(k+1)%I (aE (aZ z))]?=some v)(A:z[u]?=some x)(n:z[v]?=some y):x.up.l=y.up.r/\x.lo.l=y.lo.r:=by
 have ok:=c.dg hl;have hk:=(cn.1 L).1;obtain⟨l,O,Q,Z⟩:=yz ok.ax L;obtain⟨m,N,E,M⟩:=yz ok.ax hv;rw[Df A]at O;cases O;rw[Df n]at N;cases N;have gx:=c.fG (bR A) Q;have X:=c.fG (bR n) E;have D:=c.pl x (bR A) Q;have R:=c.pl y (bR n) E;obtain⟨x1,x2,x3,x4⟩:=gx;obtain⟨y1,y2,y3,y4⟩:=X;have h:∀f:Nat->Nat->Nat,(∀g,g<F->f g (bU (aZ z) g)=f (g+1) 0)->f F (bU (aZ z) F)=f 0 0->f x.k.gate.toNat x.k.ay.toNat=f y.k.gate.toNat (y.k.ay.toNat-1):=by
  intro f j hz;unfold fD at Z M;by_cases Y:k+1<I (aE (aZ z))
  .rw[jh Y]at M;exact Wz j J J J J J
  have hT:=E4 c.tE;have ae:=tX (aZ z) F;have:k+1=I (aE (aZ z)):=J;rw[this,zu]at M;rw[Wz j (m:=x.k.gate.toNat) (k:=x.k.ay.toNat) (j:=F) (n:=bU (aZ z) F) J (c3 _) J (c3 _) J,hz];exact Wz j (cG _) J (cG _) J (by show 0+0=_;omega)
 exact⟨by rw[D.et,R.wt];exact h T (λg H=>(c.gt g H).1) c.gz.1,by rw[D.eb,R.wb];exact h B (λg H=>(c.gt g H).2) c.gz.2⟩
def jN.walk{S:aF}(c:jN F z T B S)(hl:I z<=1000000)(h:jj s z s)(ae:s.b=false)(hx:x<bt (aZ z)):qU z (bz (aZ z) x)=qU z x:=by
 have ok:=c.dg hl;have N:I (aZ z)=I z:=cY ..;have hN:bt (aZ z)=2*I z+2*I (aE (aZ z)):=by unfold bt;rw[N]
 have R:=ZZ c.ok h ae;by_cases c1:x<2*I z
 .obtain⟨v,E,hv,rfl⟩:∃v E,v<I z/\x=jF (I z) v E:=⟨_,_,by
   split
   .exact fk _ J
   omega,HI c1⟩
  obtain⟨e,H⟩:=aT (L:=z) hv;have f:=Df H;have oe:=c.ok e (bR H);rw[avO h H];rcases Dg oe.bad with hp|Z
  .have L:bN (aZ z) v=e.p.d:=by
    have:=(R v e H).1;rw[(oe.pb hp).2]at this;revert this;cases e.p.d<;>cases bN (aZ z) v<;>simp
   obtain⟨a1,a2⟩:=Fq ok f hp;have t:=GI f hp E;rw[N]at t;rw[t,L];by_cases O:(e.p.d==E)
   .rw[aD O,akC a2 H];unfold bl.up;have:=eq_of_beq O;subst this;cases e.p.d<;>rfl
   rw[aC O];have D:=fk ((aE (aZ z)).idxOf v+I (aE (aZ z))-1) (show 0<I (aE (aZ z)) by omega);obtain⟨u,A⟩:=aT D;obtain⟨l,u1,u2⟩:=uk.1 (bR A);obtain⟨y,j,rfl⟩:=EJ u1;have JX:(aE (aZ z))[(aE (aZ z)).idxOf v]?=some v:=by obtain⟨q,hq⟩:=aT a1;rw[dC,hq]at a2;rw[hq];exact congrArg some a2
   have:=(c.Sn hl A (by rw[xU a1];exact JX) j H).2;rw[aee (by rw[dC,A];rfl) j,this];unfold bl.lo;revert O;cases e.p.d<;>cases E<;>simp[jW]
  obtain⟨b1,m,D,mc,mi,mo,ms⟩:=qM ok.cr f Z;obtain⟨y,j,rfl⟩:=EJ D;have aO:v≠i_ (aZ z) v:=by intro ee;rw[<-ee,f]at D;have:=rz D;rw[<-this]at mo;revert mo;cases e.k.over<;>simp
  obtain⟨_,_,X,xb,xc,xd⟩:=(c.Ko H j aO).1 Z mc mi.symm;have t:=yB f Z E;rw[N]at t;rw[t,Wn h j];unfold gQ at X xb;cases hg:(e.k.over==(e.k.sign==1))<;>rw[hg]at X xb<;>simp only[eI,if_false,if_true]at X xb<;>cases E<;>simp_all
 have hk:(x-2*I z)/2<I (aE (aZ z)):=J;obtain⟨u,A⟩:=aT hk;obtain⟨l,u1,u2⟩:=uk.1 (bR A);obtain⟨e,H,rfl⟩:=EJ u1;have n:(aE (aZ z)).getD ((x-2*I z)/2) 0=u:=by rw[dC,A];rfl
 rcases tD x with Ag|Ag
 .have M:x=2*I z+2*((x-2*I z)/2):=J;have D:=fk ((x-2*I z)/2+1) (show 0<I (aE (aZ z)) by omega);obtain⟨w,hw⟩:=aT D;obtain⟨l,w1,w2⟩:=uk.1 (bR hw);obtain⟨y,j,rfl⟩:=EJ w1;have Y:(aE (aZ z)).getD (((x-2*I z)/2+1)%I (aE (aZ z))) 0=w:=by rw[dC,hw];rfl
  have Q:=c.ok y (bR j);have L:bN (aZ z) w=y.p.d:=by have:=(R w y j).1;rw[(Q.pb w2).2]at this;revert this;cases y.p.d<;>cases bN (aZ z) w<;>simp
  have t:=EY (g:=aZ z) ((x-2*I z)/2);rw[N,<-M]at t;rw[t,Y,Wn h j,L];have a:=(c.Sn hl A hw H j).1;have r:=akC n H;rw[<-M]at r;rw[r,a];unfold bl.up;cases y.p.d<;>simp[jW]
 have M:x=2*I z+2*((x-2*I z)/2)+1:=J;have Q:=c.ok e (bR H);have L:bN (aZ z) u=e.p.d:=by have:=(R u e H).1;rw[(Q.pb u2).2]at this;revert this;cases e.p.d<;>cases bN (aZ z) u<;>simp
 have t:=D1 (g:=aZ z) ((x-2*I z)/2);rw[N,<-M]at t;rw[t,n,Wn h H,L];have r:=aee n H;rw[<-M]at r;rw[r];unfold bl.lo;cases e.p.d<;>simp[jW]
def jN.check{S:aF}(c:jN F z T B S){x:bl}{r:gW}(A:z=x::r)(hp:x.k.aI)(n:x.p.d)(hl:I z<=400)(fi:an aa.aB (aZ z)<=200)(hF:F<=40):de F (aZ z)=0:=by
 have ok:=c.dg J;have m:I (aZ z)=I z:=cY ..;obtain⟨s,h⟩:=c.path;have Q:z[0]?=some x:=by rw[A];rfl
 have ae:s.b=false:=by rw[<-Nf h Q,((c.ok x (bR Q)).pb hp).2,n];rfl
 have jS:0<I z:=by rw[A];simp
 have N:=ZZ c.ok h ae;have Z:an aa.aI (aZ z)%2=0:=by
  obtain⟨y,H⟩:=aT (L:=z) (k:=I z-1) J;have:=(N _ y H).2;rw[WB h H,ae,show I z-1+1=I (aZ z) by rw[m];omega]at this;unfold bN at this;rw[lA]at this
  simpa using this
 have X:gC (aZ z)=an aa.aI (aZ z)+an aa.aB (aZ z)/2+2:=by
  obtain⟨b1,b2⟩:=axG ok;have u:∀a∈S,∃d,qU z d=a/\d<2*I z:=λa ha=>by
   obtain⟨y,H,e⟩:=c.wit a ha;obtain⟨j,v⟩:=j9 H;have u5:=(cn.1 v).1;rcases e with e|e
   .exact⟨2*j,by unfold qU;rw[aD J,aD J,show 2*j/2=j by omega,G4 v,e],J⟩
   exact⟨2*j+1,by unfold qU;rw[aD J,aC J,show(2*j+1)/2=j by omega,G4 v,e],J⟩
  obtain⟨M,D,L⟩:=alh (P:=λa d=>qU z d=a/\d<2*I z) (f:=qU z) (λa d h=>h.1) u;have hN:bt (aZ z)=2*I z+2*I (aE (aZ z)):=by unfold bt;rw[m]
  have:=aCE (qS ok) (φ:=qU z) (λy H=>c.walk J h ae H) (h:=M) (λd n=>by obtain⟨_,_,h⟩:=L d n;omega) (by rw[D];exact c.nd)
  have hM:I M=I S:=by rw[<-D,cY]
  have E:=c.num;have:I M<=gC (aZ z):=this;omega
 have Y:aZ z≠[]:=by intro e;rw[e]at m;simp at m;omega
 unfold de;rw[aC (by rw[m];omega),aC J,aC Y,aD];unfold oD;have R:=(NG c.tE).2 ⟨ok.ax.fG,ok.ax.inj⟩;have L9:(aZ z).any (ek F)=false:=E6.2 λl hl=>by obtain⟨y,H,rfl⟩:=dY.1 hl;rw[(c.ok y H).bad];decide
 rw[Df Q,aaU.2 ⟨L9,R,ok.cr⟩,X,Z];have O:(x.k.kind==1):=hp;simp only[O,zL,OX]
def lL.check{l:cX}(c:lL F l)(hl:I l<=400)(v:an aa.aB (l.map aR.l)<=200)(n:F<=40):de F (oF l)=0:=by
 obtain⟨w,T,B,S,x,r,u,hp,j,g,H,cz⟩:=c.fin;have y:an aa.aB (aZ w)=an aa.aB (l.map aR.l):=by
  rw[g];have m:(uo l).getD 0<=I l:=by
   cases h:uo l with
   |none=>exact cG _
   |some f=>have:=Cg h;simp at this;simp only[kZ];omega
  unfold oF;rw[aeP m];show List.countP _ _=List.countP _ _;rw[kP,um,N3,<-um,<-kP,nu]
 rw[<-g];exact cz.check u hp j J J n
end
def qq(g:ai)(x:Nat):Nat:=A_ (fz (bz g) (bt g)) x
def nx(g:ai)(i:Nat):ff:=⟨qq g (2*i),qq g (2*i+1),!bN g (i+1)⟩
def fc(g:ai)(i:Nat):bl:=⟨⟨g.getD i mw,km g i⟩,nx g ((i+I g-1)%I g),nx g i⟩
def eU (g:ai):gW:=(List.range (I g)).map (fc g)
def gL (g:ai)(f k:Nat):Nat:=qq g (2*I g+2*((hJ g f+k+I (aE g)-1)%I (aE g)))
def gq (g:ai)(f k:Nat):Nat:=qq g (2*I g+2*((hJ g f+k+I (aE g)-1)%I (aE g))+1)
def xV(g:ai):(eU g).map bl.p=aQ g:=by unfold eU aQ;rw[nU];rfl
def jK(g:ai):aZ (eU g)=g:=by
 have h:aZ (eU g)=(aQ g).map aR.l:=by rw[<-xV,nU];rfl
 rw[h];apply yV;intro i;rw[ig];by_cases H:i<I g
 .obtain⟨l,hl⟩:=aT H;rw[oJ hl,hl];rfl
 rw[pF (by rw[cW];omega),pF J];rfl
def Ay(g:ai):I (eU g)=I g:=by simp[eU]
def BZ{i:Nat}(h:i<I g):(eU g)[i]?=some (fc g i):=by simp[eU,h]
def fT{i:Nat}{l:aa}(h:g[i]?=some l):(fc g i).k=l:=by show g.getD i mw=l;rw[dC,h];rfl
def amA(f:Nat->bl)(e:Nat->ff):∀k a,(∀i,a<=i->i<a+k->(f i).i=e i/\(f i).o=e (i+1))->jj (e a) ((List.range' a k).map f) (e (a+k)):=by
 intro k
 induction k with
 |zero=>intro a _;rfl
 |succ k g=>intro a h;rw[List.range'_succ,eJ];obtain⟨j,H⟩:=h a (c3 _) J;refine⟨j,?_⟩;rw[H,show a+(k+1)=a+1+k by omega];exact g (a+1) λi n m=>h i J J
def Vm{R:bl->bl->Prop}{f:Nat->bl}(h:∀i j,i<n->j<n->i≠j->R (f i) (f j)):((List.range n).map f).Pairwise R:=zk.2 (Ua (λ{a b} H g F=>h a b (gN.1 H) (gN.1 g) F) (Cq (n:=n)))
section
variable {F:Nat} {g:ai}
def LY(f:cE F g){i:Nat}{w:aF}(h:(fz (bz g) (bt g))[i]?=some w)(H:x∈w):qq g x=i:=Ix (GG _ _).1 h H
def auZ(m:cE F g)(j:x<bt g):∃w,(fz (bz g) (bt g))[qq g x]?=some w/\x∈w:=by obtain⟨u,f,h⟩:=EE.1 ((GG (bz g) (bt g)).2 x j);obtain⟨i,H⟩:=j9 f;rw[LY m H h];exact⟨u,H,h⟩
def FU(j:cE F g)(H:x<bt g):qq g (bz g x)=qq g x:=by obtain⟨w,h,f⟩:=auZ j H;exact LY j h (w8 (qS j.ok) (bR h) f)
def WX(j:cE F g)(h:v<I g)(f:Bool):qq g (jF (I g) v f)=if f then(fc g v).i.l else(fc g v).o.r:=by cases f<;>rfl
def SC(f:Bool):qq g (eZ (I g) v f)=if f then(fc g v).o.l else(fc g v).i.r:=by cases f<;>rfl
def amc(f:cE F g):bN g (I g):=by unfold bN;rw[lA];have:=f.even;simp[this]
def RD(f:cE F g){i:Nat}(H:i<I g):(fc g i).i.b= !bN g i:=by
 show(!bN g ((i+I g-1)%I g+1))=_;by_cases h:i=0
 .subst h;rw[lq,jh J,show I g-1+1=I g by omega,amc f];rfl
 rw[show i+I g-1=(i-1)+I g by omega,v8,jh J,show i-1+1=i by omega]
def Jp(h:v<I g)(f:Bool):jF (I g) v f<bt g:=by have:=Bj h f;unfold bt;omega
def Tr(f:cE F g){l:aa}(hl:g[v]?=some l)(hp:l.aI):(fc g v).p.d=bN g v:=by show km g v=_;simp[km,hl,hp]
def FE(j:cE F g){i:Nat}(f:i<I g):zc F (fc g i):=by
 obtain⟨l,hl⟩:=aT f;have h:=fT hl;refine⟨by rw[h];exact j.bad l (bR hl),λH=>?_,λhp=>?_⟩
 .rw[h]at H;rw[RD j f];show _= !bN g (i+1);rw[Ks hl (by
   cases hp:l.aI
   .rfl
   rw[pR hp]at H;cases H)]
 rw[h]at hp;rw[RD j f,Tr j hl hp];refine⟨?_,rfl⟩;show(!bN g (i+1))=_;rw[FK hl hp,MK]
def O_(z:cE F g){i:Nat}(v:i<I g)(x:j<I g)(O:i≠j):lG (fc g i) (fc g j):=by
 obtain⟨l,hl⟩:=aT v;obtain⟨m,H⟩:=aT x;intro y M e;rw[fT hl]at y e;rw[fT H]at M e;obtain⟨_,hp⟩:=z.ids;obtain⟨D,B⟩:=hp i j l m hl H y M e O;obtain⟨N,w,E,R,L,wo,ws⟩:=qM z.ok.cr hl y;have h:i_ g i=j:=by refine Classical.byContradiction λZ=>?_;have A:=(hp _ _ w m E H R M (by rw[L,e]) Z).1;rw[wo]at A;revert D A;cases l.over<;>cases m.over<;>simp
 refine⟨?_,by rw[fT hl,fT H];exact B,?_⟩
 .rw[fT hl,fT H];revert D;cases l.over<;>cases m.over<;>simp
 rw[fT hl];have n:=FU z (Jp v true);have T:=FU z (Jp v false);have f:=FU z (Jp x true);have u:=FU z (Jp x false);rw[yB hl y,h,SC,WX z v]at n T;rw[yB H M,<-h,N,h,SC,WX z x]at f u;have Q:(m.over==(m.sign==1))= !gQ l:=by unfold gQ;rw[<-B];revert D;cases l.over<;>cases m.over<;>cases(l.sign==1)<;>simp
 rw[Q]at f u;have X:(l.over==(l.sign==1))=gQ l:=rfl;rw[X]at n T;cases Y:gQ l<;>rw[Y]at n T f u<;>simp at n T f u<;>constructor<;>simp[n,T,f,u]
def RX(j:cE F g){l:aa}(hl:g[v]?=some l)(hp:l.aI):CV (gL g) (gq g) (fc g v):=by
 have m:=(cn.1 hl).1;have ok:=j.ok;have gd:=ok.ax.fG l (bR hl) hp;obtain⟨g0,g1,r0,r1⟩:=gd;obtain⟨n,B⟩:=Fq ok hl hp;have A:=NP ok.ax hl hp;have L:hJ g l.gate.toNat+l.ay.toNat=(aE g).idxOf v+1:=by rw[A];unfold fD;omega
 have h:hJ g l.gate.toNat+(l.ay.toNat-1)=(aE g).idxOf v:=J;have z:(hJ g l.gate.toNat+l.ay.toNat+I (aE g)-1)%I (aE g)=(aE g).idxOf v:=by rw[L,show(aE g).idxOf v+1+I (aE g)-1=(aE g).idxOf v+I (aE g) by omega,v8,jh n]
 have H:=fT hl;have f:=Tr j hl hp;have N:∀k,k<I (aE g)->2*I g+2*k<bt g/\2*I g+2*k+1<bt g:=λk H=>by unfold bt;omega
 have D:=fk ((aE g).idxOf v+I (aE g)-1) (show 0<I (aE g) by omega);have u:=FU j (Jp m (bN g v));have y:=FU j (Jp m (!bN g v));have x:=FU j (N _ n).2;have Q:=FU j (N _ D).1;rw[GI hl hp,WX j m]at u y;rw[D1,B,SC]at x;rw[EY,xU n,B,SC]at Q;constructor
 .rw[H];unfold gL;rw[h];unfold bl.up;rw[f];cases E:bN g v<;>rw[E]at Q<;>exact Q
 .rw[H];unfold gL;rw[z];unfold bl.up;rw[f];cases E:bN g v<;>rw[E]at u<;>exact u.symm
 .rw[H];unfold gq;rw[h];unfold bl.lo;rw[f];cases E:bN g v<;>rw[E]at y<;>exact y.symm
 rw[H];unfold gq;rw[z];unfold bl.lo;rw[f];cases E:bN g v<;>rw[E]at x<;>exact x
def cE.cz(n:cE F g):jN F (eU g) (gL g) (gq g) (List.range (gC g)):=by
 have R:0<I g:=jH.2 n.ne;have M:∀x∈eU g,∃i,i<I g/\x=fc g i:=λx f=>by obtain⟨i,H,rfl⟩:=dY.1 f;exact⟨i,gN.1 H,rfl⟩
 have Y:hJ g (F+1)=I (aE g):=E4 λl hl hp=>((oX hp).1 (n.bad l hl)).1.1.1;have ae:=tX g F;have u:0<I (aE g):=by obtain⟨l,z,y⟩:=n.first;exact LS (uk.2 ⟨l,z,y⟩)
 have L:=n.ok.cr;unfold oo at L;simp only[c6,dk]at L;refine⟨⟨nx g (I g-1),?_⟩,λx f=>?_,Vm λi j H D B=>O_ n H D B,by rw[jK];exact L.1.1,λx f O=>?_,Vm λi j H D B=>?_,λx f hp=>?_,λx f hp=>?_,
  λk X=>?_,?_,?_,Cq,λs ae=>?_,?_⟩
 .have:=amA (fc g) (λi=>nx g ((i+I g-1)%I g)) (I g) 0 λi _ H=>⟨rfl,?_⟩
  .simp only[lq]at this;rw[jh J,show I g+I g-1=(I g-1)+I g by omega,v8,jh J,<-Xg]at this;exact this
  show nx g i=nx g ((i+1+I g-1)%I g);rw[show i+1+I g-1=i+I g by omega,v8,jh J]
 .obtain⟨i,H,rfl⟩:=M x f;exact FE n H
 .obtain⟨i,H,rfl⟩:=M x f;obtain⟨l,hl⟩:=aT H;rw[fT hl]at O |-;rw[jK];exact n.ids.1 l (bR hl) O
 .obtain⟨l,hl⟩:=aT H;obtain⟨m,u⟩:=aT D;intro pl v E A;rw[fT hl]at pl E A;rw[fT u]at v E A;exact B (n.ok.ax.inj i j l m hl u pl v ((GO (n.ok.ax.fG l (bR hl) pl) (n.ok.ax.fG m (bR u) v)).2 ⟨E,A⟩))
 .obtain⟨i,H,rfl⟩:=M x f;obtain⟨l,hl⟩:=aT H;rw[fT hl]at hp |-;rw[jK];obtain⟨_,_,r0,r1⟩:=n.ok.ax.fG l (bR hl) hp;exact⟨r0,r1⟩
 .obtain⟨i,H,rfl⟩:=M x f;obtain⟨l,hl⟩:=aT H;rw[fT hl]at hp;exact RX n hl hp
 .rw[jK];unfold gL gq;rw[tX g k,vu];exact⟨rfl,rfl⟩
 .rw[jK];unfold gL gq;have E:hJ g F+bU g F=I (aE g):=J;have Q:hJ g 0=0:=rfl;rw[E,Q,lq,show(aE g).length+I (aE g)-1=(I (aE g)-1)+I (aE g) by omega,v8];exact⟨rfl,rfl⟩
 .obtain⟨l,z,y⟩:=n.first;exact⟨fc g 0,bR (BZ R),by rw[fT z];exact y⟩
 .obtain⟨w,N⟩:=aT (gN.1 ae);obtain⟨⟨d,t,e,T⟩,_⟩:=yh n.ok w (bR N);have hp:qq g d=s:=LY n N (by rw[e];simp);refine⟨fc g (d/2),bR (BZ J),?_⟩;rcases tD d with h|h
  .refine .inl ?_;show s=qq g (2*(d/2));rw[show 2*(d/2)=d by omega,hp]
  refine .inr ?_;show s=qq g (2*(d/2)+1);rw[show 2*(d/2)+1=d by omega,hp]
 rw[jK,xi,n.nw];omega
end
structure me (F:Nat) (z:gW) (T B:Nat->Nat->Nat):Prop where
 ok:∀x∈z,zc F x
 cr:z.Pairwise lG
 ev:an aa.aB (aZ z)%2=0
 ids:∀x∈z,x.k.aB->1<=x.k.id/\x.k.id<=((an aa.aB (aZ z)/2:Nat):Int)
 rk:z.Pairwise zG
 rr:∀x∈z,x.k.aI->1<=x.k.ay/\x.k.ay<=(bU (aZ z) x.k.gate.toNat:Int)
 pl:∀x∈z,x.k.aI->CV T B x
 gt:∀g,g<F->T g (bU (aZ z) g)=T (g+1) 0/\B g (bU (aZ z) g)=B (g+1) 0
 gz:T F (bU (aZ z) F)=T 0 0/\B F (bU (aZ z) F)=B 0 0
def ff.mp(m:Nat->Nat)(s:ff):ff:=⟨m s.l,m s.r,s.b⟩
def bl.mp(m:Nat->Nat)(h:aa->aa)(x:bl):bl:=⟨⟨h x.p.l,x.p.d⟩,x.i.mp m,x.o.mp m⟩
def s6.mp{g:Bool}{i o j q:ff}(h:s6 g i o j q)(m:Nat->Nat):s6 g (i.mp m) (o.mp m) (j.mp m) (q.mp m):=by obtain⟨a,b,c,d⟩:=h;cases g<;>simp only[eI,if_false,if_true]at a b c d<;>constructor<;>simp[ff.mp,a,b,c,d]
def aje(m:Nat->Nat)(h:aa->aa)(x:bl):(x.mp m h).up=x.up.mp m:=by unfold bl.up bl.mp;cases x.p.d<;>rfl
def alA(m:Nat->Nat)(h:aa->aa)(x:bl):(x.mp m h).lo=x.lo.mp m:=by unfold bl.lo bl.mp;cases x.p.d<;>rfl
def Hs:∀ {z:gW}{s t:ff},jj s z t->jj (s.mp m) (z.map (bl.mp m h)) (t.mp m):=by
 intro z
 induction z with
 |nil=>intro s t e;cases e;rfl
 |cons x z f=>intro s t e;obtain⟨rfl,e⟩:=e;exact⟨rfl,f e⟩
def amq{S L:aF}(H:S.Nodup):I S<=I (S.filter λs=> !L.contains s)+I L:=by
 have g:I S=I (S.filter λs=> !L.contains s)+I (S.filter λs=>L.contains s):=by have:=List.length_eq_countP_add_countP (λs=> !L.contains s) (l:=S);rw[P4,P4]at this;rw[this];congr 2;apply List.filter_congr;intro x _;simp
 have f:=KW (S.filter λs=>L.contains s) L (H.filter _) λx h=>by simpa using(rY.1 h).2
 omega
structure AE (h:aa->aa):Prop where
 kind:∀l,(h l).kind=l.kind
 over:∀l,(h l).over=l.over
 sign:∀l,(h l).sign=l.sign
def AE.aI(s:AE h)(l:aa):(h l).aI=l.aI:=by unfold aa.aI;rw[s.kind]
def AE.aB(s:AE h)(l:aa):(h l).aB=l.aB:=by unfold aa.aB;rw[s.kind]
def AE.id:AE id:=⟨λ_=>rfl,λ_=>rfl,λ_=>rfl⟩
section
variable {F:Nat} {X r A:gW} {T B E D:Nat->Nat->Nat} {S:aF} {m:Nat->Nat} {h:aa->aa}
def jN.q{z:gW}(c:jN F z T B S):me F z T B:=⟨c.ok,c.cr,c.ev,c.ids,c.rk,c.rr,c.pl,c.gt,c.gz⟩
def me.perm{z Z:gW}(c:me F z T B)(f:z.Perm Z):me F Z T B:=by
 have H:∀ {x},x∈Z↔x∈z:=λ{x}=>f.symm.mem_iff;have e:∀p,an p (aZ Z)=an p (aZ z):=λp=>(Al f).symm;have E:∀g,bU (aZ Z) g=bU (aZ z) g:=λg=>e _;exact⟨λx h=>c.ok x (H.1 h),(f.pairwise_iff λ{x y}=>lG.symm).1 c.cr,by rw[e];exact c.ev,λx h=>by rw[e];exact c.ids x (H.1 h),(f.pairwise_iff λ{x y}=>zG.symm).1 c.rk,
  λx h=>by rw[E];exact c.rr x (H.1 h),λx h=>c.pl x (H.1 h),λg j=>by rw[E];exact c.gt g j,by rw[E];exact c.gz⟩
def zc.mp{x:bl}(o:zc F x)(s:AE h)(H:ek F (h x.k)=false):zc F (x.mp m h):=by
 refine⟨H,λf=>?_,λhp=>?_⟩
 .exact o.cb (by rw[<-s.aB];exact f)
 exact o.pb (by rw[<-s.aI];exact hp)
def me.edit(q:me F (X++r) T B)(s:AE h)(hb:∀x∈r,ek F (h x.k)=false)
  (O:∀x∈r,∀y∈r,x.k.aB->y.k.aB->(h x.k).id=(h y.k).id->x.k.id=y.k.id)
  (jZ:∀x∈r,∀y∈r,x.k.aI->y.k.aI->(h x.k).gate=(h y.k).gate->(h x.k).ay=(h y.k).ay->x.k.gate=y.k.gate/\x.k.ay=y.k.ay)
  (n1:∀x∈A,zc F x) (n2:A.Pairwise lG) (n3:A.Pairwise zG) (n4:∀x∈A,∀y∈r,lG x (y.mp m h)) (n5:∀x∈A,∀y∈r,zG x (y.mp m h))
  (ev:an aa.aB (aZ (A++r.map (bl.mp m h)))%2=0)
  (ids:∀x∈A,x.k.aB->1<=x.k.id/\x.k.id<=((an aa.aB (aZ (A++r.map (bl.mp m h)))/2:Nat):Int))
  (z:∀x∈r,x.k.aB->1<=(h x.k).id/\(h x.k).id<=((an aa.aB (aZ (A++r.map (bl.mp m h)))/2:Nat):Int))
  (rr:∀x∈A,x.k.aI->1<=x.k.ay/\x.k.ay<=(bU (aZ (A++r.map (bl.mp m h))) x.k.gate.toNat:Int))
  (R:∀x∈r,x.k.aI->1<=(h x.k).ay/\(h x.k).ay<=(bU (aZ (A++r.map (bl.mp m h))) (h x.k).gate.toNat:Int))
  (pl:∀x∈A,x.k.aI->CV E D x)
  (M9:∀x∈r,x.k.aI->(m (T x.k.gate.toNat (x.k.ay.toNat-1))=E (h x.k).gate.toNat ((h x.k).ay.toNat-1)/\m (B x.k.gate.toNat (x.k.ay.toNat-1))=D (h x.k).gate.toNat ((h x.k).ay.toNat-1))/\m (T x.k.gate.toNat x.k.ay.toNat)=E (h x.k).gate.toNat (h x.k).ay.toNat/\m (B x.k.gate.toNat x.k.ay.toNat)=D (h x.k).gate.toNat (h x.k).ay.toNat)
  (gt:∀g,g<F->E g (bU (aZ (A++r.map (bl.mp m h))) g)=E (g+1) 0/\D g (bU (aZ (A++r.map (bl.mp m h))) g)=D (g+1) 0)
  (gz:E F (bU (aZ (A++r.map (bl.mp m h))) F)=E 0 0/\D F (bU (aZ (A++r.map (bl.mp m h))) F)=D 0 0):me F (A++r.map (bl.mp m h)) E D:=by
 have Q:=(Ju.1 q.cr).2.1;have L:=(Ju.1 q.rk).2.1;have M:∀x∈A++r.map (bl.mp m h),x∈A\/ ∃y∈r,x=y.mp m h:=λx H=>by
  rcases iW.1 H with H|H
  .exact .inl H
  obtain⟨y,f,rfl⟩:=dY.1 H;exact .inr ⟨y,f,rfl⟩
 have u:∀y∈r,y∈X++r:=λy f=>Aw _ f;refine⟨λx H=>?_,?_,ev,λx H j=>?_,?_,λx H hp=>?_,λx H hp=>?_,gt,gz⟩
 .rcases M x H with H|⟨y,f,rfl⟩
  .exact n1 x H
  exact(q.ok y (u y f)).mp s (hb y f)
 .refine Ju.2 ⟨n2,zk.2 (Q.imp_of_mem λ{x y} H f N j n e=>?_),λx H y f=>?_⟩
  .have j:x.k.aB:=by rw[<-s.aB];exact j
   have n:y.k.aB:=by rw[<-s.aB];exact n
   obtain⟨h1,h2,h3⟩:=N j n (O x H y f j n e);refine⟨?_,?_,?_⟩
   .show(h x.k).over= !(h y.k).over;rw[s.over,s.over];exact h1
   .show(h x.k).sign=(h y.k).sign;rw[s.sign,s.sign];exact h2
   have:gQ (x.mp m h).k=gQ x.k:=by show((h x.k).over==((h x.k).sign==1))=_;rw[s.over,s.sign];rfl
   rw[this];exact h3.mp m
  obtain⟨w,v,rfl⟩:=dY.1 f;exact n4 x H w v
 .rcases M x H with H|⟨y,f,rfl⟩
  .exact ids x H j
  exact z y f (by rw[<-s.aB];exact j)
 .refine Ju.2 ⟨n3,zk.2 (L.imp_of_mem λ{x y} H f N j n e1 e2=>?_),λx H y f=>?_⟩
  .have j:x.k.aI:=by rw[<-s.aI];exact j
   have n:y.k.aI:=by rw[<-s.aI];exact n
   obtain⟨f1,f2⟩:=jZ x H y f j n e1 e2;exact N j n f1 f2
  obtain⟨w,v,rfl⟩:=dY.1 f;exact n5 x H w v
 .rcases M x H with H|⟨y,f,rfl⟩
  .exact rr x H hp
  exact R y f (by rw[<-s.aI];exact hp)
 rcases M x H with H|⟨y,f,rfl⟩
 .exact pl x H hp
 have hp:y.k.aI:=by rw[<-s.aI];exact hp
 obtain⟨p1,p2,Y,Z⟩:=q.pl y (u y f) hp;obtain⟨⟨a1,a2⟩,a3,a4⟩:=M9 y f hp;constructor
 .rw[aje];show m y.up.r=_;rw[p1];exact a1
 .rw[aje];show m y.up.l=_;rw[p2];exact a3
 .rw[alA];show m y.lo.r=_;rw[Y];exact a2
 rw[alA];show m y.lo.l=_;rw[Z];exact a4
def me.done{l:cX}{z:gW}{L N:aF}{V:Nat}(q:me F (A++r.map (bl.mp m h)) E D)(O:S.Nodup)(wit:∀s∈S,∃x∈X++r,s=x.o.l\/s=x.o.r)
  (u:z.Perm (A++r.map (bl.mp m h))) (M:∃s,jj s z s) (hl:z.map bl.p=l) (one:∃x∈A++r.map (bl.mp m h),x.k.aI)
  (B:∀s∈S,s∉L->m s=s) (Y:∀x∈X,∀s∈S,(s=x.o.l\/s=x.o.r)->s∉L->∃y∈A++r.map (bl.mp m h),s=y.o.l\/s=y.o.r)
  (hN:N.Nodup) (g:∀s∈N,s∉S) (n:∀s∈N,∃y∈A++r.map (bl.mp m h),s=y.o.l\/s=y.o.r)
  (hS:V<=I S) (num:an aa.aI (aZ (A++r.map (bl.mp m h)))+an aa.aB (aZ (A++r.map (bl.mp m h)))/2+1+I L<=V+I N):lL F l:=by
 have Q:=q.perm u.symm;have R:∀ {x},x∈z↔x∈A++r.map (bl.mp m h):=λ{x}=>u.mem_iff;refine⟨z,E,D,N++S.filter (λs=> !L.contains s),hl,⟨M,Q.ok,Q.cr,Q.ev,Q.ids,Q.rk,Q.rr,Q.pl,Q.gt,Q.gz,?_,?_,λs ae=>?_,?_⟩⟩
 .obtain⟨x,H,e⟩:=one;exact⟨x,R.2 H,e⟩
 .refine Cc.2 ⟨hN,O.filter _,λa ha b T e=>?_⟩;subst e;exact g a ha (rY.1 T).1
 .have v:∃y∈A++r.map (bl.mp m h),s=y.o.l\/s=y.o.r:=by
   rcases iW.1 ae with ae|ae
   .exact n s ae
   obtain⟨j,f⟩:=rY.1 ae;have f:s∉L:=by simpa using f
   obtain⟨x,H,e⟩:=wit s j;rcases iW.1 H with H|H
   .exact Y x H s j e f
   refine⟨x.mp m h,Aw _ (dY.2 ⟨x,H,rfl⟩),?_⟩;have hp:=B s j f;rcases e with e|e
   .left;show s=m x.o.l;rw[<-e,hp]
   right;show s=m x.o.r;rw[<-e,hp]
  obtain⟨y,Z,e⟩:=v;exact⟨y,R.2 Z,e⟩
 have e:∀p,an p (aZ z)=an p (aZ (A++r.map (bl.mp m h))):=λp=>Al u;rw[e,e,gT];have:=amq (L:=L) O;omega
end
def azg(x:bl):x.mp id id=x:=rfl
def DB(r:gW):r.map (bl.mp id id)=r:=by rw[show(bl.mp id id)=id from funext λx=>azg x,List.map_id]
def td(p:aa->Bool)(a b:gW):an p (aZ (a++b))=an p (aZ a)+an p (aZ b):=by show List.countP p (List.map _ _)=List.countP p (List.map _ _)+List.countP p (List.map _ _);rw[kP,um]
def gP(p:aa->Bool)(x:bl)(b:gW):an p (aZ (x::b))=(if p x.k then 1 else 0)+an p (aZ b):=by show List.countP p (List.map _ _)=_+List.countP p (List.map _ _);rw[eJ,tA,N3]
def te(p:aa->Bool):an p (aZ [])=0:=rfl
def vJ{p:aa->Bool}(hp:∀l,p (h l)=p l)(r:gW):an p (aZ (r.map (bl.mp m h)))=an p (aZ r):=by
 induction r with
 |nil=>rfl
 |cons x r f=>rw[eJ,gP,gP,f];show(if p (h x.k)then 1 else 0)+_=_;rw[hp]
def AN{l:aa}(g:Nat)(h:l.aB):oQ g l=false:=by
 unfold oQ;cases hp:l.aI
 .rfl
 rw[pR hp]at h;cases h
def oi{l:aa}(h:l.aB):l.aI=false:=by
 cases hp:l.aI
 .rfl
 rw[pR hp]at h;cases h
def acT{x y:bl}(h:x.k.aB=false):lG x y:=λH=>by rw[h]at H;cases H
def HN{x y:bl}(h:x.k.aB):zG x y:=λhp=>by rw[oi h]at hp;cases hp
def av7{α:Type}{z:List α}{a:Nat}(A:a<I z)(D:2<=I z):∃x y r,z.drop a++z.take a=x::y::r/\z[a]?=some x/\z[(a+1)%I z]?=some y:=by
 obtain⟨x,j⟩:=aT A;obtain⟨hl,e⟩:=cn.1 j;have m:z.drop a=x::z.drop (a+1):=by rw[<-e,tj]
 by_cases c:a+1<I z
 .obtain⟨y,H⟩:=aT c;obtain⟨F,E⟩:=cn.1 H;have Y:z.drop (a+1)=y::z.drop (a+1+1):=by rw[<-E,tj]
  exact⟨x,y,z.drop (a+1+1)++z.take a,by rw[m,Y];rfl,j,by rw[jh c];exact H⟩
 have B:a+1=I z:=J;obtain⟨y,H⟩:=aT (L:=z) (k:=0) J;have Y:z.drop (a+1)=[]:=List.drop_eq_nil_of_le J;have n:z.take a=y::(z.take a).drop 1:=by
  have u:(z.take a)[0]?=some y:=by rw[nE,aD J];exact H
  obtain⟨f,v⟩:=cn.1 u;have:=tj (h:=f);rw[v,Lm]at this;exact this.symm
 refine⟨x,y,(z.take a).drop 1,?_,j,by rw[B,zu];exact H⟩;rw[m,Y]
 conv=>lhs;rw[n]
 rfl
section
variable {F:Nat} {g:ai}
def qc{l:aa}(h:l.aB):(if aa.aB l=true then 1 else 0)=1/\(if aa.aI l=true then 1 else 0)=0:=by simp[h,oi h]
def zN{l:aa}(h:l.aI):(if aa.aB l=true then 1 else 0)=0/\(if aa.aI l=true then 1 else 0)=1:=by simp[h,pR h]
def asQ(ab:cE F g){a:Nat}(ha:a<I g){sg:Int}{o:Bool}(ae:sg=1\/sg= -1):lL F (Fg g a sg o):=by
 have c:=ab.cz;have j:=jK g;obtain⟨s,hp⟩:=c.path;have Q:eU g=(eU g).take (a+1)++(eU g).drop (a+1):=(nu ..).symm;rw[Q]at hp;obtain⟨m,qC,pZ⟩:=zh.1 hp
 let N:Int:=((an aa.aB g/2+1:Nat):Int)
 let k:ff:=if o==(sg==1)then⟨m.r,gC g,m.b⟩else⟨gC g,m.l,m.b⟩
 let x:bl:=⟨⟨⟨2,0,0,N,sg,o⟩,false⟩,m,k⟩
 let y:bl:=⟨⟨⟨2,0,0,N,sg,!o⟩,false⟩,k,m⟩
 have T:k.b=m.b:=by show(if _ then _ else _:ff).b=_;split<;>rfl
 have n:x.k.aB:=rfl;have z:y.k.aB:=rfl;have Ih:(sg !=1&&sg != -1)=false:=by rcases ae with rfl|rfl<;>decide
 have O:∀ov,ek F ⟨2,0,0,N,sg,ov⟩=false:=λov=>by simp[ek];simpa using Ih
 have B:an aa.aB (aZ ([x,y]++(eU g).map (bl.mp id id)))=an aa.aB g+2:=by rw[DB,td,gP,gP,te,j,(qc n).1,(qc z).1];omega
 have Y:an aa.aI (aZ ([x,y]++(eU g).map (bl.mp id id)))=an aa.aI g:=by rw[DB,td,gP,gP,te,j,(qc n).2,(qc z).2];omega
 have M:∀q,bU (aZ ([x,y]++(eU g).map (bl.mp id id))) q=bU g q:=λq=>by show an _ _=an _ _;rw[DB,td,gP,gP,te,j,AN q n,AN q z];simp
 have ev:=c.ev;rw[j]at ev;have Dc:y7 x y:=by
  refine⟨by show o= !!o;simp,rfl,?_⟩;show s6 (o==(sg==1)) m k k m;cases A:(o==(sg==1))
  .have:k=⟨gC g,m.l,m.b⟩:=by show(if _ then _ else _:ff)=_;rw[A];rfl
   rw[this];constructor<;>rfl
  have:k=⟨m.r,gC g,m.b⟩:=by show(if _ then _ else _:ff)=_;rw[A];rfl
  rw[this];constructor<;>rfl
 have R:∀w∈eU g,w.k.aB->1<=w.k.id/\w.k.id<=((an aa.aB g/2:Nat):Int):=λw H D=>by have:=c.ids w H D;rwa[j]at this
 have q:me F ([x,y]++(eU g).map (bl.mp id id)) (gL g) (gq g):=by
  refine me.edit (X:=[]) (r:=eU g) c.q AE.id (λw H=>(c.ok w H).bad) (λ_ _ _ _ _ _ e=>e) (λ_ _ _ _ _ _ e f=>⟨e,f⟩) (λw H=>?_) ?_ ?_ (λu v w H=>?_) (λu v w H=>?_) (by rw[B];omega) (λw H D=>?_) (λw H D=>?_) (λw H hp=>?_) (λw H hp=>?_) (λw H hp=>?_) (λw H hp=>⟨⟨rfl,rfl⟩,rfl,rfl⟩) (λg' A=>?_) ?_
  .simp only[dr,ic,or_false]at H;rcases H with rfl|rfl
   .exact⟨O o,λ_=>T.symm,λh=>by cases h⟩
   exact⟨O (!o),λ_=>T,λh=>by cases h⟩
  .exact ot.2 ⟨λw H=>by simp only[dr,ic,or_false]at H;subst H;exactλ_ _ _=>Dc,IM ..⟩
  .exact ot.2 ⟨λw H=>HN n,IM ..⟩
  .intro E Z e;have gJ:=R w H Z;simp only[dr,ic,or_false]at v;have:u.k.id=N:=by rcases v with rfl|rfl<;>rfl
   have e:u.k.id=w.k.id:=e;exfalso;omega
  .simp only[dr,ic,or_false]at v;rcases v with rfl|rfl
   .exact HN n
   exact HN z
  .rw[B];simp only[dr,ic,or_false]at H;have:w.k.id=N:=by rcases H with rfl|rfl<;>rfl
   omega
  .rw[B];have gJ:=R w H D;simp only[id];omega
  .simp only[dr,ic,or_false]at H;rcases H with rfl|rfl<;>cases hp
  .rw[M];have:=c.rr w H hp;rwa[j]at this
  .simp only[dr,ic,or_false]at H;rcases H with rfl|rfl<;>cases hp
  .have:=c.gt g' A;rw[j]at this;rw[M];exact this
  have:=c.gz;rw[j]at this;rw[M];exact this
 refine me.done (X:=[]) (L:=[]) (N:=[gC g]) (V:=gC g) (z:=(eU g).take (a+1)++[x,y]++(eU g).drop (a+1)) q c.nd (λs ae=>c.wit s ae) ?_ ⟨s,?_⟩ ?_ ?_ (λ_ _ _=>rfl) (λx hx=>by cases hx) (nR.2 ⟨ic,qF⟩) (λs ae=>?_) (λs ae=>?_) (by rw[xi];exact c3 _) ?_
 .rw[DB];have E:((eU g).take (a+1)++[x,y]++(eU g).drop (a+1)).Perm ([x,y]++(eU g).take (a+1)++(eU g).drop (a+1)):=VY _ KX;rw[sn [x,y],<-Q]at E;exact E
 .exact zh.2 ⟨m,zh.2 ⟨m,qC,rfl,rfl,rfl⟩,pZ⟩
 .rw[kP,kP,uJ,u_,xV];rfl
 .obtain⟨w,H,e⟩:=c.one;rw[DB];exact⟨w,Aw _ H,e⟩
 .simp only[dr,ic,or_false]at ae;subst ae;simp
 .simp only[dr,ic,or_false]at ae;subst ae;refine⟨x,aP,?_⟩;show gC g=k.l\/gC g=k.r;show gC g=(if _ then _ else _:ff).l\/gC g=(if _ then _ else _:ff).r;split
  .exact .inr rfl
  exact .inl rfl
 rw[B,Y];have:=ab.nw;simp only[fU,dW];omega
end
def j_(ids:dd)(l:aa):aa:=if l.kind==2 then{l with id:=l.id-((ids.take (I ids)).countP (λi=>decide (i<l.id)):Nat)}else l
def Cb(ids:dd):AE (j_ ids):=by refine⟨λl=>?_,λl=>?_,λl=>?_⟩<;>unfold j_<;>split<;>rfl
def age(ids:dd)(p:aR):qh ids p=⟨j_ ids p.l,p.d⟩:=by unfold qh j_ mr;split<;>rfl
def Ci{ids:dd}{l:aa}(h:l.aI):j_ ids l=l:=by unfold j_;have:=pR h;unfold aa.aB at this;rw[aC (by rw[this];decide)]
def anu{ids:dd}{l:aa}(h:ek F l=false):ek F (j_ ids l)=false:=by
 rcases Dg h with hp|H
 .rw[Ci hp];exact h
 have n:(j_ ids l).aB:=by rw[(Cb ids).aB];exact H
 rw[Ou H]at h;rw[Ou n];unfold j_;split<;>exact h
def afz(ids:dd)(g:Nat)(l:aa):oQ g (j_ ids l)=oQ g l:=by
 cases hp:l.aI
 .unfold oQ;rw[(Cb ids).aI,hp];rfl
 rw[Ci hp]
def agD{ids:dd}{l:aa}(h:l.aB):(j_ ids l).id=l.id-((ids.countP λi=>decide (i<l.id):Nat):Int):=by unfold j_;unfold aa.aB at h;rw[aD h,lA]
def akQ{l:cX}{drop:Nat->aR->Bool}{d:aR->Bool}(h:∀i p,drop i p=d p):oa l drop=l.filter λp=> !d p:=by
 have f:∀k,k<=I l->uY l drop k=(l.take k).filter λp=> !d p:=by
  intro k
  induction k with
  |zero=>intro _;rfl
  |succ k j=>
   intro m;obtain⟨p,hp⟩:=aT (L:=l) (k:=k) J;rw[jT,hp,Js,<-j J];cases H:d p
   .rw[QD hp (by rw[h];exact H)];simp[H]
   rw[GY hp (by rw[h];exact H)];simp[H]
 unfold oa;rw[f _ (c3 _),lA]
def TF:∀ {z:gW}{s t:ff},jj s z t->z≠[]->∃w∈z,w.o=t:=by
 intro z
 induction z with
 |nil=>intro s t _ h;exact absurd rfl h
 |cons x z f=>
  intro s t h _;obtain⟨_,h⟩:=h;cases z with
  |nil=>cases h;exact⟨x,aP,rfl⟩
  |cons y z=>obtain⟨w,H,e⟩:=f h aP;exact⟨w,yc _ H,e⟩
section
variable {F:Nat} {g:ai}
def aqd{x y:bl}{r:gW}(q:me F (x::y::r) T B)(g:x.k.aB)(m:y.k.aB)(e:x.k.id=y.k.id):∀w∈r,w.k.aB->w.k.id≠x.k.id:=by intro w h j E;obtain⟨f,u⟩:=ot.1 q.cr;obtain⟨n,_⟩:=ot.1 u;have a:=(f y aP g m e).ov;have b:=(f w (by simp[h]) g j E.symm).ov;have d:=(n w h m j (by rw[<-e,E])).ov;rw[b]at a;rw[d]at a;revert a;cases w.k.over<;>simp
def ac0(f:cE F g){a:Nat}(n:a<I g):∃x y r s,(eU g).drop a++(eU g).take a=x::y::r/\(aQ g)[a]?=some x.p/\(aQ g)[aJ g a]?=some y.p/\
  jN F (x::y::r) (gL g) (gq g) (List.range (gC g))/\jj s (x::y::r) s/\(aQ g).drop a++(aQ g).take a=(x::y::r).map bl.p/\(eU g)[a]?=some x/\(eU g)[aJ g a]?=some y/\(x::y::r).Perm (eU g):=by
 have m:2<=I g:=by obtain⟨l,j,hp⟩:=f.first;have:=f.even;have:0<an aa.aI g:=At.2 ⟨l,bR j,hp⟩;have:=o7 aa.aI g;omega
 have hl:=Ay g;obtain⟨x,y,r,e,H,h⟩:=av7 (z:=eU g) (a:=a) J J;rw[hl]at h;have c:jN F ((eU g).drop a++(eU g).take a) (gL g) (gq g) (List.range (gC g)):=by refine jN.nN ?_;rw[nu];exact f.cz
 rw[e]at c;obtain⟨s,ae⟩:=c.path;refine⟨x,y,r,s,e,?_,?_,c,ae,?_,H,h,?_⟩
 .rw[<-xV,ig,H];rfl
 .rw[<-xV,ig,h];rfl
 .rw[<-e,kP,u_,uJ,xV]
 rw[<-e];exact KX.trans (by rw[nu])
def ag5{a:Nat}{d:aR->Bool}{f:aR->aR}(c:lL F ((((aQ g).drop a++(aQ g).take a).filter d).map f)):lL F (((aQ g).filter d).map f):=by rw[Js,kP]at c;have:=c.nN;rwa[<-kP,<-Js,nu]at this
def amn{l:aa}:l.aB=(l.kind==2):=rfl
def ams{α:Type}{l:List α}{p:α->Bool}(h:∀x∈l,p x):l.filter p=l:=List.filter_eq_self.2 h
def aB2(ak:cE F g){a:Nat}(ha:a<I g){L:cX}(h:Cr g a=some L):lL F L:=by
 obtain⟨x,y,r,s,e,hx,hy,c,hp,Mq,_,_,kL⟩:=ac0 ak ha;have q:=c.q;unfold Cr at h;have e1:(aQ g).getD a ⟨mw,false⟩=x.p:=by rw[dC,hx];rfl
 have e2:(aQ g).getD ((a+1)%I g) ⟨mw,false⟩=y.p:=by rw[dC,hy];rfl
 simp only[e1,e2]at h;split at h
 case isFalse=>cases h
 rename_i Y;simp only[c6,dk]at Y;obtain⟨lQ,lz,ac⟩:=Y;have B:x.k.aB:=by rw[amn];simp[lQ]
 have D:y.k.aB:=by rw[amn];simp[lz]
 have vR:x.k.id=y.k.id:=ac;cases h;have T1:=aqd q B D vR;have nM:y7 x y:=(ot.1 q.cr).1 y aP B D vR;obtain⟨lS,iO,vU⟩:=hp
 have ix:=(q.ok x aP).cb B;have iy:=(q.ok y aP).cb D;have M:=nM.x4;rw[lS,iO]at M;rw[lS]at ix;rw[iO]at iy;have ab:y.o=s:=by
  obtain⟨Z,k2,Q,k4⟩:=M;have hb:y.o.b=s.b:=by rw[<-iy,<-ix]
  cases y with
  |mk yp yi yo=>
  cases yo with
  |mk l r b=>
  cases s with
  |mk sl sr sb=>
  cases hg:gQ x.k<;>rw[hg]at Z k2 Q k4<;>simp only[eI,if_false,if_true]at Z k2 Q k4 hb<;>simp_all
 rw[ab]at vU;have E:∃b,(s.r=b\/s.l=b)/\ ∀t,(t=x.o.l\/t=x.o.r)->t=s.l\/t=s.r\/t=(if gQ x.k then x.o.r else x.o.l):=by
  obtain⟨Z,k2,Q,k4⟩:=M;refine⟨s.r,.inl rfl,?_⟩;cases hg:gQ x.k<;>rw[hg]at Z k2 Q k4<;>simp only[eI,if_false,if_true]at Z k2 Q k4 |-
  .rintro t (rfl|rfl)
   .exact .inr (.inr rfl)
   exact .inl Z.symm
  rintro t (rfl|rfl)
  .exact .inr (.inl Q)
  exact .inr (.inr rfl)
 obtain⟨_,_,E⟩:=E;have ez:=q.ev;have CB:∀z:gW,an aa.aB (aZ (x::y::z))=an aa.aB (aZ z)+2:=λz=>by rw[gP,gP,(qc B).1,(qc D).1];omega
 have Jz:∀z:gW,an aa.aI (aZ (x::y::z))=an aa.aI (aZ z):=λz=>by rw[gP,gP,(qc B).2,(qc D).2];omega
 have Be:∀(z:gW) k,bU (aZ (x::y::z)) k=bU (aZ z) k:=λz k=>by show an _ _=an _ _;rw[gP,gP,AN k B,AN k D];simp
 have mC:an aa.aB (aZ (r.map (bl.mp id (j_ [x.k.id]))))=an aa.aB (aZ r):=vJ (λl=>(Cb _).aB l) r;have mP:an aa.aI (aZ (r.map (bl.mp id (j_ [x.k.id]))))=an aa.aI (aZ r):=vJ (λl=>(Cb _).aI l) r;have mG:∀k,bU (aZ (r.map (bl.mp id (j_ [x.k.id])))) k=bU (aZ r) k:=λk=>vJ (λl=>afz _ k l) r;have f:∀w∈r,w.k.aB->(j_ [x.k.id] w.k).id=if x.k.id<w.k.id then w.k.id-1 else w.k.id:=λw H Y=>by
  rw[agD Y];by_cases c:x.k.id<w.k.id
  .simp[c]
  simp[c]
 have Mi:∀w∈x::y::r,w.k.aB->1<=w.k.id/\w.k.id<=((an aa.aB (aZ r)/2:Nat):Int)+1:=λw H Y=>by have:=q.ids w H Y;rw[CB]at this;omega
 have hr:r≠[]:=by
  obtain⟨w,H,n⟩:=c.one;rintro rfl
  simp only[dr,ic,or_false]at H;rcases H with rfl|rfl
  .rw[oi B]at n;cases n
  rw[oi D]at n;cases n
 have inr:∀w∈r,w∈x::y::r:=λw H=>by simp[H]
 have qn:me F ([]++r.map (bl.mp id (j_ [x.k.id]))) (gL g) (gq g):=by
  refine me.edit (X:=[x,y]) (r:=r) q (Cb _) (λw H=>anu (q.ok w (inr w H)).bad) (λu j v hv R cv e=>?_) (λu j v hv T pv e1 e2=>?_) (λ_ h=>by cases h) List.Pairwise.nil List.Pairwise.nil (λ_ h=>by cases h) (λ_ h=>by cases h) ?_ (λ_ h=>by cases h) (λu j R=>?_) (λ_ h=>by cases h) (λu j T=>?_) (λ_ h=>by cases h) (λu j T=>?_) (λk M=>?_) ?_
  .have h1:=T1 u j R;have h2:=T1 v hv cv;rw[f u j R,f v hv cv]at e;split at e<;>split at e<;>omega
  .rw[Ci T,Ci pv]at e1 e2;exact⟨e1,e2⟩
  .rw[iZ,mC];rw[CB]at ez;omega
  .rw[iZ,mC,f u j R];have h1:=Mi u (inr u j) R;have h2:=T1 u j R;have h3:=Mi x aP B;split<;>omega
  .rw[iZ,Ci T,mG,<-Be r];exact q.rr u (inr u j) T
  .rw[Ci T];exact⟨⟨rfl,rfl⟩,rfl,rfl⟩
  .rw[iZ,mG,<-Be r];exact q.gt k M
  rw[iZ,mG,<-Be r];exact q.gz
 have Pv:lL F (r.map λw=>qh [x.k.id] w.p):=by
  refine me.done (X:=[x,y]) (r:=r) (A:=[]) (L:=[if gQ x.k then x.o.r else x.o.l]) (N:=[]) (V:=gC g) (z:=r.map (bl.mp id (j_ [x.k.id]))) qn c.nd (λt O=>c.wit t O) (List.Perm.refl _) ⟨s,Hs (m:=id) vU⟩ ?_ ?_ (λ_ _ _=>rfl) (λw H t O ew hL=>?_) qF (λt O=>by cases O) (λt O=>by cases O) (by rw[xi];exact c3 _) ?_
  .rw[nU];refine xx λw _=>?_;rw[age];rfl
  .obtain⟨w,H,n⟩:=c.one;simp only[dr]at H;rcases H with rfl|rfl|H
   .rw[oi B]at n;cases n
   .rw[oi D]at n;cases n
   refine⟨w.mp id (j_ [x.k.id]),?_,?_⟩
   .rw[iZ];exact dY.2 ⟨w,H,rfl⟩
   show(j_ [x.k.id] w.k).aI=true;rw[(Cb _).aI];exact n
  .obtain⟨v,hv,ad⟩:=TF vU hr;have ag:t=s.l\/t=s.r:=by
    simp only[dr,ic,or_false]at H hL;rcases H with rfl|rfl
    .rcases E t ew with h|h|h
     .exact .inl h
     .exact .inr h
     exact absurd h hL
    rw[ab]at ew;exact ew
   refine⟨v.mp id (j_ [x.k.id]),by rw[iZ];exact dY.2 ⟨v,hv,rfl⟩,?_⟩;show t=id v.o.l\/t=id v.o.r;rw[ad];exact ag
  rw[iZ,mC,mP];have h1:=ak.nw;have h2:an aa.aB (aZ (x::y::r))=an aa.aB g:=by rw[Al kL,jK]
  have h3:an aa.aI (aZ (x::y::r))=an aa.aI g:=by rw[Al kL,jK]
  rw[CB]at h2;rw[Jz]at h3;simp only[fU,dW];omega
 show lL F ((oa (aQ g) (rW [x.k.id])).map (qh [x.k.id]));rw[akQ (l:=aQ g) (drop:=rW [x.k.id]) (d:=λp=>(p.l.kind==2)&&[x.k.id].contains p.l.id) λ_ _=>rfl];refine ag5 (a:=a) ?_;rw[Mq];have hf:((x::y::r).map bl.p).filter (λp=> !((p.l.kind==2)&&[x.k.id].contains p.l.id))=r.map bl.p:=by
  rw[eJ,eJ,VA (by simp[lQ]),VA (by simp[lz,ac])];refine ams λp hp=>?_;obtain⟨w,H,rfl⟩:=dY.1 hp;cases M:(w.p.l.kind==2)
  .rfl
  have:=T1 w H M;simp[this]
 rw[hf,nU];exact Pv
end
end
end Go.Abs
