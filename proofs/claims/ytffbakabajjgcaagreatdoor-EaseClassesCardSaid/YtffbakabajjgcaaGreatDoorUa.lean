/-
  Certificates: names of faces at each letter show that a code is valid.
-/
import Derived.Test.YtffbakabajjgcaaGreatDoorVe
set_option linter.all false
set_option maxHeartbeats 16000000
namespace Go.Abs
section
variable{F x:Nat}
theorem W5{R:Nat->Nat->Prop}{n:Nat}{L:List Nat}(h:∀x,x<n->∃r∈L,bn R x r):K (bn R) n<=L.length:=by
 have key:∀M:List Nat,M.Nodup->(∀x∈M,x<n/\ld (bn R) x)->∃N:List Nat,N.length=M.length/\N.Nodup/\ ∀r∈N,r∈L/\ ∃x∈M,bn R x r:=by
  intro M
  induction M with
  |nil=>intro _ _;exact⟨[],rfl,vU,af⟩
  |cons a M ih=>
   intro hn hm;obtain⟨n1,n2⟩:=nI.1 hn;obtain⟨N,l1,l2,l3⟩:=ih n2 fun x hx=>hm x (by simp[hx]);obtain⟨ha,la⟩:=hm a af;obtain⟨r,hr,e⟩:=h a ha;refine⟨r::N,by simp[l1],nI.2 ⟨fun hN=>?_,l2⟩,fun q hq=>?_⟩
   .obtain⟨_,x,hx,ex⟩:=l3 r hN;have e1:=la x (e.trans ex.symm);have e2:=(hm x (by simp[hx])).2 a (ex.trans e.symm);have:a=x:=aa;exact n1 (this▸hx)
   rcases cI.1 hq with rfl|hq
   .exact⟨hr,a,af,e⟩
   obtain⟨q1,x,hx,ex⟩:=l3 q hq;exact⟨q1,x,by simp[hx],ex⟩
 obtain⟨N,l1,l2,l3⟩:=key ((List.range n).filter (Be (bn R))) (HS.filter _) fun x hx=>by obtain⟨h1,h2⟩:=vS.1 hx;exact⟨fg.1 h1,JI.1 h2⟩
 unfold K;rw[WI,<- l1];exact Kp _ _ l2 fun r hr=>(l3 r hr).1
theorem Qc(p:Nat->Nat)(x:Nat):∀i j,it p (i+j) x=it p i (it p j x):=by
 intro i j
 induction i with
 |zero=>rw[jm];rfl
 |succ i ih=>rw[show i+1+j=(i+j)+1 by omega];show p (it p (i+j) x)=p (it p i (it p j x));rw[ih]
theorem amJ{p:Nat->Nat}{m:Nat}(h:it p m x=x):∀k,it p (k*m) x=x:=by
 intro k
 induction k with
 |zero=>rw[Ay];rfl
 |succ k ih=>rw[Nat.succ_mul,Qc,h,ih]
theorem aoO{n:Nat}{p:Nat->Nat}(h:Perm n p){a b:Nat}(e:bn (gr n p) a b):a=b\/(a<n/\b<n/\ ∃k,it p k a=b):=by
 induction e with
 | @rel a b r=>obtain⟨ha,rfl⟩:=r;exact .inr ⟨ha,h.lt _ ha,1,rfl⟩
 |refl _=>exact .inl rfl
 | @symm a b _ ih=>
  rcases ih with rfl|⟨ha,hb,k,hk⟩
  .exact .inl rfl
  obtain⟨m,hm⟩:=h.YM ha;refine .inr ⟨hb,ha,k*m,?_⟩;rw[<- hk,<- Qc,show k*m+k=k*(m+1) by rw[Nat.mul_succ]];exact amJ hm k
 |trans _ _ i1 i2=>
  rcases i1 with rfl|⟨ha,hb,k,hk⟩
  .exact i2
  rcases i2 with rfl|⟨_,hc,j,hj⟩
  .exact .inr ⟨ha,hb,k,hk⟩
  exact .inr ⟨ha,hc,j+k,by rw[Qc,hk,hj]⟩
theorem as0{n:Nat}{p:Nat->Nat}(h:Perm n p){a b:Nat}(dX:a≠b)(e:bn (gr n p) a b):¬bn (gr n (tr p (a,b))) a b:=by
 rcases aoO h e with he|⟨ha,hb,k0,wO⟩
 .exact absurd he dX
 obtain⟨k,hk,PI⟩:=ZA (p:=fun k=>it p k a=b) k0 wO;have k1:1<=k:=by
  rcases Nat.eq_zero_or_pos k with rfl|h
  .exact absurd hk dX
  exact h
 have na:∀j,1<=j->j<=k->it p j a≠a:=fun j j1 j2 ej=>by
  rcases Nat.lt_or_eq_of_le j2 with c|rfl
  .have:it p (k-j) a=b:=by
    rw[<- hk,show k=(k-j)+j by omega,Qc,ej];congr 1;omega
   have:=PI _ this;omega
  exact dX (ej.symm.trans hk)
 have nb:∀j,j<k->it p j a≠b:=fun j j1 ej=>by have:=PI j ej;omega
 intro e2;have inv:∀x y,gr n (tr p (a,b)) x y->(∃j,1<=j/\j<=k/\x=it p j a)=(∃j,1<=j/\j<=k/\y=it p j a):=by
  rintro x y ⟨hx,rfl⟩
  apply propext;unfold tr;simp only;constructor
  .rintro ⟨j,j1,j2,rfl⟩
   rw[ay (na j j1 j2)];by_cases c:it p j a=b
   .rw[aD c];exact⟨1,aa,k1,rfl⟩
   rw[ay c];refine⟨j+1,aa,?_,rfl⟩;rcases Nat.lt_or_eq_of_le j2 with d|rfl
   .exact d
   exact absurd hk c
  by_cases c:x=a
  .rw[aD c];rintro ⟨j,j1,j2,ej⟩
   exfalso;have:=h.inj _ _ hb (h.Hb ha (j-1)) (by rw[ej,show j=(j-1)+1 by omega];rfl);by_cases d:j=1
   .subst d;exact dX this.symm
   exact nb (j-1) aa this.symm
  rw[ay c];by_cases d:x=b
  .subst d;intro _;exact⟨k,k1,bJ _,hk.symm⟩
  rw[ay d];rintro ⟨j,j1,j2,ej⟩
  have:=h.inj _ _ hx (h.Hb ha (j-1)) (by rw[ej,show j=(j-1)+1 by omega];rfl);by_cases f:j=1
  .subst f;exact absurd this c
  exact⟨j-1,aa,aa,this⟩
 have:=e2.inv inv;have qj:∃j,1<=j/\j<=k/\b=it p j a:=⟨k,k1,bJ _,hk.symm⟩;rw[<- this] at qj;obtain⟨j,j1,j2,ej⟩:=qj;exact na j j1 j2 ej.symm
theorem K_tr{n:Nat}{p:Nat->Nat}(h:Perm n p){a b:Nat}(ha:a<n)(hb:b<n)(dX:a≠b):(K (bn (gr n (tr p (a,b)))) n+K (bn (gr n p)) n)%2=1:=by
 have one:∀x y,bn (qI (gr n (tr p (a,b))) a b) x y↔bn (qI (gr n p) a b) x y:=fun x y=>by have h:=Sm (p:=p) (S:=fun _ _=>False) ha hb (x:=x) (y:=y);have e:∀q:Nat->Nat,(fun x y=>gr n q x y\/False)=gr n q:=fun q=>funext fun x=>funext fun y=>propext af;rw[e,e] at h;exact h
 have kj:K (bn (qI (gr n (tr p (a,b))) a b)) n=K (bn (qI (gr n p) a b)) n:=HZ one n;rcases Classical.em (bn (gr n p) a b) with c|c
 .have k1:=Se c n;have k2:=Sd ha hb (as0 h dX c);omega
 have k1:=Sd ha hb c;have k2:=Se (afs h ha hb c) n;omega
theorem agm{n:Nat}:∀(ts:List (Nat×Nat)) (p:Nat->Nat),Perm n p->(∀t∈ts,t.1<n/\t.2<n/\t.1≠t.2)->(K (bn (gr n (ts.foldl tr p))) n+K (bn (gr n p)) n+ts.length)%2=0:=by
 intro ts
 induction ts with
 |nil=>intro p _ _;simp only[Oh,eE];omega
 |cons t ts ih=>
  intro p hp ht;obtain⟨a,b⟩:=t;obtain⟨ha,hb,dX⟩:=ht (a,b) af
  replace ha:a<n:=ha
  replace hb:b<n:=hb
  replace dX:a≠b:=dX
  have e1:=ih (tr p (a,b)) (hp.tr ha hb) fun t h=>ht t (by simp[h]);have e2:(K (bn (gr n (tr p (a,b)))) n+K (bn (gr n p)) n)%2=1:=K_tr hp ha hb dX;simp only[uY,cS];omega
def lW(ls:List Let)(x:Nat):Nat:=aY ls (rv x)
def vQ(k:Nat):List (Nat×Nat):=(List.range k).map fun e=>(2*e,2*e+1)
theorem as7(q:Nat->Nat):∀k y,(vQ k).foldl tr q y=if y<2*k then q (rv y) else q y:=by
 intro k
 induction k with
 |zero=>intro y;rw[ay aa];rfl
 |succ k ih=>
  intro y;have e:vQ (k+1)=vQ k++[(2*k,2*k+1)]:=by unfold vQ;rw[uZ,rQ];rfl
  rw[e,Av,uY,Oh,Rj];by_cases c1:y=2*k
  .subst c1;rw[aD rfl,ih,ay aa,aD aa,vM]
  rw[ay c1];by_cases c2:y=2*k+1
  .subst c2;rw[aD rfl,ih,ay aa,aD aa,Br]
  rw[ay c2,ih];by_cases c3:y<2*k
  .rw[aD c3,aD aa]
  rw[ay c3,ay aa]
theorem bn.push{R R':Nat->Nat->Prop}{f:Nat->Nat}(h:∀a b,R a b->bn R' (f a) (f b)){y:Nat}(e:bn R x y):bn R' (f x) (f y):=by
 induction e with
 |rel r=>exact h _ _ r
 |refl a=>exact .refl _
 |symm _ ih=>exact ih.symm
 |trans _ _ i1 i2=>exact i1.trans i2
section
variable {F:Nat} {ls:List Let}
theorem VQ(ok:eH F ls):Perm (nD ls) (lW ls):=by
 have m:=maps ok;have hN:=Hj ls;have hr:∀y,y<nD ls->rv y<nD ls:=fun y hy=>by rw[hN] at hy ⊢;exact Bs hy
 refine⟨fun y hy=>m.lt _ (hr y hy),fun x y hx hy e=>?_⟩;have:=m.inj _ _ (hr x hx) (hr y hy) e;rw[<- Dl x,this,Dl]
abbrev E2(ls:List Let):Nat:=ls.length+(aB ls).length
theorem aer{y:Nat}(hy:y<nD ls):(vQ (E2 ls)).foldl tr (lW ls) y=aY ls y:=by rw[as7,aD (by rw[Hj] at hy;exact hy)];unfold lW;rw[Dl]
theorem akT(x y:Nat):bn (gr (nD ls) ((vQ (E2 ls)).foldl tr (lW ls))) x y↔bn (gr (nD ls) (aY ls)) x y:=
 ⟨bn.mono fun a b r=>by obtain⟨h,rfl⟩:=r;exact .rel ⟨h,aer h⟩,bn.mono fun a b r=>by obtain⟨h,rfl⟩:=r;exact .rel ⟨h,(aer h).symm⟩⟩
theorem afu{k:Nat}:∀t∈vQ k,t.1<2*k/\t.2<2*k/\t.1≠t.2:=by intro t ht;obtain⟨e,he,rfl⟩:=dI.1 ht;have:=fg.1 he;refine⟨?_,?_,?_⟩<;>simp only<;>omega
theorem agj(ok:eH F ls):K (bn (gr (nD ls) (aY ls))) (nD ls)=pN ls:=by
 obtain⟨fj,aaD⟩:=HJ (aY ls) (nD ls);have r4:∀w∈eh (aY ls) (nD ls),w≠[]:=fun w hw=>by obtain⟨⟨d,t,e,_⟩,_⟩:=KE ok w hw;rw[e];simp
 have hlen:((eh (aY ls) (nD ls)).map (·.headD 0)).length=pN ls:=by rw[cH];rfl
 refine agf ?_ ?_
 .rw[<- hlen];refine W5 fun x hx=>?_;obtain⟨w,hw,EW⟩:=HR.1 (aaD x hx);obtain⟨⟨d,t,e,_⟩,_⟩:=KE ok w hw;refine⟨w.headD 0,dI.2 ⟨w,hw,rfl⟩,?_⟩;exact Wx (maps ok) (R:=gr (nD ls) (aY ls)) (fun y hy=>.rel ⟨hy,rfl⟩) hw EW (by rw[e];simp)
 rw[<- hlen];refine W4 (f:=Dy (eh (aY ls) (nD ls))) ?_ (fun x hx=>?_) ?_
 .rintro a b ⟨ha,rfl⟩
  obtain⟨u,hu,hau⟩:=HR.1 (aaD a ha);obtain⟨i,hi⟩:=jd hu;rw[NY fj hi hau,NY fj hi (Ao (maps ok) hu hau)]
 .obtain⟨w,hw,rfl⟩:=dI.1 hx;obtain⟨⟨d,t,e,hd⟩,_⟩:=KE ok w hw;rw[e];simp only[List.headD_cons];have:nD ls=2*ls.length+2*(aB ls).length:=rfl;omega
 rw[ams fj r4];exact HS
abbrev Fx(ls:List Let):Nat->Nat->Prop:=gr (nD ls) (lW ls)
theorem Sp{v:Nat}(hv:v<ls.length)(g:Bool):dT ls.length v g<nD ls:=by have h:=DR hv (!g);rw[<- Ai] at h;have:=Bs h;rw[Dl] at this;have:nD ls=2*ls.length+2*(aB ls).length:=rfl;omega
theorem aeo(v:Nat)(g:Bool):lW ls (dT ls.length v g)=aY ls (jf ls.length v (!g)):=by unfold lW;rw[Ai]
theorem aqM(ok:eH F ls){v:Nat}(hv:v<ls.length):bn (Fx ls) (dT ls.length v true) (dT ls.length v false):=by
 obtain⟨l,hl⟩:=aM hv;have st:=aff ok hv false;have:lW ls (lW ls (dT ls.length v true))=dT ls.length v false:=by rw[aeo];exact st
 have p:=VQ ok;rw[<- this];exact(bn.rel ⟨Sp hv true,rfl⟩).trans (.rel ⟨p.lt _ (Sp hv true),rfl⟩)
theorem QW(ok:eH F ls){v:Nat}(hv:v<ls.length)(g h:Bool):bn (Fx ls) (dT ls.length v g) (dT ls.length v h):=by
 have e:=aqM ok hv;cases g<;>cases h
 .exact .refl _
 .exact e.symm
 .exact e
 exact .refl _
theorem aqN(ok:eH F ls){v:Nat}{l:Let}(hl:ls[v]?=some l)(hc:l.aG=true):bn (Fx ls) (dT ls.length v true) (dT ls.length (hJ ls v) true):=by
 obtain⟨h1,m,hm,mc,mi,mo,ms⟩:=sE ok.cr hl hc;have hv:=(bg.1 hl).1;have hw:=(bg.1 hm).1;have:lW ls (dT ls.length v true)=dT ls.length (hJ ls v) (false==(l.over==(l.sign==1))):=by rw[aeo,Dv hl hc];rfl
 exact(bn.rel ⟨Sp hv true,this.symm⟩).trans (QW ok hw _ _)
theorem aqL(ok:eH F ls){k:Nat}(hk:k<(aB ls).length):bn (Fx ls) (2*ls.length+2*k) (dT ls.length ((aB ls).getD k 0) true):=by
 have aq:2*ls.length+2*k<nD ls:=by unfold nD;omega
 obtain⟨l,h1,h2⟩:=BP hk;have hv:=(bg.1 h1).1;have:lW ls (2*ls.length+2*k)=dT ls.length ((aB ls).getD k 0) (dn ls ((aB ls).getD k 0)):=by unfold lW;rw[show 2*ls.length+2*k=2*(ls.length+k) by omega,vM,show 2*(ls.length+k)+1=2*ls.length+2*k+1 by omega,HD]
 exact(bn.rel ⟨aq,this.symm⟩).trans (QW ok hv _ _)
theorem aqK(ok:eH F ls){k:Nat}(hk:k<(aB ls).length):bn (Fx ls) (2*ls.length+2*k+1) (dT ls.length ((aB ls).getD ((k+1)%(aB ls).length) 0) true):=by
 have aq:2*ls.length+2*k+1<nD ls:=by unfold nD;omega
 obtain⟨l,h1,h2⟩:=BP (ez (k+1) (show 0<(aB ls).length by omega));have hv:=(bg.1 h1).1;have:lW ls (2*ls.length+2*k+1)=dT ls.length ((aB ls).getD ((k+1)%(aB ls).length) 0) (!dn ls ((aB ls).getD ((k+1)%(aB ls).length) 0)):=by unfold lW;rw[show 2*ls.length+2*k+1=2*(ls.length+k)+1 by omega,Br,show 2*(ls.length+k)=2*ls.length+2*k by omega,HE]
 exact(bn.rel ⟨aq,this.symm⟩).trans (QW ok hv _ _)
theorem aqP(ok:eH F ls)(hx:x<nD ls):∃v,v<ls.length/\bn (Fx ls) x (dT ls.length v true):=by
 by_cases c:x<2*ls.length
 .have hy:rv x<2*ls.length:=Bs c;obtain⟨v,fw,hv,e⟩:∃v fw,v<ls.length/\rv x=jf ls.length v fw:=⟨_,_,by
   split
   .exact ez _ aa
   omega,Ii hy⟩
  have:x=dT ls.length v (!fw):=by rw[<- aqW,<- e,Dl]
  exact⟨v,hv,by rw[this];exact QW ok hv _ _⟩
 have hN:nD ls=2*ls.length+2*(aB ls).length:=rfl;have hk:(x-2*ls.length)/2<(aB ls).length:=aa;rcases Ax x with h|h
 .obtain⟨l,h1,h2⟩:=BP hk;refine⟨_,(bg.1 h1).1,?_⟩;have:=aqL ok hk;rwa[show 2*ls.length+2*((x-2*ls.length)/2)=x by omega] at this
 obtain⟨l,h1,h2⟩:=BP (ez ((x-2*ls.length)/2+1) (show 0<(aB ls).length by omega));refine⟨_,(bg.1 h1).1,?_⟩;have:=aqK ok hk;rwa[show 2*ls.length+2*((x-2*ls.length)/2)+1=x by omega] at this
theorem ati(ok:eH F ls):∃L:List Nat,L.length=aC Let.aJ ls+aC Let.aG ls/2/\(∀j∈L,j<ls.length)/\(L.map (kS ls)).Nodup/\ ∀v,v<ls.length->∃j∈L,kS ls j=kS ls v:=by
 have hc:=ok.cr;unfold lQ at hc;simp only[cN,dL] at hc;obtain⟨L,l1,l2,l3⟩:=ath ok;refine⟨L,l1,l2,l3,fun v hv=>?_⟩
 -- all the names there are
 let A:List (Int×Int):=(aB ls).map (fun i:Nat=>((0:Int),(i:Int)))++(fe ls ls.length).map fun id=>((1:Int),id)
 have hA:A.length=aC Let.aJ ls+aC Let.aG ls/2:=by simp only[A,eG,cH,La,hc.2]
 have iT:∀v,v<ls.length->kS ls v∈A:=fun v hv=>by
  obtain⟨l,hl⟩:=aM hv;unfold kS;rw[hl];rcases ok.kinds l (aW hl) with hp|fU
  .simp only[sD hp,dQ,if_false];exact FR _ (dI.2 ⟨v,sY.2 ⟨l,hl,hp⟩,rfl⟩)
  simp only[fU,if_true];refine Ol _ (dI.2 ⟨l.id,?_,rfl⟩);exact(G0 (bJ _)).2 ⟨v,l.over,hv,by rw[Jh hl fU];simp⟩
 refine Classical.byContradiction fun dr=>?_;have hn:kS ls v∉L.map (kS ls):=fun h=>by obtain⟨j,hj,e⟩:=dI.1 h;exact dr ⟨j,hj,e⟩
 have PS:∀(X Y:List (Int×Int)),X.Nodup->(∀x∈X,x∈Y)->X.length<=Y.length:=by
  intro X
  induction X with
  |nil=>intro Y _ _;exact bj _
  |cons a X ih=>intro Y hn hs;obtain⟨h1,h2⟩:=nI.1 hn;have ha:=hs a af;have:=ih (Y.erase a) h2 fun x hx=>(RZ (by rintro rfl;exact h1 hx)).2 (hs x (by simp[hx]));rw[RY ha] at this;have:0<Y.length:=KM ha;simp only[cS];omega
 have:=PS (kS ls v::L.map (kS ls)) A (nI.2 ⟨hn,l3⟩) fun x hx=>by
  rcases cI.1 hx with rfl|hx
  .exact iT v hv
  obtain⟨j,hj,rfl⟩:=dI.1 hx;exact iT j (l2 j hj)
 rw[cS,cH,l1,hA] at this;omega
theorem atk(ok:eH F ls){u v:Nat}(hu:u<ls.length)(hv:v<ls.length)(e:kS ls u=kS ls v):bn (Fx ls) (dT ls.length v true) (dT ls.length u true):=by
 obtain⟨l,hl⟩:=aM hu;obtain⟨m,hm⟩:=aM hv;unfold kS at e;rw[hl,hm] at e;simp only at e;cases cl:l.aG<;>cases cm:m.aG
 .simp only[cl,cm,dQ,if_false,kn,true_and] at e;have:u=v:=aa;subst this;exact .refl _
 .simp[cl,cm] at e
 .simp[cl,cm] at e
 simp only[cl,cm,if_true,kn,true_and] at e;have fU:=ok.cr;have hp:Hq ls:=by unfold lQ at fU;simp only[cN,dL,ir,fg] at fU;exact(HL.1 fU.1.2).2
 by_cases huv:u=v
 .subst huv;exact .refl _
 obtain⟨h1,w,hw,wc,wi,wo,ws⟩:=sE ok.cr hm cm;have:hJ ls v=u:=by refine Classical.byContradiction fun aI=>?_;have d1:=(hp _ _ w l hw hl wc cl (by rw[wi,e]) aI).1;have d2:=(hp _ _ l m hl hm cl cm e huv).1;rw[wo] at d1;revert d1 d2;cases l.over<;>cases m.over<;>simp
 have:=aqN ok hm cm;rwa[‹hJ ls v=u›] at this
theorem agl(ok:eH F ls):K (bn (Fx ls)) (nD ls)=aC Let.aJ ls+aC Let.aG ls/2:=by
 obtain⟨L,l1,l2,l3,l4⟩:=ati ok;have hN:=Hj ls;have hN':nD ls=2*ls.length+2*(aB ls).length:=rfl;have GQ:∀y,y<nD ls->rv y<nD ls:=fun y hy=>by rw[hN] at hy ⊢;exact Bs hy
 have hlen:(L.map (2* ·)).length=aC Let.aJ ls+aC Let.aG ls/2:=by rw[cH,l1]
 refine agf ?_ ?_
 .rw[<- hlen];refine W5 fun x hx=>?_;obtain⟨v,hv,e⟩:=aqP ok hx;obtain⟨j,hj,ej⟩:=l4 v hv;exact⟨2*j,dI.2 ⟨j,hj,rfl⟩,e.trans (atk ok (l2 j hj) hv ej)⟩
 rw[<- hlen];refine W4 (f:=fun x=>kS ls (nQ ls (rv x))) ?_ (fun x hx=>?_) ?_
 .rintro a b ⟨ha,rfl⟩
  exact(as9 ok (GQ a ha)).1.symm
 .obtain⟨j,hj,rfl⟩:=dI.1 hx;have:=l2 j hj;omega
 rw[yL];have:L.map ((fun x=>kS ls (nQ ls (rv x))) ∘ (2* ·))=L.map (kS ls):=KO fun j hj=>by have:=EA (ls:=ls) (l2 j hj) false;simp only[Function.comp_apply,vM];rw[show 2*j+1=jf ls.length j false from rfl,this]
 rw[this];exact l3
theorem aoH(ok:eH F ls):K (bn (xP (nD ls) (lW ls) (vQ (E2 ls)))) (nD ls)<=1:=by
 refine agk fun x hx=>?_;obtain⟨b,hb⟩:=akJ (p:=fun _=>false) (fun _=>rfl) ok hx;have h:=hb 0 ae;have:=h.push (R':=xP (nD ls) (lW ls) (vQ (E2 ls))) (f:=fun y=>y/2) ?_
 .have hf:fx b 0<2:=Pj ae;rw[show(2*x+0)/2=x by omega,show fx b 0/2=0 by omega] at this;exact this
 intro u v r;rcases r with ⟨hu,rfl⟩|r
 .refine .rel (.inl ⟨aa,?_⟩);unfold sgC lW fx;simp only[dQ,if_false];omega
 refine .rel (.inr ?_);obtain⟨e,he,hm⟩:=Om.1 r;have qn:(2*e,2*e+1)∈vQ (E2 ls):=dI.2 ⟨e,he,rfl⟩;simp only[cI,iM,or_false,kn] at hm;rcases hm with ⟨rfl,rfl⟩|⟨rfl,rfl⟩
 .rw[Sn];simp only[dQ,if_false];rw[show 4*e/2=2*e by omega,show(4*e+2)/2=2*e+1 by omega];exact qn
 rw[So];simp only[dQ,if_false];rw[show(4*e+1)/2=2*e by omega,show(4*e+3)/2=2*e+1 by omega];exact qn
theorem ajZ(ok:eH F ls):pN ls<=aC Let.aJ ls+aC Let.aG ls/2+2/\(pN ls+(aC Let.aJ ls+aC Let.aG ls/2))%2=0:=by
 have hN:=Hj ls;have e1:=ajC (vQ (E2 ls)) (lW ls) (VQ ok) fun t ht=>by have:=afu t ht;rw[hN];exact⟨this.1,this.2.1⟩
 have e2:=agm (vQ (E2 ls)) (lW ls) (VQ ok) fun t ht=>by have:=afu t ht;rw[hN];exact this
 have hl:(vQ (E2 ls)).length=ls.length+(aB ls).length:=by simp[vQ]
 rw[HZ akT,agj ok,show K (bn (gr (nD ls) (lW ls))) (nD ls)=_ from agl ok,hl] at e1 e2;have h1:=aoH ok;have hPC:=acr ok;have jF:=La (ls:=ls);have fU:=ok.cr;unfold lQ at fU;simp only[cN,dL] at fU;have dR:=fU.1.1;omega
end
structure eO where
 l:Nat
 r:Nat
 b:Bool
structure bk where
 p:Pc
 i:eO
 o:eO
abbrev bk.k(x:bk):Let:=x.p.l
def lM:eO->List bk->eO->Prop
 |s,[],t=>s=t
 |s,x::r,t=>x.i=s/\lM x.o r t
theorem Vy{s t:eO}{a b:List bk}:lM s (a++b) t↔ ∃m,lM s a m/\lM m b t:=by
 induction a generalizing s with
 |nil=>exact⟨fun h=>⟨s,rfl,h⟩,fun⟨m,h1,h2⟩=>by cases h1;exact h2⟩
 |cons x a ih=>show(x.i=s/\lM x.o (a++b) t)↔_;rw[ih];exact⟨fun⟨h,m,h1,h2⟩=>⟨m,⟨h,h1⟩,h2⟩,fun⟨m,⟨h,h1⟩,h2⟩=>⟨h,m,h1,h2⟩⟩
theorem ao2{s:eO}{a b:List bk}(h:lM s (a++b) s):∃m,lM m (b++a) m:=by obtain⟨m,h1,h2⟩:=Vy.1 h;exact⟨m,Vy.2 ⟨s,h2,h1⟩⟩
structure X4 (g:Bool) (i o j q:eO):Prop where
 a:if g then i.l=q.l else i.l=j.r
 b:if g then o.r=j.r else o.r=q.l
 c:if g then j.l=i.r else j.l=o.l
 d:if g then q.r=o.l else q.r=i.r
def gX (l:Let):Bool:=l.over==(l.sign==1)
structure Xc (x y:bk):Prop where
 ov:x.k.over= !y.k.over
 sg:x.k.sign=y.k.sign
 x4:X4 (gX x.k) x.i x.o y.i y.o
theorem Xc.symm{x y:bk}(h:Xc x y):Xc y x:=by
 obtain⟨h1,h2,a,b,c,d⟩:=h;have e:gX y.k= !gX x.k:=by unfold gX;rw[h1,h2];cases y.k.over<;>cases (y.k.sign==1)<;>rfl
 refine⟨by rw[h1];simp,h2.symm,?_⟩;rw[e];cases hg:gX x.k
 .rw[hg] at a b c d;simp only[dQ,if_false] at a b c d;constructor<;>simp only[Rx,if_true]
  .exact c
  .exact d
  .exact a
  exact b
 rw[hg] at a b c d;simp only[if_true] at a b c d;constructor<;>simp only[DB,dQ,if_false]
 .exact c
 .exact d
 .exact a
 exact b
def iI(s:eO):eO:=⟨s.r,s.l,s.b⟩
def bk.up(x:bk):eO:=if x.p.d then x.i else iI x.o
def bk.lo(x:bk):eO:=if x.p.d then x.o else iI x.i
structure Bi (F:Nat) (x:bk):Prop where
 bad:dA F x.k=false
 cb:x.k.aG=true->x.i.b=x.o.b
 pb:x.k.aJ=true->x.o.b=x.p.d/\x.i.b= !x.p.d
def Xr (x y:bk):Prop:=x.k.aG=true->y.k.aG=true->x.k.id=y.k.id->Xc x y
theorem Xr.symm{x y:bk}(h:Xr x y):Xr y x:=fun a b c=>(h b a c.symm).symm
def Dr (x y:bk):Prop:=x.k.aJ=true->y.k.aJ=true->x.k.gate=y.k.gate->x.k.aE≠y.k.aE
theorem Dr.symm{x y:bk}(h:Dr x y):Dr y x:=fun a b c d=>h b a c.symm d.symm
structure plE (T B:Nat->Nat->Nat) (x:bk):Prop where
 wt:x.up.r=T x.k.gate.toNat (x.k.aE.toNat-1)
 et:x.up.l=T x.k.gate.toNat x.k.aE.toNat
 wb:x.lo.r=B x.k.gate.toNat (x.k.aE.toNat-1)
 eb:x.lo.l=B x.k.gate.toNat x.k.aE.toNat
abbrev bK(z:List bk):List Let:=z.map bk.k
structure Cz (F:Nat) (z:List bk) (T B:Nat->Nat->Nat) (S:List Nat):Prop where
 path:∃s,lM s z s
 ok:∀x∈z,Bi F x
 cr:z.Pairwise Xr
 ev:aC Let.aG (bK z)%2=0
 ids:∀x∈z,x.k.aG=true->1<=x.k.id/\x.k.id<=((aC Let.aG (bK z)/2:Nat):Int)
 rk:z.Pairwise Dr
 rr:∀x∈z,x.k.aJ=true->1<=x.k.aE/\x.k.aE<=(cg (bK z) x.k.gate.toNat:Int)
 pl:∀x∈z,x.k.aJ=true->plE T B x
 gt:∀g,g<F->T g (cg (bK z) g)=T (g+1) 0/\B g (cg (bK z) g)=B (g+1) 0
 gz:T F (cg (bK z) F)=T 0 0/\B F (cg (bK z) F)=B 0 0
 one:∃x∈z,x.k.aJ=true
 nd:S.Nodup
 wit:∀s∈S,∃x∈z,s=x.o.l\/s=x.o.r
 num:aC Let.aJ (bK z)+aC Let.aG (bK z)/2+1<=S.length
def Cert(F:Nat)(l:List Pc):Prop:= ∃z T B S,z.map bk.p=l/\Cz F z T B S
theorem SN{p:Let->Bool}{z z':List bk}(h:z.Perm z'):aC p (bK z)=aC p (bK z'):=(h.map bk.k).countP_eq p
theorem Cz.perm{z z':List bk}{T B:Nat->Nat->Nat}{S:List Nat}(c:Cz F z T B S)(h:z.Perm z')(hp:∃s,lM s z' s):Cz F z' T B S:=by
 have hm:∀ {x},x∈z'↔x∈z:=fun {x}=>h.symm.mem_iff;have e:∀p,aC p (bK z')=aC p (bK z):=fun p=>(SN h).symm;have eg:∀g,cg (bK z') g=cg (bK z) g:=fun g=>e _;refine⟨hp,fun x hx=>c.ok x (hm.1 hx),(h.pairwise_iff fun {x y}=>Xr.symm).1 c.cr,by rw[e];exact c.ev,fun x hx=>by rw[e];exact c.ids x (hm.1 hx),(h.pairwise_iff fun {x y}=>Dr.symm).1 c.rk,
  fun x hx=>by rw[eg];exact c.rr x (hm.1 hx),fun x hx=>c.pl x (hm.1 hx),fun g hg=>by rw[eg];exact c.gt g hg,by rw[eg];exact c.gz,?_,c.nd,fun s hs=>?_,by rw[e,e];exact c.num⟩
 .obtain⟨x,hx,h1⟩:=c.one;exact⟨x,hm.2 hx,h1⟩
 obtain⟨x,hx,h1⟩:=c.wit s hs;exact⟨x,hm.2 hx,h1⟩
theorem Cz.lW{a b:List bk}{T B:Nat->Nat->Nat}{S:List Nat}(c:Cz F (a++b) T B S):Cz F (b++a) T B S:=by obtain⟨s,h⟩:=c.path;exact c.perm (List.perm_append_comm) (ao2 h)
theorem Cert.lW{a b:List Pc}(c:Cert F (a++b)):Cert F (b++a):=by obtain⟨z,T,B,S,h,c⟩:=c;obtain⟨x,y,rfl,rfl,rfl⟩:=List.map_eq_append_iff.1 h;exact⟨y++x,T,B,S,by rw[rQ],c.lW⟩
theorem ao0:∀ {z:List bk} {s t:eO},(∀x∈z,Bi F x)->lM s z t->s.b=false->t.b=true->∃x∈z,x.k.aJ=true/\x.p.d=true:=by
 intro z
 induction z with
 |nil=>intro s t _ h h1 h2;cases h;rw[h1] at h2;cases h2
 |cons x z ih=>
  intro s t ok h h1 h2;obtain⟨rfl,h⟩:=h;have ox:=ok x af;by_cases hd:x.k.aJ=true/\x.p.d=true
  .exact⟨x,af,hd⟩
  have hb:x.o.b=false:=by
   rcases AN ox.bad with hp|hc
   .rw[(ox.pb hp).1];cases zt:x.p.d
    .rfl
    exact absurd ⟨hp,zt⟩ hd
   rw[<- ox.cb hc];exact h1
  obtain⟨y,hy,e⟩:=ih (fun x hx=>ok x (by simp[hx])) h hb h2;exact⟨y,by simp[hy],e⟩
theorem Cz.down{z:List bk}{T B:Nat->Nat->Nat}{S:List Nat}(c:Cz F z T B S):∃x∈z,x.k.aJ=true/\x.p.d=true:=by
 obtain⟨x,hx,hp⟩:=c.one;cases hd:x.p.d
 .obtain⟨a,b,rfl⟩:=List.append_of_mem hx;have c2:=c.lW;obtain⟨s,h⟩:=c2.path;obtain⟨rfl,h⟩:=h;obtain⟨e1,e2⟩:=(c.ok x af).pb hp;rw[hd] at e1 e2;obtain⟨y,hy,e⟩:=ao0 (fun y hy=>c.ok y (by
   rcases dZ.1 hy with hy|hy
   .simp[hy]
   simp[hy])) h e1 e2
  refine⟨y,?_,e⟩;rcases dZ.1 hy with hy|hy
  .simp[hy]
  simp[hy]
 exact⟨x,hx,hp,hd⟩
theorem aeq{l:List Pc}{f:Nat}(hf:f<=l.length):rH l f l.length=(l.drop f++l.take f).map Pc.l:=by
 apply Au;intro i;by_cases hi:i<l.length
 .have h1:(rH l f l.length)[i]?=some (l.getD ((f+i)%l.length) ⟨kO,false⟩).l:=by
   simp[rH,hi]
  rw[h1,fT];by_cases h2:f+i<l.length
  .rw[vR (by simp;omega),Aw,jN h2];simp[h2]
  rw[yK (by simp;omega),lX];have h3:(f+i)%l.length=i-(l.length-f):=by rw[Nat.mod_eq_sub_mod aa,jN aa];omega
  have h4:i-(l.length-f)<l.length:=aa;rw[h3,lI,aD aa];simp[h4]
 have h1:(rH l f l.length).length=l.length:=by simp[rH]
 rw[mS (by rw[h1];omega),mS (by simp;omega)]
theorem Cert.fin{l:List Pc}(c:Cert F l):∃z T B S x r,z=x::r/\x.k.aJ=true/\x.p.d=true/\bK z=nh l/\z.length=l.length/\Cz F z T B S:=by
 obtain⟨z,T,B,S,h,c⟩:=c;subst h;obtain⟨x,hx,hp,hd⟩:=c.down;have hP:∀y:bk,y.k.aJ=(y.p.l.kind==1):=fun y=>rfl;obtain⟨j,hj⟩:=jd hx;have nu:=(bg.1 hj).1;have CA:(z.map bk.p)[j]?=some x.p:=by rw[fT,hj];rfl
 obtain⟨f,hf⟩:∃f,tR (z.map bk.p)=some f:=by
  cases h:tR (z.map bk.p) with
  |some f=>exact⟨f,rfl⟩
  |none=>have:=Of.1 h j (by simpa using nu);rw[VC CA] at this;unfold Fs at this;rw[hP] at hp;simp[hp,hd] at this
 have h1:=RX hf;have h2:f<z.length:=by
  have:=KS hf
  simpa using this
 obtain⟨y,hy⟩:=bg.2 ⟨h2,rfl⟩ |> fun h=>(⟨_,h⟩:∃y,z[f]?=some y)
 have hyp:(z.map bk.p)[f]?=some y.p:=by rw[fT,hy];rfl
 rw[VC hyp] at h1;unfold Fs at h1;rw[cN] at h1;have hz:z=z.take f++y::z.drop (f+1):=by obtain⟨hl,e⟩:=bg.1 hy;rw[<- e,DE,sQ]
 have Ez:z.drop f=y::z.drop (f+1):=by obtain⟨hl,e⟩:=bg.1 hy;rw[<- e,DE]
 refine⟨y::z.drop (f+1)++z.take f,T,B,S,y,z.drop (f+1)++z.take f,rfl,h1.1,h1.2,?_,?_,?_⟩
 .unfold nh;rw[hf,lZ,aeq (by rw[cH];omega),<- Ez];simp only[rQ,KP,KQ,yL];rfl
 .rw[<- Ez,eG,lX,gT,cH];omega
 rw[hz] at c;exact c.lW
theorem aiM{ls:List Let}(he:aC Let.aG ls%2=0)(hi:UD ls)(hp:Hq ls):lQ ls=true:=by
 rw[S4 he (HL.2 ⟨hi,hp⟩)];have MT:=Wh ls;have hle:∀id∈fe ls ls.length,aC (lu id) ls<=2:=fun id _=>by rw[Qb id];have:=A3 hp id true;have:=A3 hp id false;omega
 have h1:=afg (f:=fun id=>aC (lu id) ls) _ hle;have h2:(fe ls ls.length).length<=aC Let.aG ls/2:=by
  have hr:∀id∈fe ls ls.length,1<=id/\id<=((aC Let.aG ls/2:Nat):Int):=fun id hid=>by obtain⟨j,o,hj,hh⟩:=(G0 (bJ _)).1 hid;obtain⟨m,hm,mc,mi,_⟩:=A4 hh;rw[<- mi];exact hi m (aW hm) mc
  have:=Kp ((fe ls ls.length).map Int.toNat) (List.range' 1 (aC Let.aG ls/2)) ?_ ?_
  .rwa[cH,List.length_range'] at this
  .refine BC.2 (WD (fun {a b} ha hb h e=>h ?_) (PW ls ls.length));have:=hr a ha;have:=hr b hb;omega
  intro x hx;obtain⟨id,hid,rfl⟩:=dI.1 hx;have:=hr id hid;rw[List.mem_range'_1];omega
 simp only[dL];omega
theorem Nu{s t:eO}{z:List bk}{x:bk}(h:lM s z t)(hx:z[0]?=some x):x.i=s:=by
 cases z with
 |nil=>cases hx
 |cons y z=>cases hx;exact h.1
theorem adR:∀ {z:List bk} {s t:eO} {i:Nat} {x y:bk},lM s z t->z[i]?=some x->z[i+1]?=some y->x.o=y.i:=by
 intro z
 induction z with
 |nil=>intro s t i x y _ hx;cases hx
 |cons a z ih=>
  intro s t i x y h hx hy;cases i with
  |zero=>cases hx;exact(Nu h.2 hy).symm
  |succ i=>exact ih h.2 hx hy
theorem adO:∀ {z:List bk} {s t:eO} {x:bk},lM s z t->z[z.length-1]?=some x->x.o=t:=by
 intro z
 induction z with
 |nil=>intro s t x _ hx;cases hx
 |cons a z ih=>
  intro s t x h hx;cases z with
  |nil=>cases hx;exact h.2
  |cons b z=>exact ih h.2 hx
theorem adN{z:List bk}{s:eO}{j:Nat}{x y:bk}(h:lM s z s)(hx:z[j]?=some x)(hy:z[(j+1)%z.length]?=some y):x.o=y.i:=by
 have hj:=(bg.1 hx).1;by_cases c:j+1<z.length
 .rw[jN c] at hy;exact adR h hx hy
 have:j+1=z.length:=aa;rw[this,KX] at hy;rw[adO h (by rw[<- this];exact hx),Nu h hy]
theorem JK{z:List bk}{i:Nat}{x:bk}(h:z[i]?=some x):(bK z)[i]?=some x.k:=by rw[fT,h];rfl
theorem C0{z:List bk}{i:Nat}{l:Let}(h:(bK z)[i]?=some l):∃x,z[i]?=some x/\x.k=l:=by rw[fT,dx] at h;exact h
theorem Vz{z:List bk}{s t:eO}(ok:∀x∈z,Bi F x)(h:lM s z t)(hs:s.b=false):∀i x,z[i]?=some x->x.i.b= !dn (bK z) i/\x.o.b= !dn (bK z) (i+1):=by
 have step:∀i x,z[i]?=some x->x.i.b=(!dn (bK z) i)->x.o.b= !dn (bK z) (i+1):=fun i x hx hb=>by
  have ox:=ok x (aW hx);rcases AN ox.bad with hp|hc
  .rw[Lr (JK hx) hp,Oc,(ox.pb hp).1];have:=(ox.pb hp).2;rw[hb] at this;revert this;cases dn (bK z) i<;>cases x.p.d<;>simp
  rw[Ls (JK hx) (by
   cases hp:x.k.aJ
   .rfl
   rw[sD hp] at hc;cases hc),<- hb,ox.cb hc]
 intro i
 induction i with
 |zero=>
  intro x hx;have:x.i.b= !dn (bK z) 0:=by rw[Nu h hx,hs];rfl
  exact⟨this,step 0 x hx this⟩
 |succ i ih=>intro y hy;obtain⟨x,hx⟩:=aM (ls:=z) (k:=i) (by have:=(bg.1 hy).1;omega);have e:=(ih x hx).2;rw[adR h hx hy] at e;exact⟨e,step (i+1) y hy e⟩
theorem adV{ls:List Let}{f:Nat->Nat->Nat}(hf:∀g,g<F->f g (cg ls g)=f (g+1) 0):∀(d g k g' k':Nat),g'=g+d->g'<=F->k<=cg ls g->k'<=cg ls g'->fQ ls g+k=fQ ls g'+k'->f g k=f g' k':=by
 intro d
 induction d with
 |zero=>intro g k g' k' e _ _ _ h;rw[xA] at e;subst e;rw[show k=k' by omega]
 |succ d ih=>intro g k g' k' e hF hk ti h;have hm:=AT (ls:=ls) (show g+1<=g' by omega);have hs:=tS ls g;have:k=cg ls g:=aa;subst this;rw[hf g aa];exact ih (g+1) 0 g' k' aa hF (bj _) ti aa
theorem VG{ls:List Let}{f:Nat->Nat->Nat}(hf:∀g,g<F->f g (cg ls g)=f (g+1) 0){g k g' k':Nat}(hg:g<=F)(GA:g'<=F)(hk:k<=cg ls g)(ti:k'<=cg ls g')(h:fQ ls g+k=fQ ls g'+k'):f g k=f g' k':=by
 rcases Nat.le_total g g' with c|c
 .exact adV hf (g'-g) g k g' k' aa GA hk ti h
 exact(adV hf (g-g') g' k' g k aa hg ti hk h.symm).symm
def noE:bk:=⟨⟨kO,false⟩,⟨0,0,false⟩,⟨0,0,false⟩⟩
def og(z:List bk)(x:Nat):Nat:=
 if x<2*z.length then (if x%2=0 then (z.getD (x/2) noE).o.l else (z.getD (x/2) noE).o.r)
 else if x%2=0 then (z.getD ((aB (bK z)).getD ((x-2*z.length)/2) 0) noE).up.l else (z.getD ((aB (bK z)).getD ((x-2*z.length)/2) 0) noE).lo.l
theorem Ek{z:List bk}{i:Nat}{x:bk}(h:z[i]?=some x):z.getD i noE=x:=by rw[cY,h];rfl
section
variable {F:Nat} {z:List bk} {s:eO}
theorem UU(h:lM s z s){v:Nat}{x:bk}(hx:z[v]?=some x)(g:Bool):og z (dT z.length v g)=if g then x.o.l else x.i.r:=by
 have hv:=(bg.1 hx).1;cases g with
 |true=>show og z (2*v)=_;unfold og;rw[aD aa,aD aa,show 2*v/2=v by omega,Ek hx];rfl
 |false=>show og z (2*((v+z.length-1)%z.length)+1)=_;have hm:=ez (v+z.length-1) (show 0<z.length by omega);obtain⟨y,hy⟩:=aM (ls:=z) hm;have e:=adN h hy (by rw[vF hv];exact hx);unfold og;rw[aD aa,ay aa,show(2*((v+z.length-1)%z.length)+1)/2=(v+z.length-1)%z.length by omega,Ek hy,e];rfl
theorem anl(h:lM s z s){v:Nat}{x:bk}(hx:z[v]?=some x)(g:Bool):og z (jf z.length v g)=if g then x.i.l else x.o.r:=by
 have hv:=(bg.1 hx).1;cases g with
 |false=>show og z (2*v+1)=_;unfold og;rw[aD aa,ay aa,show(2*v+1)/2=v by omega,Ek hx];rfl
 |true=>show og z (2*((v+z.length-1)%z.length))=_;have hm:=ez (v+z.length-1) (show 0<z.length by omega);obtain⟨y,hy⟩:=aM (ls:=z) hm;have e:=adN h hy (by rw[vF hv];exact hx);unfold og;rw[aD aa,aD aa,show(2*((v+z.length-1)%z.length))/2=(v+z.length-1)%z.length by omega,Ek hy,e];rfl
theorem acn{k v:Nat}{x:bk}(ha:(aB (bK z)).getD k 0=v)(hx:z[v]?=some x):og z (2*z.length+2*k)=x.up.l:=by unfold og;rw[ay aa,aD aa,show(2*z.length+2*k-2*z.length)/2=k by omega,ha,Ek hx]
theorem acm{k v:Nat}{x:bk}(ha:(aB (bK z)).getD k 0=v)(hx:z[v]?=some x):og z (2*z.length+2*k+1)=x.lo.l:=by unfold og;rw[ay aa,ay aa,show(2*z.length+2*k+1-2*z.length)/2=k by omega,ha,Ek hx]
theorem Cz.QA{T B:Nat->Nat->Nat}{S:List Nat}(c:Cz F z T B S){i j:Nat}{x y:bk}(hx:z[i]?=some x)(hy:z[j]?=some y)(eU:i≠j):Xr x y/\Dr x y:=by
 obtain⟨hi,ex⟩:=bg.1 hx;obtain⟨hj,ey⟩:=bg.1 hy;subst ex ey;rcases agi eU with h|h
 .exact⟨KT.1 c.cr i j hi hj h,KT.1 c.rk i j hi hj h⟩
 exact⟨(KT.1 c.cr j i hj hi h).symm,(KT.1 c.rk j i hj hi h).symm⟩
theorem Cz.eQ{T B:Nat->Nat->Nat}{S:List Nat}(c:Cz F z T B S){x:bk}(hx:x∈z)(hp:x.k.aJ=true):tW F (bK z) x.k:=by obtain⟨⟨⟨⟨g0,g1⟩,_⟩,_⟩,_⟩:=(xg hp).1 (c.ok x hx).bad;obtain⟨r0,r1⟩:=c.rr x hx hp;exact⟨g0,g1,r0,r1⟩
theorem Cz.dg{T B:Nat->Nat->Nat}{S:List Nat}(c:Cz F z T B S)(hl:z.length<=1000000):eH F (bK z):=by
 refine⟨by rw[cH];exact hl,⟨fun l hl hp=>?_,fun i j l m hi hj pl pm e=>?_⟩,aiM c.ev (fun l hl hc=>?_) (fun i j l m hi hj cl cm e eU=>?_),fun l hl=>?_⟩
 .obtain⟨x,hx,rfl⟩:=dI.1 hl;exact c.eQ hx hp
 .obtain⟨x,hx,rfl⟩:=C0 hi;obtain⟨y,hy,rfl⟩:=C0 hj;refine Decidable.byContradiction fun eU=>?_;obtain⟨h1,h2⟩:=(Fu (c.eQ (aW hx) pl) (c.eQ (aW hy) pm)).1 e;exact(c.QA hx hy eU).2 pl pm h1 h2
 .obtain⟨x,hx,rfl⟩:=dI.1 hl;exact c.ids x hx hc
 .obtain⟨x,hx,rfl⟩:=C0 hi;obtain⟨y,hy,rfl⟩:=C0 hj;have:=(c.QA hx hy eU).1 cl cm e;refine⟨?_,this.sg⟩;rw[this.ov];cases y.k.over<;>simp
 obtain⟨x,hx,rfl⟩:=dI.1 hl;exact AN (c.ok x hx).bad
theorem Cz.qY{T B:Nat->Nat->Nat}{S:List Nat}(c:Cz F z T B S):qY F (bK z):=fun l hl hp=>by obtain⟨x,hx,rfl⟩:=dI.1 hl;exact((xg hp).1 (c.ok x hx).bad).1.1.1
theorem Cz.OK{T B:Nat->Nat->Nat}{S:List Nat}(c:Cz F z T B S)(hl:z.length<=1000000){k u v:Nat}{x y:bk}(hu:(aB (bK z))[k]?=some u)(hv:(aB (bK z))[(k+1)%(aB (bK z)).length]?=some v)(hx:z[u]?=some x)(hy:z[v]?=some y):x.up.l=y.up.r/\x.lo.l=y.lo.r:=by
 have ok:=c.dg hl;have hk:=(bg.1 hu).1;obtain⟨l,l1,l2,l3⟩:=yX ok.ax hu;obtain⟨m,m1,m2,m3⟩:=yX ok.ax hv;rw[JK hx] at l1;cases l1;rw[JK hy] at m1;cases m1;have gx:=c.eQ (aW hx) l2;have gy:=c.eQ (aW hy) m2;have px:=c.pl x (aW hx) l2;have py:=c.pl y (aW hy) m2;obtain⟨x1,x2,x3,x4⟩:=gx;obtain⟨y1,y2,y3,y4⟩:=gy;have key:∀f:Nat->Nat->Nat,(∀g,g<F->f g (cg (bK z) g)=f (g+1) 0)->f F (cg (bK z) F)=f 0 0->f x.k.gate.toNat x.k.aE.toNat=f y.k.gate.toNat (y.k.aE.toNat-1):=by
  intro f hf hz;unfold dO at l3 m3;by_cases c1:k+1<(aB (bK z)).length
  .rw[jN c1] at m3;exact VG hf aa aa aa aa aa
  have hT:=FX c.qY;have hs:=tS (bK z) F;have:k+1=(aB (bK z)).length:=aa;rw[this,KX] at m3;rw[VG hf (g:=x.k.gate.toNat) (k:=x.k.aE.toNat) (g':=F) (k':=cg (bK z) F) aa (bJ _) aa (bJ _) aa,hz];exact VG hf (bj _) aa (bj _) aa (by show 0+0=_;omega)
 exact⟨by rw[px.et,py.wt];exact key T (fun g hg=>(c.gt g hg).1) c.gz.1,by rw[px.eb,py.wb];exact key B (fun g hg=>(c.gt g hg).2) c.gz.2⟩
theorem Cz.walk{T B:Nat->Nat->Nat}{S:List Nat}(c:Cz F z T B S)(hl:z.length<=1000000)(h:lM s z s)(hs:s.b=false)(hx:x<nD (bK z)):og z (aY (bK z) x)=og z x:=by
 have ok:=c.dg hl;have hn:(bK z).length=z.length:=cH ..;have hN:nD (bK z)=2*z.length+2*(aB (bK z)).length:=by unfold nD;rw[hn]
 have dV:=Vz c.ok h hs;by_cases c1:x<2*z.length
 .obtain⟨v,fw,hv,rfl⟩:∃v fw,v<z.length/\x=jf z.length v fw:=⟨_,_,by
   split
   .exact ez _ aa
   omega,Ii c1⟩
  obtain⟨e,he⟩:=aM (ls:=z) hv;have hle:=JK he;have oe:=c.ok e (aW he);rw[anl h he];rcases AN oe.bad with hp|hc
  .have hd:dn (bK z) v=e.p.d:=by
    have:=(dV v e he).1;rw[(oe.pb hp).2] at this;revert this;cases e.p.d<;>cases dn (bK z) v<;>simp
   obtain⟨a1,a2⟩:=Ij ok hle hp;have t:=Kw hle hp fw;rw[hn] at t;rw[t,hd];by_cases c2:(e.p.d==fw)=true
   .rw[aD c2,acn a2 he];unfold bk.up;have:=eq_of_beq c2;subst this;cases e.p.d<;>rfl
   rw[ay c2];have hm:=ez ((aB (bK z)).idxOf v+(aB (bK z)).length-1) (show 0<(aB (bK z)).length by omega);obtain⟨u,hu⟩:=aM hm;obtain⟨l,u1,u2⟩:=sY.1 (aW hu);obtain⟨y,hy,rfl⟩:=C0 u1;have GW:(aB (bK z))[(aB (bK z)).idxOf v]?=some v:=by obtain⟨q,hq⟩:=aM a1;rw[cY,hq] at a2;rw[hq];exact congrArg some a2
   have:=(c.OK hl hu (by rw[vF a1];exact GW) hy he).2;rw[acm (by rw[cY,hu];rfl) hy,this];unfold bk.lo;revert c2;cases e.p.d<;>cases fw<;>simp[iI]
  obtain⟨b1,m,hm,mc,mi,mo,ms⟩:=sE ok.cr hle hc;obtain⟨y,hy,rfl⟩:=C0 hm;have aI:v≠hJ (bK z) v:=by intro ee;rw[<- ee,hle] at hm;have:=sR hm;rw[<- this] at mo;revert mo;cases e.k.over<;>simp
  obtain⟨_,_,xa,xb,xc,xd⟩:=(c.QA he hy aI).1 hc mc mi.symm;have t:=Dv hle hc fw;rw[hn] at t;rw[t,UU h hy];unfold gX at xa xb;cases hg:(e.k.over==(e.k.sign==1))<;>rw[hg] at xa xb<;>simp only[dQ,if_false,if_true] at xa xb<;>cases fw<;>simp_all
 have hk:(x-2*z.length)/2<(aB (bK z)).length:=aa;obtain⟨u,hu⟩:=aM hk;obtain⟨l,u1,u2⟩:=sY.1 (aW hu);obtain⟨e,he,rfl⟩:=C0 u1;have hgu:(aB (bK z)).getD ((x-2*z.length)/2) 0=u:=by rw[cY,hu];rfl
 rcases Ax x with wU|wU
 .have ex:x=2*z.length+2*((x-2*z.length)/2):=aa;have hm:=ez ((x-2*z.length)/2+1) (show 0<(aB (bK z)).length by omega);obtain⟨w,hw⟩:=aM hm;obtain⟨l,w1,w2⟩:=sY.1 (aW hw);obtain⟨y,hy,rfl⟩:=C0 w1;have hgw:(aB (bK z)).getD (((x-2*z.length)/2+1)%(aB (bK z)).length) 0=w:=by rw[cY,hw];rfl
  have oy:=c.ok y (aW hy);have hd:dn (bK z) w=y.p.d:=by have:=(dV w y hy).1;rw[(oy.pb w2).2] at this;revert this;cases y.p.d<;>cases dn (bK z) w<;>simp
  have t:=HE (ls:=bK z) ((x-2*z.length)/2);rw[hn,<- ex] at t;rw[t,hgw,UU h hy,hd];have a:=(c.OK hl hu hw he hy).1;have r:=acn hgu he;rw[<- ex] at r;rw[r,a];unfold bk.up;cases y.p.d<;>simp[iI]
 have ex:x=2*z.length+2*((x-2*z.length)/2)+1:=aa;have oy:=c.ok e (aW he);have hd:dn (bK z) u=e.p.d:=by have:=(dV u e he).1;rw[(oy.pb u2).2] at this;revert this;cases e.p.d<;>cases dn (bK z) u<;>simp
 have t:=HD (ls:=bK z) ((x-2*z.length)/2);rw[hn,<- ex] at t;rw[t,hgu,UU h he,hd];have r:=acm hgu he;rw[<- ex] at r;rw[r];unfold bk.lo;cases e.p.d<;>simp[iI]
theorem Cz.check{T B:Nat->Nat->Nat}{S:List Nat}(c:Cz F z T B S){x:bk}{r:List bk}(hz:z=x::r)(hp:x.k.aJ=true)(hd:x.p.d=true)(hl:z.length<=400)(fU:aC Let.aG (bK z)<=200)(hF:F<=40):di F (bK z)=0:=by
 have ok:=c.dg aa;have hn:(bK z).length=z.length:=cH ..;obtain⟨s,h⟩:=c.path;have nA:z[0]?=some x:=by rw[hz];rfl
 have hs:s.b=false:=by rw[<- Nu h nA,((c.ok x (aW nA)).pb hp).2,hd];rfl
 have ju:0<z.length:=by rw[hz];simp
 have dV:=Vz c.ok h hs;have dR:aC Let.aJ (bK z)%2=0:=by
  obtain⟨y,hy⟩:=aM (ls:=z) (k:=z.length-1) aa;have:=(dV _ y hy).2;rw[adO h hy,hs,show z.length-1+1=(bK z).length by rw[hn];omega] at this;unfold dn at this;rw[kE] at this
  simpa using this
 have MB:pN (bK z)=aC Let.aJ (bK z)+aC Let.aG (bK z)/2+2:=by
  obtain⟨b1,b2⟩:=ajZ ok;have key:∀a∈S,∃d,og z d=a/\d<2*z.length:=fun a ha=>by
   obtain⟨y,hy,e⟩:=c.wit a ha;obtain⟨j,hj⟩:=jd hy;have nu:=(bg.1 hj).1;rcases e with e|e
   .exact⟨2*j,by unfold og;rw[aD aa,aD aa,show 2*j/2=j by omega,Ek hj,e],aa⟩
   exact⟨2*j+1,by unfold og;rw[aD aa,ay aa,show(2*j+1)/2=j by omega,Ek hj,e],aa⟩
  obtain⟨M,m1,m2⟩:=acw (P:=fun a d=>og z d=a/\d<2*z.length) (f:=og z) (fun a d h=>h.1) key;have hN:nD (bK z)=2*z.length+2*(aB (bK z)).length:=by unfold nD;rw[hn]
  have:=atw (maps ok) (φ:=og z) (fun y hy=>c.walk aa h hs hy) (reps:=M) (fun d hd=>by obtain⟨_,_,h⟩:=m2 d hd;omega) (by rw[m1];exact c.nd)
  have hM:M.length=S.length:=by rw[<- m1,cH]
  have hnum:=c.num;have:M.length<=pN (bK z):=this;omega
 have aI:bK z≠[]:=by intro e;rw[e] at hn;simp at hn;omega
 unfold di;rw[ay (by rw[hn];omega),ay aa,ay aI,aD];unfold lG;have mv:=(NA c.qY).2 ⟨ok.ax.eQ,ok.ax.inj⟩;have TP:(bK z).any (dA F)=false:=HO.2 fun l hl=>by obtain⟨y,hy,rfl⟩:=dI.1 hl;rw[(c.ok y hy).bad];decide
 rw[JK nA,U1.2 ⟨TP,mv,ok.cr⟩,MB,dR];have hk:(x.k.kind==1)=true:=hp;simp only[hk,BD,Ar]
theorem Cert.check{l:List Pc}(c:Cert F l)(hl:l.length<=400)(fU:aC Let.aG (l.map Pc.l)<=200)(hF:F<=40):di F (nh l)=0:=by
 obtain⟨w,T,B,S,x,r,hz,hp,hd,A6,hlen,cz⟩:=c.fin;have zN:aC Let.aG (bK w)=aC Let.aG (l.map Pc.l):=by
  rw[A6];have hf:(tR l).getD 0<=l.length:=by
   cases h:tR l with
   |none=>exact bj _
   |some f=>have:=KS h;simp at this;simp only[lZ];omega
  unfold nh;rw[aeq hf];show List.countP _ _=List.countP _ _;rw[rQ,FQ,WX,<- FQ,<- rQ,sQ]
 rw[<- A6];exact cz.check hz hp hd aa aa hF
end
def xj(ls:List Let)(x:Nat):Nat:=Dy (eh (aY ls) (nD ls)) x
def qF(ls:List Let)(i:Nat):eO:=⟨xj ls (2*i),xj ls (2*i+1),!dn ls (i+1)⟩
def dE(ls:List Let)(i:Nat):bk:=⟨⟨ls.getD i kO,iz ls i⟩,qF ls ((i+ls.length-1)%ls.length),qF ls i⟩
def zF (ls:List Let):List bk:=(List.range ls.length).map (dE ls)
def TF (ls:List Let)(g k:Nat):Nat:=xj ls (2*ls.length+2*((fQ ls g+k+(aB ls).length-1)%(aB ls).length))
def BF (ls:List Let)(g k:Nat):Nat:=xj ls (2*ls.length+2*((fQ ls g+k+(aB ls).length-1)%(aB ls).length)+1)
theorem afT(ls:List Let):(zF ls).map bk.p=pieces ls:=by unfold zF pieces;rw[yL];rfl
theorem tD(ls:List Let):bK (zF ls)=ls:=by
 have h:bK (zF ls)=(pieces ls).map Pc.l:=by rw[<- afT,yL];rfl
 rw[h];apply Au;intro i;rw[fT];by_cases hi:i<ls.length
 .obtain⟨l,hl⟩:=aM hi;rw[pP hl,hl];rfl
 rw[mS (by rw[jJ];omega),mS aa];rfl
theorem WB(ls:List Let):(zF ls).length=ls.length:=by simp[zF]
theorem FM{ls:List Let}{i:Nat}(h:i<ls.length):(zF ls)[i]?=some (dE ls i):=by simp[zF,h]
theorem dU{ls:List Let}{i:Nat}{l:Let}(h:ls[i]?=some l):(dE ls i).k=l:=by show ls.getD i kO=l;rw[cY,h];rfl
theorem adQ(f:Nat->bk)(e:Nat->eO):∀k a,(∀i,a<=i->i<a+k->(f i).i=e i/\(f i).o=e (i+1))->lM (e a) ((List.range' a k).map f) (e (a+k)):=by
 intro k
 induction k with
 |zero=>intro a _;rfl
 |succ k ih=>intro a h;rw[List.range'_succ,fy];obtain⟨h1,h2⟩:=h a (bJ _) aa;refine⟨h1,?_⟩;rw[h2,show a+(k+1)=a+1+k by omega];exact ih (a+1) fun i hi hk=>h i aa aa
theorem Qz{R:bk->bk->Prop}{f:Nat->bk}{n:Nat}(h:∀i j,i<n->j<n->i≠j->R (f i) (f j)):((List.range n).map f).Pairwise R:=BC.2 (WD (fun {a b} ha hb dX=>h a b (fg.1 ha) (fg.1 hb) dX) (HS (n:=n)))
section
variable {F:Nat} {ls:List Let}
theorem VE(g:bQ F ls){i:Nat}{w:List Nat}(hi:(eh (aY ls) (nD ls))[i]?=some w)(hx:x∈w):xj ls x=i:=NY (HJ _ _).1 hi hx
theorem ao8(g:bQ F ls)(hx:x<nD ls):∃w,(eh (aY ls) (nD ls))[xj ls x]?=some w/\x∈w:=by obtain⟨u,hu,hxu⟩:=HR.1 ((HJ (aY ls) (nD ls)).2 x hx);obtain⟨i,hi⟩:=jd hu;rw[VE g hi hxu];exact⟨u,hi,hxu⟩
theorem Ft(g:bQ F ls)(hx:x<nD ls):xj ls (aY ls x)=xj ls x:=by obtain⟨w,hw,EW⟩:=ao8 g hx;exact VE g hw (Ao (maps g.ok) (aW hw) EW)
theorem VD(g:bQ F ls){v:Nat}(hv:v<ls.length)(fw:Bool):xj ls (jf ls.length v fw)=if fw then (dE ls v).i.l else (dE ls v).o.r:=by cases fw<;>rfl
theorem QG{v:Nat}(fw:Bool):xj ls (dT ls.length v fw)=if fw then (dE ls v).o.l else (dE ls v).i.r:=by cases fw<;>rfl
theorem Zb(g:bQ F ls):dn ls ls.length=true:=by unfold dn;rw[kE];have:=g.even;simp[this]
theorem UF(g:bQ F ls){i:Nat}(hi:i<ls.length):(dE ls i).i.b= !dn ls i:=by
 show(!dn ls ((i+ls.length-1)%ls.length+1))=_;by_cases h:i=0
 .subst h;rw[jm,jN aa,show ls.length-1+1=ls.length by omega,Zb g];rfl
 rw[show i+ls.length-1=(i-1)+ls.length by omega,DI,jN aa,show i-1+1=i by omega]
theorem Ih{v:Nat}(hv:v<ls.length)(fw:Bool):jf ls.length v fw<nD ls:=by have:=DR hv fw;unfold nD;omega
theorem O3(g:bQ F ls){v:Nat}{l:Let}(hl:ls[v]?=some l)(hp:l.aJ=true):(dE ls v).p.d=dn ls v:=by show iz ls v=_;simp[iz,hl,hp]
theorem Ee(g:bQ F ls){i:Nat}(hi:i<ls.length):Bi F (dE ls i):=by
 obtain⟨l,hl⟩:=aM hi;have hk:=dU hl;refine⟨by rw[hk];exact g.bad l (aW hl),fun hc=>?_,fun hp=>?_⟩
 .rw[hk] at hc;rw[UF g hi];show _= !dn ls (i+1);rw[Ls hl (by
   cases hp:l.aJ
   .rfl
   rw[sD hp] at hc;cases hc)]
 rw[hk] at hp;rw[UF g hi,O3 g hl hp];refine⟨?_,rfl⟩;show(!dn ls (i+1))=_;rw[Lr hl hp,Oc]
theorem Ly(g:bQ F ls){i j:Nat}(hi:i<ls.length)(hj:j<ls.length)(eU:i≠j):Xr (dE ls i) (dE ls j):=by
 obtain⟨l,hl⟩:=aM hi;obtain⟨m,hm⟩:=aM hj;intro hc mc e;rw[dU hl] at hc e;rw[dU hm] at mc e;obtain⟨_,hp⟩:=g.ids;obtain⟨d1,d2⟩:=hp i j l m hl hm hc mc e eU;obtain⟨b1,w,hw,wc,wi,wo,ws⟩:=sE g.ok.cr hl hc;have hoj:hJ ls i=j:=by refine Classical.byContradiction fun aI=>?_;have d3:=(hp _ _ w m hw hm wc mc (by rw[wi,e]) aI).1;rw[wo] at d3;revert d1 d3;cases l.over<;>cases m.over<;>simp
 refine⟨?_,by rw[dU hl,dU hm];exact d2,?_⟩
 .rw[dU hl,dU hm];revert d1;cases l.over<;>cases m.over<;>simp
 rw[dU hl];have t1:=Ft g (Ih hi true);have t2:=Ft g (Ih hi false);have t3:=Ft g (Ih hj true);have t4:=Ft g (Ih hj false);rw[Dv hl hc,hoj,QG,VD g hi] at t1 t2;rw[Dv hm mc,<- hoj,b1,hoj,QG,VD g hj] at t3 t4;have hg:(m.over==(m.sign==1))= !gX l:=by unfold gX;rw[<- d2];revert d1;cases l.over<;>cases m.over<;>cases (l.sign==1)<;>simp
 rw[hg] at t3 t4;have GA:(l.over==(l.sign==1))=gX l:=rfl;rw[GA] at t1 t2;cases hgx:gX l<;>rw[hgx] at t1 t2 t3 t4<;>simp at t1 t2 t3 t4<;>constructor<;>simp[t1,t2,t3,t4]
theorem O4(g:bQ F ls){v:Nat}{l:Let}(hl:ls[v]?=some l)(hp:l.aJ=true):plE (TF ls) (BF ls) (dE ls v):=by
 have hv:=(bg.1 hl).1;have ok:=g.ok;have gd:=ok.ax.eQ l (aW hl) hp;obtain⟨g0,g1,r0,r1⟩:=gd;obtain⟨a1,a2⟩:=Ij ok hl hp;have T4:=Lb ok.ax hl hp;have hP:fQ ls l.gate.toNat+l.aE.toNat=(aB ls).idxOf v+1:=by rw[T4];unfold dO;omega
 have hPm:fQ ls l.gate.toNat+(l.aE.toNat-1)=(aB ls).idxOf v:=aa;have eR:(fQ ls l.gate.toNat+l.aE.toNat+(aB ls).length-1)%(aB ls).length=(aB ls).idxOf v:=by rw[hP,show(aB ls).idxOf v+1+(aB ls).length-1=(aB ls).idxOf v+(aB ls).length by omega,DI,jN a1]
 have hk:=dU hl;have hd:=O3 g hl hp;have nR:∀k,k<(aB ls).length->2*ls.length+2*k<nD ls/\2*ls.length+2*k+1<nD ls:=fun k hk=>by unfold nD;omega
 have hm:=ez ((aB ls).idxOf v+(aB ls).length-1) (show 0<(aB ls).length by omega);have q1:=Ft g (Ih hv (dn ls v));have q2:=Ft g (Ih hv (!dn ls v));have q3:=Ft g (nR _ a1).2;have q4:=Ft g (nR _ hm).1;rw[Kw hl hp,VD g hv] at q1 q2;rw[HD,a2,QG] at q3;rw[HE,vF a1,a2,QG] at q4;constructor
 .rw[hk];unfold TF;rw[hPm];unfold bk.up;rw[hd];cases dV:dn ls v<;>rw[dV] at q4<;>exact q4
 .rw[hk];unfold TF;rw[eR];unfold bk.up;rw[hd];cases dV:dn ls v<;>rw[dV] at q1<;>exact q1.symm
 .rw[hk];unfold BF;rw[hPm];unfold bk.lo;rw[hd];cases dV:dn ls v<;>rw[dV] at q2<;>exact q2.symm
 rw[hk];unfold BF;rw[eR];unfold bk.lo;rw[hd];cases dV:dn ls v<;>rw[dV] at q3<;>exact q3
theorem bQ.cz(g:bQ F ls):Cz F (zF ls) (TF ls) (BF ls) (List.range (pN ls)):=by
 have hn:0<ls.length:=jl.2 g.ne;have mem:∀x∈zF ls,∃i,i<ls.length/\x=dE ls i:=fun x hx=>by obtain⟨i,hi,rfl⟩:=dI.1 hx;exact⟨i,fg.1 hi,rfl⟩
 have hT:fQ ls (F+1)=(aB ls).length:=FX fun l hl hp=>((xg hp).1 (g.bad l hl)).1.1.1;have hs:=tS ls F;have hm:0<(aB ls).length:=by obtain⟨l,h1,h2⟩:=g.first;exact KM (sY.2 ⟨l,h1,h2⟩)
 have fU:=g.ok.cr;unfold lQ at fU;simp only[cN,dL] at fU;refine⟨⟨qF ls (ls.length-1),?_⟩,fun x hx=>?_,Qz fun i j hi hj eU=>Ly g hi hj eU,by rw[tD];exact fU.1.1,fun x hx hc=>?_,Qz fun i j hi hj eU=>?_,fun x hx hp=>?_,fun x hx hp=>?_,
  fun k hk=>?_,?_,?_,HS,fun s hs=>?_,?_⟩
 .have:=adQ (dE ls) (fun i=>qF ls ((i+ls.length-1)%ls.length)) ls.length 0 fun i _ hi=>⟨rfl,?_⟩
  .simp only[jm] at this;rw[jN aa,show ls.length+ls.length-1=(ls.length-1)+ls.length by omega,DI,jN aa,<- aga] at this;exact this
  show qF ls i=qF ls ((i+1+ls.length-1)%ls.length);rw[show i+1+ls.length-1=i+ls.length by omega,DI,jN aa]
 .obtain⟨i,hi,rfl⟩:=mem x hx;exact Ee g hi
 .obtain⟨i,hi,rfl⟩:=mem x hx;obtain⟨l,hl⟩:=aM hi;rw[dU hl] at hc ⊢;rw[tD];exact g.ids.1 l (aW hl) hc
 .obtain⟨l,hl⟩:=aM hi;obtain⟨m,hm⟩:=aM hj;intro pl pm e1 e2;rw[dU hl] at pl e1 e2;rw[dU hm] at pm e1 e2;exact eU (g.ok.ax.inj i j l m hl hm pl pm ((Fu (g.ok.ax.eQ l (aW hl) pl) (g.ok.ax.eQ m (aW hm) pm)).2 ⟨e1,e2⟩))
 .obtain⟨i,hi,rfl⟩:=mem x hx;obtain⟨l,hl⟩:=aM hi;rw[dU hl] at hp ⊢;rw[tD];obtain⟨_,_,r0,r1⟩:=g.ok.ax.eQ l (aW hl) hp;exact⟨r0,r1⟩
 .obtain⟨i,hi,rfl⟩:=mem x hx;obtain⟨l,hl⟩:=aM hi;rw[dU hl] at hp;exact O4 g hl hp
 .rw[tD];unfold TF BF;rw[tS ls k,xA];exact⟨rfl,rfl⟩
 .rw[tD];unfold TF BF;have e1:fQ ls F+cg ls F=(aB ls).length:=aa;have e0:fQ ls 0=0:=rfl;rw[e1,e0,jm,show(aB ls).length+(aB ls).length-1=((aB ls).length-1)+(aB ls).length by omega,DI];exact⟨rfl,rfl⟩
 .obtain⟨l,h1,h2⟩:=g.first;exact⟨dE ls 0,aW (FM hn),by rw[dU h1];exact h2⟩
 .obtain⟨w,hw⟩:=aM (fg.1 hs);obtain⟨⟨d,t,e,hd⟩,_⟩:=KE g.ok w (aW hw);have hp:xj ls d=s:=VE g hw (by rw[e];simp);refine⟨dE ls (d/2),aW (FM aa),?_⟩;rcases Ax d with h|h
  .refine .inl ?_;show s=xj ls (2*(d/2));rw[show 2*(d/2)=d by omega,hp]
  refine .inr ?_;show s=xj ls (2*(d/2)+1);rw[show 2*(d/2)+1=d by omega,hp]
 rw[tD,KN,g.nw];omega
end
structure Cq (F:Nat) (z:List bk) (T B:Nat->Nat->Nat):Prop where
 ok:∀x∈z,Bi F x
 cr:z.Pairwise Xr
 ev:aC Let.aG (bK z)%2=0
 ids:∀x∈z,x.k.aG=true->1<=x.k.id/\x.k.id<=((aC Let.aG (bK z)/2:Nat):Int)
 rk:z.Pairwise Dr
 rr:∀x∈z,x.k.aJ=true->1<=x.k.aE/\x.k.aE<=(cg (bK z) x.k.gate.toNat:Int)
 pl:∀x∈z,x.k.aJ=true->plE T B x
 gt:∀g,g<F->T g (cg (bK z) g)=T (g+1) 0/\B g (cg (bK z) g)=B (g+1) 0
 gz:T F (cg (bK z) F)=T 0 0/\B F (cg (bK z) F)=B 0 0
def eO.mp(ψ:Nat->Nat)(s:eO):eO:=⟨ψ s.l,ψ s.r,s.b⟩
def bk.mp(ψ:Nat->Nat)(h:Let->Let)(x:bk):bk:=⟨⟨h x.p.l,x.p.d⟩,x.i.mp ψ,x.o.mp ψ⟩
theorem X4.mp{g:Bool}{i o j q:eO}(h:X4 g i o j q)(ψ:Nat->Nat):X4 g (i.mp ψ) (o.mp ψ) (j.mp ψ) (q.mp ψ):=by obtain⟨a,b,c,d⟩:=h;cases g<;>simp only[dQ,if_false,if_true] at a b c d<;>constructor<;>simp[eO.mp,a,b,c,d]
theorem ZK{S L:List Nat}(hn:S.Nodup):S.length<=(S.filter fun s=> !L.contains s).length+L.length:=by
 have h1:S.length=(S.filter fun s=> !L.contains s).length+(S.filter fun s=>L.contains s).length:=by have:=List.length_eq_countP_add_countP (fun s=> !L.contains s) (l:=S);rw[WI,WI] at this;rw[this];congr 2;apply List.filter_congr;intro x _;simp
 have h2:=Kp (S.filter fun s=>L.contains s) L (hn.filter _) fun x hx=>by simpa using (vS.1 hx).2
 omega
structure K4 (h:Let->Let):Prop where
 kind:∀l,(h l).kind=l.kind
 over:∀l,(h l).over=l.over
 sign:∀l,(h l).sign=l.sign
theorem K4.aJ{h:Let->Let}(s:K4 h)(l:Let):(h l).aJ=l.aJ:=by unfold Let.aJ;rw[s.kind]
theorem K4.aG{h:Let->Let}(s:K4 h)(l:Let):(h l).aG=l.aG:=by unfold Let.aG;rw[s.kind]
section
variable {F:Nat} {X r X':List bk} {T B T' B':Nat->Nat->Nat} {S:List Nat} {ψ:Nat->Nat} {h:Let->Let}
theorem Cz.q{z:List bk}(c:Cz F z T B S):Cq F z T B:=⟨c.ok,c.cr,c.ev,c.ids,c.rk,c.rr,c.pl,c.gt,c.gz⟩
theorem Cq.perm{z z':List bk}(c:Cq F z T B)(hh:z.Perm z'):Cq F z' T B:=by
 have hm:∀ {x},x∈z'↔x∈z:=fun {x}=>hh.symm.mem_iff;have e:∀p,aC p (bK z')=aC p (bK z):=fun p=>(SN hh).symm;have eg:∀g,cg (bK z') g=cg (bK z) g:=fun g=>e _;exact⟨fun x hx=>c.ok x (hm.1 hx),(hh.pairwise_iff fun {x y}=>Xr.symm).1 c.cr,by rw[e];exact c.ev,fun x hx=>by rw[e];exact c.ids x (hm.1 hx),(hh.pairwise_iff fun {x y}=>Dr.symm).1 c.rk,
  fun x hx=>by rw[eg];exact c.rr x (hm.1 hx),fun x hx=>c.pl x (hm.1 hx),fun g hg=>by rw[eg];exact c.gt g hg,by rw[eg];exact c.gz⟩
theorem Bi.mp{x:bk}(o:Bi F x)(s:K4 h)(hb:dA F (h x.k)=false):Bi F (x.mp ψ h):=by
 refine⟨hb,fun hc=>?_,fun hp=>?_⟩
 .exact o.cb (by rw[<- s.aG];exact hc)
 exact o.pb (by rw[<- s.aJ];exact hp)
theorem Cq.done{l:List Pc}{z':List bk}{L N:List Nat}{V:Nat}(q:Cq F (X'++r.map (bk.mp ψ h)) T' B')(fj:S.Nodup)(wit:∀s∈S,∃x∈X++r,s=x.o.l\/s=x.o.r)
  (zN:z'.Perm (X'++r.map (bk.mp ψ h))) (Um:∃s,lM s z' s) (hl:z'.map bk.p=l) (one:∃x∈X'++r.map (bk.mp ψ h),x.k.aJ=true)
  (hψ:∀s∈S,s∉L->ψ s=s) (hX:∀x∈X,∀s∈S,(s=x.o.l\/s=x.o.r)->s∉L->∃y∈X'++r.map (bk.mp ψ h),s=y.o.l\/s=y.o.r)
  (hN:N.Nodup) (hNS:∀s∈N,s∉S) (hNw:∀s∈N,∃y∈X'++r.map (bk.mp ψ h),s=y.o.l\/s=y.o.r)
  (hS:V<=S.length) (num:aC Let.aJ (bK (X'++r.map (bk.mp ψ h)))+aC Let.aG (bK (X'++r.map (bk.mp ψ h)))/2+1+L.length<=V+N.length):Cert F l:=by
 have qz:=q.perm zN.symm;have hm:∀ {x},x∈z'↔x∈X'++r.map (bk.mp ψ h):=fun {x}=>zN.mem_iff;refine⟨z',T',B',N++S.filter (fun s=> !L.contains s),hl,⟨Um,qz.ok,qz.cr,qz.ev,qz.ids,qz.rk,qz.rr,qz.pl,qz.gt,qz.gz,?_,?_,fun s hs=>?_,?_⟩⟩
 .obtain⟨x,hx,e⟩:=one;exact⟨x,hm.2 hx,e⟩
 .refine DH.2 ⟨hN,fj.filter _,fun a ha b hb e=>?_⟩;subst e;exact hNS a ha (vS.1 hb).1
 .have key:∃y∈X'++r.map (bk.mp ψ h),s=y.o.l\/s=y.o.r:=by
   rcases dZ.1 hs with hs|hs
   .exact hNw s hs
   obtain⟨h1,h2⟩:=vS.1 hs;have h2:s∉L:=by simpa using h2
   obtain⟨x,hx,e⟩:=wit s h1;rcases dZ.1 hx with hx|hx
   .exact hX x hx s h1 e h2
   refine⟨x.mp ψ h,Ol _ (dI.2 ⟨x,hx,rfl⟩),?_⟩;have hp:=hψ s h1 h2;rcases e with e|e
   .left;show s=ψ x.o.l;rw[<- e,hp]
   right;show s=ψ x.o.r;rw[<- e,hp]
  obtain⟨y,hy,e⟩:=key;exact⟨y,hm.2 hy,e⟩
 have e:∀p,aC p (bK z')=aC p (bK (X'++r.map (bk.mp ψ h))):=fun p=>SN zN;rw[e,e,eG];have:=ZK (L:=L) fj;omega
end
theorem vD{l:Let}(h:l.aG=true):l.aJ=false:=by
 cases hp:l.aJ
 .rfl
 rw[sD hp] at h;cases h
section
variable {F:Nat} {ls:List Let}
end
section
variable {F:Nat} {ls:List Let}
end
end
end Go.Abs
