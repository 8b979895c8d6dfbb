/-
  Certificates: names of faces at each letter show that a code is valid.
-/
import Derived.Test.YthcnadmehopfcaaGreatDoorVe
set_option linter.all false
set_option maxHeartbeats 16000000
namespace Go.Abs
section
variable{F x:Nat}
theorem YM{R:Nat->Nat->Prop}{n:Nat}{L:List Nat}(h:∀x,x<n->∃r∈L,aZ R x r):K (aZ R) n<=L.length:=by
 have key:∀M:List Nat,M.Nodup->(∀x∈M,x<n/\ld (aZ R) x)->∃N:List Nat,N.length=M.length/\N.Nodup/\ ∀r∈N,r∈L/\ ∃x∈M,aZ R x r:=by
  intro M
  induction M with
  |nil=>intro _ _;exact⟨[],rfl,uh,af⟩
  |cons a M ih=>
   intro hn hm;obtain⟨n1,n2⟩:=qy.1 hn;obtain⟨N,l1,l2,l3⟩:=ih n2 fun x hx=>hm x (by simp[hx]);obtain⟨ha,la⟩:=hm a af;obtain⟨r,hr,e⟩:=h a ha;refine⟨r::N,by simp[l1],qy.2 ⟨fun hN=>?_,l2⟩,fun q hq=>?_⟩
   .obtain⟨_,x,hx,ex⟩:=l3 r hN;have e1:=la x (e.trans ex.symm);have e2:=(hm x (by simp[hx])).2 a (ex.trans e.symm);have:a=x:=aa;exact n1 (this▸hx)
   rcases cM.1 hq with rfl|hq
   .exact⟨hr,a,af,e⟩
   obtain⟨q1,x,hx,ex⟩:=l3 q hq;exact⟨q1,x,by simp[hx],ex⟩
 obtain⟨N,l1,l2,l3⟩:=key ((List.range n).filter (Bj (aZ R))) (DA.filter _) fun x hx=>by obtain⟨h1,h2⟩:=uZ.1 hx;exact⟨gA.1 h1,JR.1 h2⟩
 unfold K;rw[Sd,<- l1];exact KG _ _ l2 fun r hr=>(l3 r hr).1
theorem Qv(p:Nat->Nat)(x:Nat):∀i j,it p (i+j) x=it p i (it p j x):=by
 intro i j
 induction i with
 |zero=>rw[iQ];rfl
 |succ i ih=>rw[show i+1+j=(i+j)+1 by omega];show p (it p (i+j) x)=p (it p i (it p j x));rw[ih]
theorem aoV{p:Nat->Nat}{m:Nat}(h:it p m x=x):∀k,it p (k*m) x=x:=by
 intro k
 induction k with
 |zero=>rw[As];rfl
 |succ k ih=>rw[So,Qv,h,ih]
theorem aqQ{n:Nat}{p:Nat->Nat}(h:Perm n p){a b:Nat}(e:aZ (gr n p) a b):a=b\/(a<n/\b<n/\ ∃k,it p k a=b):=by
 induction e with
 | @rel a b r=>obtain⟨ha,rfl⟩:=r;exact .inr ⟨ha,h.lt _ ha,1,rfl⟩
 |refl _=>exact .inl rfl
 | @symm a b _ ih=>
  rcases ih with rfl|⟨ha,hb,k,hk⟩
  .exact .inl rfl
  obtain⟨m,hm⟩:=h.aau ha;refine .inr ⟨hb,ha,k*m,?_⟩;rw[<- hk,<- Qv,show k*m+k=k*(m+1) by rw[Nat.mul_succ]];exact aoV hm k
 |trans _ _ i1 i2=>
  rcases i1 with rfl|⟨ha,hb,k,hk⟩
  .exact i2
  rcases i2 with rfl|⟨_,hc,j,hj⟩
  .exact .inr ⟨ha,hb,k,hk⟩
  exact .inr ⟨ha,hc,j+k,by rw[Qv,hk,hj]⟩
theorem auU{n:Nat}{p:Nat->Nat}(h:Perm n p){a b:Nat}(eH:a≠b)(e:aZ (gr n p) a b):¬aZ (gr n (tr p (a,b))) a b:=by
 rcases aqQ h e with he|⟨ha,hb,k0,A5⟩
 .exact absurd he eH
 obtain⟨k,hk,adn⟩:=aa0 (p:=fun k=>it p k a=b) k0 A5;have k1:1<=k:=by
  rcases Nat.eq_zero_or_pos k with rfl|h
  .exact absurd hk eH
  exact h
 have na:∀j,1<=j->j<=k->it p j a≠a:=fun j j1 j2 ej=>by
  rcases Nat.lt_or_eq_of_le j2 with c|rfl
  .have:it p (k-j) a=b:=by
    rw[<- hk,show k=(k-j)+j by omega,Qv,ej];congr 1;omega
   have:=adn _ this;omega
  exact eH (ej.symm.trans hk)
 have nb:∀j,j<k->it p j a≠b:=fun j j1 ej=>by have:=adn j ej;omega
 intro e2;have inv:∀x y,gr n (tr p (a,b)) x y->(∃j,1<=j/\j<=k/\x=it p j a)=(∃j,1<=j/\j<=k/\y=it p j a):=by
  rintro x y ⟨hx,rfl⟩
  apply propext;unfold tr;simp only;constructor
  .rintro ⟨j,j1,j2,rfl⟩
   rw[ay (na j j1 j2)];by_cases c:it p j a=b
   .rw[aF c];exact⟨1,aa,k1,rfl⟩
   rw[ay c];refine⟨j+1,aa,?_,rfl⟩;rcases Nat.lt_or_eq_of_le j2 with d|rfl
   .exact d
   exact absurd hk c
  by_cases c:x=a
  .rw[aF c];rintro ⟨j,j1,j2,ej⟩
   exfalso;have:=h.inj _ _ hb (h.GI ha (j-1)) (by rw[ej,show j=(j-1)+1 by omega];rfl);by_cases d:j=1
   .subst d;exact eH this.symm
   exact nb (j-1) aa this.symm
  rw[ay c];by_cases d:x=b
  .subst d;intro _;exact⟨k,k1,bJ _,hk.symm⟩
  rw[ay d];rintro ⟨j,j1,j2,ej⟩
  have:=h.inj _ _ hx (h.GI ha (j-1)) (by rw[ej,show j=(j-1)+1 by omega];rfl);by_cases f:j=1
  .subst f;exact absurd this c
  exact⟨j-1,aa,aa,this⟩
 have:=e2.inv inv;have xR:∃j,1<=j/\j<=k/\b=it p j a:=⟨k,k1,bJ _,hk.symm⟩;rw[<- this] at xR;obtain⟨j,j1,j2,ej⟩:=xR;exact na j j1 j2 ej.symm
theorem K_tr{n:Nat}{p:Nat->Nat}(h:Perm n p){a b:Nat}(ha:a<n)(hb:b<n)(eH:a≠b):(K (aZ (gr n (tr p (a,b)))) n+K (aZ (gr n p)) n)%2=1:=by
 have one:∀x y,aZ (qB (gr n (tr p (a,b))) a b) x y↔aZ (qB (gr n p) a b) x y:=fun x y=>by have h:=Sz (p:=p) (S:=fun _ _=>False) ha hb (x:=x) (y:=y);have e:∀q:Nat->Nat,(fun x y=>gr n q x y\/False)=gr n q:=fun q=>funext fun x=>funext fun y=>propext af;rw[e,e] at h;exact h
 have kj:K (aZ (qB (gr n (tr p (a,b))) a b)) n=K (aZ (qB (gr n p) a b)) n:=HR one n;rcases Classical.em (aZ (gr n p) a b) with c|c
 .have k1:=Sr c n;have k2:=Sq ha hb (auU h eH c);omega
 have k1:=Sq ha hb c;have k2:=Sr (ahH h ha hb c) n;omega
theorem aiA{n:Nat}:∀(ts:List (Nat×Nat)) (p:Nat->Nat),Perm n p->(∀t∈ts,t.1<n/\t.2<n/\t.1≠t.2)->(K (aZ (gr n (ts.foldl tr p))) n+K (aZ (gr n p)) n+ts.length)%2=0:=by
 intro ts
 induction ts with
 |nil=>intro p _ _;simp only[Sg,ez];omega
 |cons t ts ih=>
  intro p hp ht;obtain⟨a,b⟩:=t;obtain⟨ha,hb,eH⟩:=ht (a,b) af
  replace ha:a<n:=ha
  replace hb:b<n:=hb
  replace eH:a≠b:=eH
  have e1:=ih (tr p (a,b)) (hp.tr ha hb) fun t h=>ht t (by simp[h]);have e2:(K (aZ (gr n (tr p (a,b)))) n+K (aZ (gr n p)) n)%2=1:=K_tr hp ha hb eH;simp only[Ap,dh];omega
def kG(ls:List Let)(x:Nat):Nat:=aS ls (rv x)
def vV(k:Nat):List (Nat×Nat):=(List.range k).map fun e=>(2*e,2*e+1)
theorem au4(q:Nat->Nat):∀k y,(vV k).foldl tr q y=if y<2*k then q (rv y) else q y:=by
 intro k
 induction k with
 |zero=>intro y;rw[ay aa];rfl
 |succ k ih=>
  intro y;have e:vV (k+1)=vV k++[(2*k,2*k+1)]:=by unfold vV;rw[we,j6];rfl
  rw[e,HF,Ap,Sg,KL];by_cases c1:y=2*k
  .subst c1;rw[aF rfl,ih,ay aa,aF aa,rW]
  rw[ay c1];by_cases c2:y=2*k+1
  .subst c2;rw[aF rfl,ih,ay aa,aF aa,xf]
  rw[ay c2,ih];by_cases c3:y<2*k
  .rw[aF c3,aF aa]
  rw[ay c3,ay aa]
theorem aZ.push{R R':Nat->Nat->Prop}{f:Nat->Nat}(h:∀a b,R a b->aZ R' (f a) (f b)){y:Nat}(e:aZ R x y):aZ R' (f x) (f y):=by
 induction e with
 |rel r=>exact h _ _ r
 |refl a=>exact .refl _
 |symm _ ih=>exact ih.symm
 |trans _ _ i1 i2=>exact i1.trans i2
section
variable {F:Nat} {ls:List Let}
theorem XL(ok:eX F ls):Perm (nD ls) (kG ls):=by
 have m:=maps ok;have hN:=Br ls;have hr:∀y,y<nD ls->rv y<nD ls:=fun y hy=>by rw[hN] at hy ⊢;exact yD hy
 refine⟨fun y hy=>m.lt _ (hr y hy),fun x y hx hy e=>?_⟩;have:=m.inj _ _ (hr x hx) (hr y hy) e;rw[<- xh x,this,xh]
abbrev E2(ls:List Let):Nat:=ls.length+(aB ls).length
theorem agI{y:Nat}(hy:y<nD ls):(vV (E2 ls)).foldl tr (kG ls) y=aS ls y:=by rw[au4,aF (by rw[Br] at hy;exact hy)];unfold kG;rw[xh]
theorem anf(x y:Nat):aZ (gr (nD ls) ((vV (E2 ls)).foldl tr (kG ls))) x y↔aZ (gr (nD ls) (aS ls)) x y:=
 ⟨aZ.mono fun a b r=>by obtain⟨h,rfl⟩:=r;exact .rel ⟨h,agI h⟩,aZ.mono fun a b r=>by obtain⟨h,rfl⟩:=r;exact .rel ⟨h,(agI h).symm⟩⟩
theorem ahK{k:Nat}:∀t∈vV k,t.1<2*k/\t.2<2*k/\t.1≠t.2:=by intro t ht;obtain⟨e,he,rfl⟩:=dp.1 ht;have:=gA.1 he;refine⟨?_,?_,?_⟩<;>simp only<;>omega
theorem aiy(ok:eX F ls):K (aZ (gr (nD ls) (aS ls))) (nD ls)=lh ls:=by
 obtain⟨eZ,PN⟩:=Ht (aS ls) (nD ls);have qe:∀w∈gI (aS ls) (nD ls),w≠[]:=fun w hw=>by obtain⟨⟨d,t,e,_⟩,_⟩:=Hs ok w hw;rw[e];simp
 have hlen:((gI (aS ls) (nD ls)).map (·.headD 0)).length=lh ls:=by rw[cD];rfl
 refine Nat.le_antisymm ?_ ?_
 .rw[<- hlen];refine YM fun x hx=>?_;obtain⟨w,hw,EG⟩:=Fm.1 (PN x hx);obtain⟨⟨d,t,e,_⟩,_⟩:=Hs ok w hw;refine⟨w.headD 0,dp.2 ⟨w,hw,rfl⟩,?_⟩;exact Yf (maps ok) (R:=gr (nD ls) (aS ls)) (fun y hy=>.rel ⟨hy,rfl⟩) hw EG (by rw[e];simp)
 rw[<- hlen];refine ON (f:=Aj (gI (aS ls) (nD ls))) ?_ (fun x hx=>?_) ?_
 .rintro a b ⟨ha,rfl⟩
  obtain⟨u,hu,Mz⟩:=Fm.1 (PN a ha);obtain⟨i,hi⟩:=je hu;rw[Hu eZ hi Mz,Hu eZ hi (Du (maps ok) hu Mz)]
 .obtain⟨w,hw,rfl⟩:=dp.1 hx;obtain⟨⟨d,t,e,hd⟩,_⟩:=Hs ok w hw;rw[e];simp only[List.headD_cons];have:nD ls=2*ls.length+2*(aB ls).length:=rfl;omega
 rw[adE eZ qe];exact DA
abbrev E0(ls:List Let):Nat->Nat->Prop:=gr (nD ls) (kG ls)
theorem SA{v:Nat}(hv:v<ls.length)(g:Bool):dr ls.length v g<nD ls:=by have h:=r8 hv (!g);rw[<- tX] at h;have:=yD h;rw[xh] at this;have:nD ls=2*ls.length+2*(aB ls).length:=rfl;omega
theorem agG(v:Nat)(g:Bool):kG ls (dr ls.length v g)=aS ls (eE ls.length v (!g)):=by unfold kG;rw[tX]
theorem asO(ok:eX F ls){v:Nat}(hv:v<ls.length):aZ (E0 ls) (dr ls.length v true) (dr ls.length v false):=by
 obtain⟨l,hl⟩:=aM hv;have st:=ahx ok hv false;have:kG ls (kG ls (dr ls.length v true))=dr ls.length v false:=by rw[agG];exact st
 have p:=XL ok;rw[<- this];exact(aZ.rel ⟨SA hv true,rfl⟩).trans (.rel ⟨p.lt _ (SA hv true),rfl⟩)
theorem Ri(ok:eX F ls){v:Nat}(hv:v<ls.length)(g h:Bool):aZ (E0 ls) (dr ls.length v g) (dr ls.length v h):=by
 have e:=asO ok hv;cases g<;>cases h
 .exact .refl _
 .exact e.symm
 .exact e
 exact .refl _
theorem asP(ok:eX F ls){v:Nat}{l:Let}(hl:ls[v]?=some l)(hc:l.aC=true):aZ (E0 ls) (dr ls.length v true) (dr ls.length (fG ls v) true):=by
 obtain⟨h1,m,hm,mc,mi,mo,ms⟩:=qW ok.cr hl hc;have hv:=(aW.1 hl).1;have hw:=(aW.1 hm).1;have:kG ls (dr ls.length v true)=dr ls.length (fG ls v) (false==(l.over==(l.sign==1))):=by rw[agG,BK hl hc];rfl
 exact(aZ.rel ⟨SA hv true,this.symm⟩).trans (Ri ok hw _ _)
theorem asM(ok:eX F ls){k:Nat}(hk:k<(aB ls).length):aZ (E0 ls) (2*ls.length+2*k) (dr ls.length ((aB ls).getD k 0) true):=by
 have au:2*ls.length+2*k<nD ls:=by unfold nD;omega
 obtain⟨l,h1,h2⟩:=DH hk;have hv:=(aW.1 h1).1;have:kG ls (2*ls.length+2*k)=dr ls.length ((aB ls).getD k 0) (dn ls ((aB ls).getD k 0)):=by unfold kG;rw[show 2*ls.length+2*k=2*(ls.length+k) by omega,rW,show 2*(ls.length+k)+1=2*ls.length+2*k+1 by omega,Dp]
 exact(aZ.rel ⟨au,this.symm⟩).trans (Ri ok hv _ _)
theorem asL(ok:eX F ls){k:Nat}(hk:k<(aB ls).length):aZ (E0 ls) (2*ls.length+2*k+1) (dr ls.length ((aB ls).getD ((k+1)%(aB ls).length) 0) true):=by
 have au:2*ls.length+2*k+1<nD ls:=by unfold nD;omega
 obtain⟨l,h1,h2⟩:=DH (dO (k+1) (show 0<(aB ls).length by omega));have hv:=(aW.1 h1).1;have:kG ls (2*ls.length+2*k+1)=dr ls.length ((aB ls).getD ((k+1)%(aB ls).length) 0) (!dn ls ((aB ls).getD ((k+1)%(aB ls).length) 0)):=by unfold kG;rw[show 2*ls.length+2*k+1=2*(ls.length+k)+1 by omega,xf,show 2*(ls.length+k)=2*ls.length+2*k by omega,Dq]
 exact(aZ.rel ⟨au,this.symm⟩).trans (Ri ok hv _ _)
theorem asS(ok:eX F ls)(hx:x<nD ls):∃v,v<ls.length/\aZ (E0 ls) x (dr ls.length v true):=by
 by_cases c:x<2*ls.length
 .have hy:rv x<2*ls.length:=yD c;obtain⟨v,fw,hv,e⟩:∃v fw,v<ls.length/\rv x=eE ls.length v fw:=⟨_,_,by
   split
   .exact dO _ aa
   omega,Lp hy⟩
  have:x=dr ls.length v (!fw):=by rw[<- asZ,<- e,xh]
  exact⟨v,hv,by rw[this];exact Ri ok hv _ _⟩
 have hN:nD ls=2*ls.length+2*(aB ls).length:=rfl;have hk:(x-2*ls.length)/2<(aB ls).length:=aa;rcases wm x with h|h
 .obtain⟨l,h1,h2⟩:=DH hk;refine⟨_,(aW.1 h1).1,?_⟩;have:=asM ok hk;rwa[show 2*ls.length+2*((x-2*ls.length)/2)=x by omega] at this
 obtain⟨l,h1,h2⟩:=DH (dO ((x-2*ls.length)/2+1) (show 0<(aB ls).length by omega));refine⟨_,(aW.1 h1).1,?_⟩;have:=asL ok hk;rwa[show 2*ls.length+2*((x-2*ls.length)/2)+1=x by omega] at this
theorem avc(ok:eX F ls):∃L:List Nat,L.length=aw Let.aG ls+aw Let.aC ls/2/\(∀j∈L,j<ls.length)/\(L.map (jO ls)).Nodup/\ ∀v,v<ls.length->∃j∈L,jO ls j=jO ls v:=by
 have hc:=ok.cr;unfold kL at hc;simp only[cN,dI] at hc;obtain⟨L,l1,l2,l3⟩:=ahT ok;refine⟨L,l1,l2,l3,fun v hv=>?_⟩
 -- all the names there are
 let A:List (Int×Int):=(aB ls).map (fun i:Nat=>((0:Int),(i:Int)))++(eU ls ls.length).map fun id=>((1:Int),id)
 have hA:A.length=aw Let.aG ls+aw Let.aC ls/2:=by simp only[A,ff,cD,Ii,hc.2]
 have kr:∀v,v<ls.length->jO ls v∈A:=fun v hv=>by
  obtain⟨l,hl⟩:=aM hv;unfold jO;rw[hl];rcases ok.kinds l (aU hl) with hp|eI
  .simp only[nz hp,dx,if_false];exact Fl _ (dp.2 ⟨v,tu.2 ⟨l,hl,hp⟩,rfl⟩)
  simp only[eI,if_true];refine BR _ (dp.2 ⟨l.id,?_,rfl⟩);exact(GF (bJ _)).2 ⟨v,l.over,hv,by rw[Jp hl eI];simp⟩
 refine Classical.byContradiction fun dk=>?_;have hn:jO ls v∉L.map (jO ls):=fun h=>by obtain⟨j,hj,e⟩:=dp.1 h;exact dk ⟨j,hj,e⟩
 have Qi:∀(X Y:List (Int×Int)),X.Nodup->(∀x∈X,x∈Y)->X.length<=Y.length:=by
  intro X
  induction X with
  |nil=>intro Y _ _;exact bl _
  |cons a X ih=>intro Y hn hs;obtain⟨h1,h2⟩:=qy.1 hn;have ha:=hs a af;have:=ih (Y.erase a) h2 fun x hx=>(Yz (by rintro rfl;exact h1 hx)).2 (hs x (by simp[hx]));rw[Yw ha] at this;have:0<Y.length:=OE ha;simp only[dh];omega
 have:=Qi (jO ls v::L.map (jO ls)) A (qy.2 ⟨hn,l3⟩) fun x hx=>by
  rcases cM.1 hx with rfl|hx
  .exact kr v hv
  obtain⟨j,hj,rfl⟩:=dp.1 hx;exact kr j (l2 j hj)
 rw[dh,cD,l1,hA] at this;omega
theorem ave(ok:eX F ls){u v:Nat}(hu:u<ls.length)(hv:v<ls.length)(e:jO ls u=jO ls v):aZ (E0 ls) (dr ls.length v true) (dr ls.length u true):=by
 obtain⟨l,hl⟩:=aM hu;obtain⟨m,hm⟩:=aM hv;unfold jO at e;rw[hl,hm] at e;simp only at e;cases cl:l.aC<;>cases cm:m.aC
 .simp only[cl,cm,dx,if_false,kB,true_and] at e;have:u=v:=aa;subst this;exact .refl _
 .simp[cl,cm] at e
 .simp[cl,cm] at e
 simp only[cl,cm,if_true,kB,true_and] at e;have eI:=ok.cr;have hp:GZ ls:=by unfold kL at eI;simp only[cN,dI,jd,gA] at eI;exact(Hx.1 eI.1.2).2
 by_cases GB:u=v
 .subst GB;exact .refl _
 obtain⟨h1,w,hw,wc,wi,wo,ws⟩:=qW ok.cr hm cm;have:fG ls v=u:=by refine Classical.byContradiction fun aI=>?_;have d1:=(hp _ _ w l hw hl wc cl (by rw[wi,e]) aI).1;have d2:=(hp _ _ l m hl hm cl cm e GB).1;rw[wo] at d1;revert d1 d2;cases l.over<;>cases m.over<;>simp
 have:=asP ok hm cm;rwa[‹fG ls v=u›] at this
theorem aiz(ok:eX F ls):K (aZ (E0 ls)) (nD ls)=aw Let.aG ls+aw Let.aC ls/2:=by
 obtain⟨L,l1,l2,l3,l4⟩:=avc ok;have hN:=Br ls;have hN':nD ls=2*ls.length+2*(aB ls).length:=rfl;have EB:∀y,y<nD ls->rv y<nD ls:=fun y hy=>by rw[hN] at hy ⊢;exact yD hy
 have hlen:(L.map (2* ·)).length=aw Let.aG ls+aw Let.aC ls/2:=by rw[cD,l1]
 refine Nat.le_antisymm ?_ ?_
 .rw[<- hlen];refine YM fun x hx=>?_;obtain⟨v,hv,e⟩:=asS ok hx;obtain⟨j,hj,ej⟩:=l4 v hv;exact⟨2*j,dp.2 ⟨j,hj,rfl⟩,e.trans (ave ok (l2 j hj) hv ej)⟩
 rw[<- hlen];refine ON (f:=fun x=>jO ls (sG ls (rv x))) ?_ (fun x hx=>?_) ?_
 .rintro a b ⟨ha,rfl⟩
  exact(ahN ok (EB a ha)).1.symm
 .obtain⟨j,hj,rfl⟩:=dp.1 hx;have:=l2 j hj;omega
 rw[tm];have:L.map ((fun x=>jO ls (sG ls (rv x))) ∘ (2* ·))=L.map (jO ls):=Aq fun j hj=>by have:=Cy (ls:=ls) (l2 j hj) false;simp only[Function.comp_apply,rW];rw[show 2*j+1=eE ls.length j false from rfl,this]
 rw[this];exact l3
theorem aqJ(ok:eX F ls):K (aZ (xL (nD ls) (kG ls) (vV (E2 ls)))) (nD ls)<=1:=by
 refine YN fun x hx=>?_;obtain⟨b,hb⟩:=VJ (p:=fun _=>false) (fun _=>rfl) ok hx;have h:=hb 0 ae;have:=h.push (R':=xL (nD ls) (kG ls) (vV (E2 ls))) (f:=fun y=>y/2) ?_
 .have hf:fx b 0<2:=DW ae;rw[show(2*x+0)/2=x by omega,show fx b 0/2=0 by omega] at this;exact this
 intro u v r;rcases r with ⟨hu,rfl⟩|r
 .refine .rel (.inl ⟨aa,?_⟩);unfold tY kG fx;simp only[dx,if_false];omega
 refine .rel (.inr ?_);obtain⟨e,he,hm⟩:=OG.1 r;have o9:(2*e,2*e+1)∈vV (E2 ls):=dp.2 ⟨e,he,rfl⟩;simp only[cM,gC,or_false,kB] at hm;rcases hm with ⟨rfl,rfl⟩|⟨rfl,rfl⟩
 .rw[HZ];simp only[dx,if_false];rw[show 4*e/2=2*e by omega,show(4*e+2)/2=2*e+1 by omega];exact o9
 rw[H0];simp only[dx,if_false];rw[show(4*e+1)/2=2*e by omega,show(4*e+3)/2=2*e+1 by omega];exact o9
theorem amj(ok:eX F ls):lh ls<=aw Let.aG ls+aw Let.aC ls/2+2/\(lh ls+(aw Let.aG ls+aw Let.aC ls/2))%2=0:=by
 have hN:=Br ls;have e1:=aaR (vV (E2 ls)) (kG ls) (XL ok) fun t ht=>by have:=ahK t ht;rw[hN];exact⟨this.1,this.2.1⟩
 have e2:=aiA (vV (E2 ls)) (kG ls) (XL ok) fun t ht=>by have:=ahK t ht;rw[hN];exact this
 have hl:(vV (E2 ls)).length=ls.length+(aB ls).length:=by simp[vV]
 rw[HR anf,aiy ok,show K (aZ (gr (nD ls) (kG ls))) (nD ls)=_ from aiz ok,hl] at e1 e2;have h1:=aqJ ok;have hPC:=WZ ok;have jD:=Ii (ls:=ls);have eI:=ok.cr;unfold kL at eI;simp only[cN,dI] at eI;have dQ:=eI.1.1;omega
end
structure dX where
 l:Nat
 r:Nat
 b:Bool
structure aO where
 p:Pc
 i:dX
 o:dX
abbrev aO.k(x:aO):Let:=x.p.l
def jS:dX->List aO->dX->Prop
 |s,[],t=>s=t
 |s,x::r,t=>x.i=s/\jS x.o r t
theorem NY{s t:dX}{a b:List aO}:jS s (a++b) t↔ ∃m,jS s a m/\jS m b t:=by
 induction a generalizing s with
 |nil=>exact⟨fun h=>⟨s,rfl,h⟩,fun⟨m,h1,h2⟩=>by cases h1;exact h2⟩
 |cons x a ih=>show(x.i=s/\jS x.o (a++b) t)↔_;rw[ih];exact⟨fun⟨h,m,h1,h2⟩=>⟨m,⟨h,h1⟩,h2⟩,fun⟨m,⟨h,h1⟩,h2⟩=>⟨h,m,h1,h2⟩⟩
theorem aq9{s:dX}{a b:List aO}(h:jS s (a++b) s):∃m,jS m (b++a) m:=by obtain⟨m,h1,h2⟩:=NY.1 h;exact⟨m,NY.2 ⟨s,h2,h1⟩⟩
structure X4 (g:Bool) (i o j q:dX):Prop where
 a:if g then i.l=q.l else i.l=j.r
 b:if g then o.r=j.r else o.r=q.l
 c:if g then j.l=i.r else j.l=o.l
 d:if g then q.r=o.l else q.r=i.r
def gX (l:Let):Bool:=l.over==(l.sign==1)
structure Xc (x y:aO):Prop where
 ov:x.k.over= !y.k.over
 sg:x.k.sign=y.k.sign
 x4:X4 (gX x.k) x.i x.o y.i y.o
theorem Xc.symm{x y:aO}(h:Xc x y):Xc y x:=by
 obtain⟨h1,h2,a,b,c,d⟩:=h;have e:gX y.k= !gX x.k:=by unfold gX;rw[h1,h2];cases y.k.over<;>cases (y.k.sign==1)<;>rfl
 refine⟨by rw[h1];simp,h2.symm,?_⟩;rw[e];cases hg:gX x.k
 .rw[hg] at a b c d;simp only[dx,if_false] at a b c d;constructor<;>simp only[HC,if_true]
  .exact c
  .exact d
  .exact a
  exact b
 rw[hg] at a b c d;simp only[if_true] at a b c d;constructor<;>simp only[BQ,dx,if_false]
 .exact c
 .exact d
 .exact a
 exact b
def iB(s:dX):dX:=⟨s.r,s.l,s.b⟩
def aO.up(x:aO):dX:=if x.p.d then x.i else iB x.o
def aO.lo(x:aO):dX:=if x.p.d then x.o else iB x.i
structure Ab (F:Nat) (x:aO):Prop where
 bad:dy F x.k=false
 cb:x.k.aC=true->x.i.b=x.o.b
 pb:x.k.aG=true->x.o.b=x.p.d/\x.i.b= !x.p.d
def Xr (x y:aO):Prop:=x.k.aC=true->y.k.aC=true->x.k.id=y.k.id->Xc x y
theorem Xr.symm{x y:aO}(h:Xr x y):Xr y x:=fun a b c=>(h b a c.symm).symm
def Dr (x y:aO):Prop:=x.k.aG=true->y.k.aG=true->x.k.gate=y.k.gate->x.k.aE≠y.k.aE
theorem Dr.symm{x y:aO}(h:Dr x y):Dr y x:=fun a b c d=>h b a c.symm d.symm
structure Ha (T B:Nat->Nat->Nat) (x:aO):Prop where
 wt:x.up.r=T x.k.gate.toNat (x.k.aE.toNat-1)
 et:x.up.l=T x.k.gate.toNat x.k.aE.toNat
 wb:x.lo.r=B x.k.gate.toNat (x.k.aE.toNat-1)
 eb:x.lo.l=B x.k.gate.toNat x.k.aE.toNat
abbrev aQ(z:List aO):List Let:=z.map aO.k
structure Cz (F:Nat) (z:List aO) (T B:Nat->Nat->Nat) (S:List Nat):Prop where
 path:∃s,jS s z s
 ok:∀x∈z,Ab F x
 cr:z.Pairwise Xr
 ev:aw Let.aC (aQ z)%2=0
 ids:∀x∈z,x.k.aC=true->1<=x.k.id/\x.k.id<=((aw Let.aC (aQ z)/2:Nat):Int)
 rk:z.Pairwise Dr
 rr:∀x∈z,x.k.aG=true->1<=x.k.aE/\x.k.aE<=(cg (aQ z) x.k.gate.toNat:Int)
 pl:∀x∈z,x.k.aG=true->Ha T B x
 gt:∀g,g<F->T g (cg (aQ z) g)=T (g+1) 0/\B g (cg (aQ z) g)=B (g+1) 0
 gz:T F (cg (aQ z) F)=T 0 0/\B F (cg (aQ z) F)=B 0 0
 one:∃x∈z,x.k.aG=true
 nd:S.Nodup
 wit:∀s∈S,∃x∈z,s=x.o.l\/s=x.o.r
 num:aw Let.aG (aQ z)+aw Let.aC (aQ z)/2+1<=S.length
def Cert(F:Nat)(l:List Pc):Prop:= ∃z T B S,z.map aO.p=l/\Cz F z T B S
theorem Cg{p:Let->Bool}{z z':List aO}(h:z.Perm z'):aw p (aQ z)=aw p (aQ z'):=(h.map aO.k).countP_eq p
theorem Cz.perm{z z':List aO}{T B:Nat->Nat->Nat}{S:List Nat}(c:Cz F z T B S)(h:z.Perm z')(hp:∃s,jS s z' s):Cz F z' T B S:=by
 have hm:∀ {x},x∈z'↔x∈z:=fun {x}=>h.symm.mem_iff;have e:∀p,aw p (aQ z')=aw p (aQ z):=fun p=>(Cg h).symm;have eg:∀g,cg (aQ z') g=cg (aQ z) g:=fun g=>e _;refine⟨hp,fun x hx=>c.ok x (hm.1 hx),(h.pairwise_iff fun {x y}=>Xr.symm).1 c.cr,by rw[e];exact c.ev,fun x hx=>by rw[e];exact c.ids x (hm.1 hx),(h.pairwise_iff fun {x y}=>Dr.symm).1 c.rk,
  fun x hx=>by rw[eg];exact c.rr x (hm.1 hx),fun x hx=>c.pl x (hm.1 hx),fun g hg=>by rw[eg];exact c.gt g hg,by rw[eg];exact c.gz,?_,c.nd,fun s hs=>?_,by rw[e,e];exact c.num⟩
 .obtain⟨x,hx,h1⟩:=c.one;exact⟨x,hm.2 hx,h1⟩
 obtain⟨x,hx,h1⟩:=c.wit s hs;exact⟨x,hm.2 hx,h1⟩
theorem Cz.kG{a b:List aO}{T B:Nat->Nat->Nat}{S:List Nat}(c:Cz F (a++b) T B S):Cz F (b++a) T B S:=by obtain⟨s,h⟩:=c.path;exact c.perm (List.perm_append_comm) (aq9 h)
theorem Cert.kG{a b:List Pc}(c:Cert F (a++b)):Cert F (b++a):=by obtain⟨z,T,B,S,h,c⟩:=c;obtain⟨x,y,rfl,rfl,rfl⟩:=List.map_eq_append_iff.1 h;exact⟨y++x,T,B,S,by rw[j6],c.kG⟩
theorem aq6:∀ {z:List aO} {s t:dX},(∀x∈z,Ab F x)->jS s z t->s.b=false->t.b=true->∃x∈z,x.k.aG=true/\x.p.d=true:=by
 intro z
 induction z with
 |nil=>intro s t _ h h1 h2;cases h;rw[h1] at h2;cases h2
 |cons x z ih=>
  intro s t ok h h1 h2;obtain⟨rfl,h⟩:=h;have ox:=ok x af;by_cases hd:x.k.aG=true/\x.p.d=true
  .exact⟨x,af,hd⟩
  have hb:x.o.b=false:=by
   rcases yX ox.bad with hp|hc
   .rw[(ox.pb hp).1];cases Ge:x.p.d
    .rfl
    exact absurd ⟨hp,Ge⟩ hd
   rw[<- ox.cb hc];exact h1
  obtain⟨y,hy,e⟩:=ih (fun x hx=>ok x (by simp[hx])) h hb h2;exact⟨y,by simp[hy],e⟩
theorem Cz.down{z:List aO}{T B:Nat->Nat->Nat}{S:List Nat}(c:Cz F z T B S):∃x∈z,x.k.aG=true/\x.p.d=true:=by
 obtain⟨x,hx,hp⟩:=c.one;cases hd:x.p.d
 .obtain⟨a,b,rfl⟩:=List.append_of_mem hx;have c2:=c.kG;obtain⟨s,h⟩:=c2.path;obtain⟨rfl,h⟩:=h;obtain⟨e1,e2⟩:=(c.ok x af).pb hp;rw[hd] at e1 e2;obtain⟨y,hy,e⟩:=aq6 (fun y hy=>c.ok y (by
   rcases eD.1 hy with hy|hy
   .simp[hy]
   simp[hy])) h e1 e2
  refine⟨y,?_,e⟩;rcases eD.1 hy with hy|hy
  .simp[hy]
  simp[hy]
 exact⟨x,hx,hp,hd⟩
theorem XK{l:List Pc}{f:Nat}(hf:f<=l.length):vS l f l.length=(l.drop f++l.take f).map Pc.l:=by
 apply K4;intro i;by_cases hi:i<l.length
 .have h1:(vS l f l.length)[i]?=some (l.getD ((f+i)%l.length) ⟨kz,false⟩).l:=by
   simp[vS,hi]
  rw[h1,fQ];by_cases h2:f+i<l.length
  .rw[uY (by simp;omega),xu,dV h2];simp[h2]
  rw[v8 (by simp;omega),jy];have h3:(f+i)%l.length=i-(l.length-f):=by rw[Nat.mod_eq_sub_mod aa,dV aa];omega
  have h4:i-(l.length-f)<l.length:=aa;rw[h3,kJ,aF aa];simp[h4]
 have h1:(vS l f l.length).length=l.length:=by simp[vS]
 rw[ti (by rw[h1];omega),ti (by simp;omega)]
theorem Cert.fin{l:List Pc}(c:Cert F l):∃z T B S x r,z=x::r/\x.k.aG=true/\x.p.d=true/\aQ z=lV l/\z.length=l.length/\Cz F z T B S:=by
 obtain⟨z,T,B,S,h,c⟩:=c;subst h;obtain⟨x,hx,hp,hd⟩:=c.down;have hP:∀y:aO,y.k.aG=(y.p.l.kind==1):=fun y=>rfl;obtain⟨j,hj⟩:=je hx;have nO:=(aW.1 hj).1;have CH:(z.map aO.p)[j]?=some x.p:=by rw[fQ,hj];rfl
 obtain⟨f,hf⟩:∃f,uw (z.map aO.p)=some f:=by
  cases h:uw (z.map aO.p) with
  |some f=>exact⟨f,rfl⟩
  |none=>have:=K5.1 h j (by simpa using nO);rw[Xt CH] at this;unfold G9 at this;rw[hP] at hp;simp[hp,hd] at this
 have h1:=OC hf;have h2:f<z.length:=by
  have:=Lb hf
  simpa using this
 obtain⟨y,hy⟩:=aW.2 ⟨h2,rfl⟩ |> fun h=>(⟨_,h⟩:∃y,z[f]?=some y)
 have hyp:(z.map aO.p)[f]?=some y.p:=by rw[fQ,hy];rfl
 rw[Xt hyp] at h1;unfold G9 at h1;rw[cN] at h1;have hz:z=z.take f++y::z.drop (f+1):=by obtain⟨hl,e⟩:=aW.1 hy;rw[<- e,tj,nC]
 have zB:z.drop f=y::z.drop (f+1):=by obtain⟨hl,e⟩:=aW.1 hy;rw[<- e,tj]
 refine⟨y::z.drop (f+1)++z.take f,T,B,S,y,z.drop (f+1)++z.take f,rfl,h1.1,h1.2,?_,?_,?_⟩
 .unfold lV;rw[hf,mV,XK (by rw[cD];omega),<- zB];simp only[j6,OF,HH,tm];rfl
 .rw[<- zB,ff,jy,fX,cD];omega
 rw[hz] at c;exact c.kG
theorem akX{ls:List Let}(he:aw Let.aC ls%2=0)(hi:WD ls)(hp:GZ ls):kL ls=true:=by
 rw[Tm he (Hx.2 ⟨hi,hp⟩)];have Ns:=XZ ls;have hle:∀id∈eU ls ls.length,aw (lf id) ls<=2:=fun id _=>by rw[Qu id];have:=A1 hp id true;have:=A1 hp id false;omega
 have h1:=ahy (f:=fun id=>aw (lf id) ls) _ hle;have h2:(eU ls ls.length).length<=aw Let.aC ls/2:=by
  have hr:∀id∈eU ls ls.length,1<=id/\id<=((aw Let.aC ls/2:Nat):Int):=fun id hid=>by obtain⟨j,o,hj,hh⟩:=(GF (bJ _)).1 hid;obtain⟨m,hm,mc,mi,_⟩:=A2 hh;rw[<- mi];exact hi m (aU hm) mc
  have:=KG ((eU ls ls.length).map Int.toNat) (List.range' 1 (aw Let.aC ls/2)) ?_ ?_
  .rwa[cD,List.length_range'] at this
  .refine yO.2 (Yl (fun {a b} ha hb h e=>h ?_) (Qm ls ls.length));have:=hr a ha;have:=hr b hb;omega
  intro x hx;obtain⟨id,hid,rfl⟩:=dp.1 hx;have:=hr id hid;rw[List.mem_range'_1];omega
 simp only[dI];omega
theorem NZ{s t:dX}{z:List aO}{x:aO}(h:jS s z t)(hx:z[0]?=some x):x.i=s:=by
 cases z with
 |nil=>cases hx
 |cons y z=>cases hx;exact h.1
theorem af1:∀ {z:List aO} {s t:dX} {i:Nat} {x y:aO},jS s z t->z[i]?=some x->z[i+1]?=some y->x.o=y.i:=by
 intro z
 induction z with
 |nil=>intro s t i x y _ hx;cases hx
 |cons a z ih=>
  intro s t i x y h hx hy;cases i with
  |zero=>cases hx;exact(NZ h.2 hy).symm
  |succ i=>exact ih h.2 hx hy
theorem afZ:∀ {z:List aO} {s t:dX} {x:aO},jS s z t->z[z.length-1]?=some x->x.o=t:=by
 intro z
 induction z with
 |nil=>intro s t x _ hx;cases hx
 |cons a z ih=>
  intro s t x h hx;cases z with
  |nil=>cases hx;exact h.2
  |cons b z=>exact ih h.2 hx
theorem afY{z:List aO}{s:dX}{j:Nat}{x y:aO}(h:jS s z s)(hx:z[j]?=some x)(hy:z[(j+1)%z.length]?=some y):x.o=y.i:=by
 have hj:=(aW.1 hx).1;by_cases c:j+1<z.length
 .rw[dV c] at hy;exact af1 h hx hy
 have:j+1=z.length:=aa;rw[this,rh] at hy;rw[afZ h (by rw[<- this];exact hx),NZ h hy]
theorem Bp{z:List aO}{i:Nat}{x:aO}(h:z[i]?=some x):(aQ z)[i]?=some x.k:=by rw[fQ,h];rfl
theorem C0{z:List aO}{i:Nat}{l:Let}(h:(aQ z)[i]?=some l):∃x,z[i]?=some x/\x.k=l:=by rw[fQ,dE] at h;exact h
theorem Xq{z:List aO}{s t:dX}(ok:∀x∈z,Ab F x)(h:jS s z t)(hs:s.b=false):∀i x,z[i]?=some x->x.i.b= !dn (aQ z) i/\x.o.b= !dn (aQ z) (i+1):=by
 have step:∀i x,z[i]?=some x->x.i.b=(!dn (aQ z) i)->x.o.b= !dn (aQ z) (i+1):=fun i x hx hb=>by
  have ox:=ok x (aU hx);rcases yX ox.bad with hp|hc
  .rw[IG (Bp hx) hp,Fj,(ox.pb hp).1];have:=(ox.pb hp).2;rw[hb] at this;revert this;cases dn (aQ z) i<;>cases x.p.d<;>simp
  rw[LU (Bp hx) (by
   cases hp:x.k.aG
   .rfl
   rw[nz hp] at hc;cases hc),<- hb,ox.cb hc]
 intro i
 induction i with
 |zero=>
  intro x hx;have:x.i.b= !dn (aQ z) 0:=by rw[NZ h hx,hs];rfl
  exact⟨this,step 0 x hx this⟩
 |succ i ih=>intro y hy;obtain⟨x,hx⟩:=aM (ls:=z) (k:=i) (by have:=(aW.1 hy).1;omega);have e:=(ih x hx).2;rw[af1 h hx hy] at e;exact⟨e,step (i+1) y hy e⟩
theorem af7{ls:List Let}{f:Nat->Nat->Nat}(hf:∀g,g<F->f g (cg ls g)=f (g+1) 0):∀(d g k g' k':Nat),g'=g+d->g'<=F->k<=cg ls g->k'<=cg ls g'->fJ ls g+k=fJ ls g'+k'->f g k=f g' k':=by
 intro d
 induction d with
 |zero=>intro g k g' k' e _ _ _ h;rw[xw] at e;subst e;rw[show k=k' by omega]
 |succ d ih=>intro g k g' k' e hF hk l5 h;have hm:=xJ (ls:=ls) (show g+1<=g' by omega);have hs:=rB ls g;have:k=cg ls g:=aa;subst this;rw[hf g aa];exact ih (g+1) 0 g' k' aa hF (bl _) l5 aa
theorem Xx{ls:List Let}{f:Nat->Nat->Nat}(hf:∀g,g<F->f g (cg ls g)=f (g+1) 0){g k g' k':Nat}(hg:g<=F)(CB:g'<=F)(hk:k<=cg ls g)(l5:k'<=cg ls g')(h:fJ ls g+k=fJ ls g'+k'):f g k=f g' k':=by
 rcases Nat.le_total g g' with c|c
 .exact af7 hf (g'-g) g k g' k' aa CB hk l5 h
 exact(af7 hf (g-g') g' k' g k aa hg l5 hk h.symm).symm
def NP:aO:=⟨⟨kz,false⟩,⟨0,0,false⟩,⟨0,0,false⟩⟩
def n9(z:List aO)(x:Nat):Nat:=
 if x<2*z.length then (if x%2=0 then (z.getD (x/2) NP).o.l else (z.getD (x/2) NP).o.r)
 else if x%2=0 then (z.getD ((aB (aQ z)).getD ((x-2*z.length)/2) 0) NP).up.l else (z.getD ((aB (aQ z)).getD ((x-2*z.length)/2) 0) NP).lo.l
theorem D0{z:List aO}{i:Nat}{x:aO}(h:z[i]?=some x):z.getD i NP=x:=by rw[di,h];rfl
section
variable {F:Nat} {z:List aO} {s:dX}
theorem WW(h:jS s z s){v:Nat}{x:aO}(hx:z[v]?=some x)(g:Bool):n9 z (dr z.length v g)=if g then x.o.l else x.i.r:=by
 have hv:=(aW.1 hx).1;cases g with
 |true=>show n9 z (2*v)=_;unfold n9;rw[aF aa,aF aa,show 2*v/2=v by omega,D0 hx];rfl
 |false=>show n9 z (2*((v+z.length-1)%z.length)+1)=_;have hm:=dO (v+z.length-1) (show 0<z.length by omega);obtain⟨y,hy⟩:=aM (ls:=z) hm;have e:=afY h hy (by rw[w9 hv];exact hx);unfold n9;rw[aF aa,ay aa,show(2*((v+z.length-1)%z.length)+1)/2=(v+z.length-1)%z.length by omega,D0 hy,e];rfl
theorem apm(h:jS s z s){v:Nat}{x:aO}(hx:z[v]?=some x)(g:Bool):n9 z (eE z.length v g)=if g then x.i.l else x.o.r:=by
 have hv:=(aW.1 hx).1;cases g with
 |false=>show n9 z (2*v+1)=_;unfold n9;rw[aF aa,ay aa,show(2*v+1)/2=v by omega,D0 hx];rfl
 |true=>show n9 z (2*((v+z.length-1)%z.length))=_;have hm:=dO (v+z.length-1) (show 0<z.length by omega);obtain⟨y,hy⟩:=aM (ls:=z) hm;have e:=afY h hy (by rw[w9 hv];exact hx);unfold n9;rw[aF aa,aF aa,show(2*((v+z.length-1)%z.length))/2=(v+z.length-1)%z.length by omega,D0 hy,e];rfl
theorem aeN{k v:Nat}{x:aO}(ha:(aB (aQ z)).getD k 0=v)(hx:z[v]?=some x):n9 z (2*z.length+2*k)=x.up.l:=by unfold n9;rw[ay aa,aF aa,show(2*z.length+2*k-2*z.length)/2=k by omega,ha,D0 hx]
theorem aeM{k v:Nat}{x:aO}(ha:(aB (aQ z)).getD k 0=v)(hx:z[v]?=some x):n9 z (2*z.length+2*k+1)=x.lo.l:=by unfold n9;rw[ay aa,ay aa,show(2*z.length+2*k+1-2*z.length)/2=k by omega,ha,D0 hx]
theorem Cz.QZ{T B:Nat->Nat->Nat}{S:List Nat}(c:Cz F z T B S){i j:Nat}{x y:aO}(hx:z[i]?=some x)(hy:z[j]?=some y)(fm:i≠j):Xr x y/\Dr x y:=by
 obtain⟨hi,ex⟩:=aW.1 hx;obtain⟨hj,ey⟩:=aW.1 hy;subst ex ey;rcases YH fm with h|h
 .exact⟨HK.1 c.cr i j hi hj h,HK.1 c.rk i j hi hj h⟩
 exact⟨(HK.1 c.cr j i hj hi h).symm,(HK.1 c.rk j i hj hi h).symm⟩
theorem Cz.eF{T B:Nat->Nat->Nat}{S:List Nat}(c:Cz F z T B S){x:aO}(hx:x∈z)(hp:x.k.aG=true):uz F (aQ z) x.k:=by obtain⟨⟨⟨⟨g0,g1⟩,_⟩,_⟩,_⟩:=(sY hp).1 (c.ok x hx).bad;obtain⟨r0,r1⟩:=c.rr x hx hp;exact⟨g0,g1,r0,r1⟩
theorem Cz.dg{T B:Nat->Nat->Nat}{S:List Nat}(c:Cz F z T B S)(hl:z.length<=1000000):eX F (aQ z):=by
 refine⟨by rw[cD];exact hl,⟨fun l hl hp=>?_,fun i j l m hi hj pl pm e=>?_⟩,akX c.ev (fun l hl hc=>?_) (fun i j l m hi hj cl cm e fm=>?_),fun l hl=>?_⟩
 .obtain⟨x,hx,rfl⟩:=dp.1 hl;exact c.eF hx hp
 .obtain⟨x,hx,rfl⟩:=C0 hi;obtain⟨y,hy,rfl⟩:=C0 hj;refine Decidable.byContradiction fun fm=>?_;obtain⟨h1,h2⟩:=(Hc (c.eF (aU hx) pl) (c.eF (aU hy) pm)).1 e;exact(c.QZ hx hy fm).2 pl pm h1 h2
 .obtain⟨x,hx,rfl⟩:=dp.1 hl;exact c.ids x hx hc
 .obtain⟨x,hx,rfl⟩:=C0 hi;obtain⟨y,hy,rfl⟩:=C0 hj;have:=(c.QZ hx hy fm).1 cl cm e;refine⟨?_,this.sg⟩;rw[this.ov];cases y.k.over<;>simp
 obtain⟨x,hx,rfl⟩:=dp.1 hl;exact yX (c.ok x hx).bad
theorem Cz.qL{T B:Nat->Nat->Nat}{S:List Nat}(c:Cz F z T B S):qL F (aQ z):=fun l hl hp=>by obtain⟨x,hx,rfl⟩:=dp.1 hl;exact((sY hp).1 (c.ok x hx).bad).1.1.1
theorem Cz.Lq{T B:Nat->Nat->Nat}{S:List Nat}(c:Cz F z T B S)(hl:z.length<=1000000){k u v:Nat}{x y:aO}(hu:(aB (aQ z))[k]?=some u)(hv:(aB (aQ z))[(k+1)%(aB (aQ z)).length]?=some v)(hx:z[u]?=some x)(hy:z[v]?=some y):x.up.l=y.up.r/\x.lo.l=y.lo.r:=by
 have ok:=c.dg hl;have hk:=(aW.1 hu).1;obtain⟨l,l1,l2,l3⟩:=B9 ok.ax hu;obtain⟨m,m1,m2,m3⟩:=B9 ok.ax hv;rw[Bp hx] at l1;cases l1;rw[Bp hy] at m1;cases m1;have gx:=c.eF (aU hx) l2;have gy:=c.eF (aU hy) m2;have px:=c.pl x (aU hx) l2;have py:=c.pl y (aU hy) m2;obtain⟨x1,x2,x3,x4⟩:=gx;obtain⟨y1,y2,y3,y4⟩:=gy;have key:∀f:Nat->Nat->Nat,(∀g,g<F->f g (cg (aQ z) g)=f (g+1) 0)->f F (cg (aQ z) F)=f 0 0->f x.k.gate.toNat x.k.aE.toNat=f y.k.gate.toNat (y.k.aE.toNat-1):=by
  intro f hf hz;unfold dC at l3 m3;by_cases c1:k+1<(aB (aQ z)).length
  .rw[dV c1] at m3;exact Xx hf aa aa aa aa aa
  have hT:=Fu c.qL;have hs:=rB (aQ z) F;have:k+1=(aB (aQ z)).length:=aa;rw[this,rh] at m3;rw[Xx hf (g:=x.k.gate.toNat) (k:=x.k.aE.toNat) (g':=F) (k':=cg (aQ z) F) aa (bJ _) aa (bJ _) aa,hz];exact Xx hf (bl _) aa (bl _) aa (by show 0+0=_;omega)
 exact⟨by rw[px.et,py.wt];exact key T (fun g hg=>(c.gt g hg).1) c.gz.1,by rw[px.eb,py.wb];exact key B (fun g hg=>(c.gt g hg).2) c.gz.2⟩
theorem Cz.walk{T B:Nat->Nat->Nat}{S:List Nat}(c:Cz F z T B S)(hl:z.length<=1000000)(h:jS s z s)(hs:s.b=false)(hx:x<nD (aQ z)):n9 z (aS (aQ z) x)=n9 z x:=by
 have ok:=c.dg hl;have hn:(aQ z).length=z.length:=cD ..;have hN:nD (aQ z)=2*z.length+2*(aB (aQ z)).length:=by unfold nD;rw[hn]
 have eS:=Xq c.ok h hs;by_cases c1:x<2*z.length
 .obtain⟨v,fw,hv,rfl⟩:∃v fw,v<z.length/\x=eE z.length v fw:=⟨_,_,by
   split
   .exact dO _ aa
   omega,Lp c1⟩
  obtain⟨e,he⟩:=aM (ls:=z) hv;have hle:=Bp he;have oe:=c.ok e (aU he);rw[apm h he];rcases yX oe.bad with hp|hc
  .have hd:dn (aQ z) v=e.p.d:=by
    have:=(eS v e he).1;rw[(oe.pb hp).2] at this;revert this;cases e.p.d<;>cases dn (aQ z) v<;>simp
   obtain⟨a1,a2⟩:=Ig ok hle hp;have t:=BM hle hp fw;rw[hn] at t;rw[t,hd];by_cases c2:(e.p.d==fw)=true
   .rw[aF c2,aeN a2 he];unfold aO.up;have:=eq_of_beq c2;subst this;cases e.p.d<;>rfl
   rw[ay c2];have hm:=dO ((aB (aQ z)).idxOf v+(aB (aQ z)).length-1) (show 0<(aB (aQ z)).length by omega);obtain⟨u,hu⟩:=aM hm;obtain⟨l,u1,u2⟩:=tu.1 (aU hu);obtain⟨y,hy,rfl⟩:=C0 u1;have hv':(aB (aQ z))[(aB (aQ z)).idxOf v]?=some v:=by obtain⟨q,hq⟩:=aM a1;rw[di,hq] at a2;rw[hq];exact congrArg some a2
   have:=(c.Lq hl hu (by rw[w9 a1];exact hv') hy he).2;rw[aeM (by rw[di,hu];rfl) hy,this];unfold aO.lo;revert c2;cases e.p.d<;>cases fw<;>simp[iB]
  obtain⟨b1,m,hm,mc,mi,mo,ms⟩:=qW ok.cr hle hc;obtain⟨y,hy,rfl⟩:=C0 hm;have aI:v≠fG (aQ z) v:=by intro ee;rw[<- ee,hle] at hm;have:=rj hm;rw[<- this] at mo;revert mo;cases e.k.over<;>simp
  obtain⟨_,_,xa,xb,xc,xd⟩:=(c.QZ he hy aI).1 hc mc mi.symm;have t:=BK hle hc fw;rw[hn] at t;rw[t,WW h hy];unfold gX at xa xb;cases hg:(e.k.over==(e.k.sign==1))<;>rw[hg] at xa xb<;>simp only[dx,if_false,if_true] at xa xb<;>cases fw<;>simp_all
 have hk:(x-2*z.length)/2<(aB (aQ z)).length:=aa;obtain⟨u,hu⟩:=aM hk;obtain⟨l,u1,u2⟩:=tu.1 (aU hu);obtain⟨e,he,rfl⟩:=C0 u1;have hgu:(aB (aQ z)).getD ((x-2*z.length)/2) 0=u:=by rw[di,hu];rfl
 rcases wm x with zV|zV
 .have ex:x=2*z.length+2*((x-2*z.length)/2):=aa;have hm:=dO ((x-2*z.length)/2+1) (show 0<(aB (aQ z)).length by omega);obtain⟨w,hw⟩:=aM hm;obtain⟨l,w1,w2⟩:=tu.1 (aU hw);obtain⟨y,hy,rfl⟩:=C0 w1;have hgw:(aB (aQ z)).getD (((x-2*z.length)/2+1)%(aB (aQ z)).length) 0=w:=by rw[di,hw];rfl
  have oy:=c.ok y (aU hy);have hd:dn (aQ z) w=y.p.d:=by have:=(eS w y hy).1;rw[(oy.pb w2).2] at this;revert this;cases y.p.d<;>cases dn (aQ z) w<;>simp
  have t:=Dq (ls:=aQ z) ((x-2*z.length)/2);rw[hn,<- ex] at t;rw[t,hgw,WW h hy,hd];have a:=(c.Lq hl hu hw he hy).1;have r:=aeN hgu he;rw[<- ex] at r;rw[r,a];unfold aO.up;cases y.p.d<;>simp[iB]
 have ex:x=2*z.length+2*((x-2*z.length)/2)+1:=aa;have oy:=c.ok e (aU he);have hd:dn (aQ z) u=e.p.d:=by have:=(eS u e he).1;rw[(oy.pb u2).2] at this;revert this;cases e.p.d<;>cases dn (aQ z) u<;>simp
 have t:=Dp (ls:=aQ z) ((x-2*z.length)/2);rw[hn,<- ex] at t;rw[t,hgu,WW h he,hd];have r:=aeM hgu he;rw[<- ex] at r;rw[r];unfold aO.lo;cases e.p.d<;>simp[iB]
theorem Cz.check{T B:Nat->Nat->Nat}{S:List Nat}(c:Cz F z T B S){x:aO}{r:List aO}(hz:z=x::r)(hp:x.k.aG=true)(hd:x.p.d=true)(hl:z.length<=400)(eI:aw Let.aC (aQ z)<=200)(hF:F<=40):cQ F (aQ z)=0:=by
 have ok:=c.dg aa;have hn:(aQ z).length=z.length:=cD ..;obtain⟨s,h⟩:=c.path;have ny:z[0]?=some x:=by rw[hz];rfl
 have hs:s.b=false:=by rw[<- NZ h ny,((c.ok x (aU ny)).pb hp).2,hd];rfl
 have gE:0<z.length:=by rw[hz];simp
 have eS:=Xq c.ok h hs;have dQ:aw Let.aG (aQ z)%2=0:=by
  obtain⟨y,hy⟩:=aM (ls:=z) (k:=z.length-1) aa;have:=(eS _ y hy).2;rw[afZ h hy,hs,show z.length-1+1=(aQ z).length by rw[hn];omega] at this;unfold dn at this;rw[jQ] at this
  simpa using this
 have Jv:lh (aQ z)=aw Let.aG (aQ z)+aw Let.aC (aQ z)/2+2:=by
  obtain⟨b1,b2⟩:=amj ok;have key:∀a∈S,∃d,n9 z d=a/\d<2*z.length:=fun a ha=>by
   obtain⟨y,hy,e⟩:=c.wit a ha;obtain⟨j,hj⟩:=je hy;have nO:=(aW.1 hj).1;rcases e with e|e
   .exact⟨2*j,by unfold n9;rw[aF aa,aF aa,show 2*j/2=j by omega,D0 hj,e],aa⟩
   exact⟨2*j+1,by unfold n9;rw[aF aa,ay aa,show(2*j+1)/2=j by omega,D0 hj,e],aa⟩
  obtain⟨M,m1,m2⟩:=aeV (P:=fun a d=>n9 z d=a/\d<2*z.length) (f:=n9 z) (fun a d h=>h.1) key;have hN:nD (aQ z)=2*z.length+2*(aB (aQ z)).length:=by unfold nD;rw[hn]
  have:=avq (maps ok) (φ:=n9 z) (fun y hy=>c.walk aa h hs hy) (reps:=M) (fun d hd=>by obtain⟨_,_,h⟩:=m2 d hd;omega) (by rw[m1];exact c.nd)
  have hM:M.length=S.length:=by rw[<- m1,cD]
  have hnum:=c.num;have:M.length<=lh (aQ z):=this;omega
 have aI:aQ z≠[]:=by intro e;rw[e] at hn;simp at hn;omega
 unfold cQ;rw[ay (by rw[hn];omega),ay aa,ay aI,aF];unfold lz;have k9:=(N8 c.qL).2 ⟨ok.ax.eF,ok.ax.inj⟩;have VQ:(aQ z).any (dy F)=false:=HD.2 fun l hl=>by obtain⟨y,hy,rfl⟩:=dp.1 hl;rw[(c.ok y hy).bad];decide
 rw[Bp ny,W3.2 ⟨VQ,k9,ok.cr⟩,Jv,dQ];have hk:(x.k.kind==1)=true:=hp;simp only[hk,BS,vY]
theorem Cert.check{l:List Pc}(c:Cert F l)(hl:l.length<=400)(eI:aw Let.aC (l.map Pc.l)<=200)(hF:F<=40):cQ F (lV l)=0:=by
 obtain⟨w,T,B,S,x,r,hz,hp,hd,A8,hlen,cz⟩:=c.fin;have nv:aw Let.aC (aQ w)=aw Let.aC (l.map Pc.l):=by
  rw[A8];have hf:(uw l).getD 0<=l.length:=by
   cases h:uw l with
   |none=>exact bl _
   |some f=>have:=Lb h;simp at this;simp only[mV];omega
  unfold lV;rw[XK hf];show List.countP _ _=List.countP _ _;rw[j6,v7,Ld,<- v7,<- j6,nC]
 rw[<- A8];exact cz.check hz hp hd aa aa hF
end
def xe(ls:List Let)(x:Nat):Nat:=Aj (gI (aS ls) (nD ls)) x
def qx(ls:List Let)(i:Nat):dX:=⟨xe ls (2*i),xe ls (2*i+1),!dn ls (i+1)⟩
def dL(ls:List Let)(i:Nat):aO:=⟨⟨ls.getD i kz,iJ ls i⟩,qx ls ((i+ls.length-1)%ls.length),qx ls i⟩
def zF (ls:List Let):List aO:=(List.range ls.length).map (dL ls)
def TF (ls:List Let)(g k:Nat):Nat:=xe ls (2*ls.length+2*((fJ ls g+k+(aB ls).length-1)%(aB ls).length))
def BF (ls:List Let)(g k:Nat):Nat:=xe ls (2*ls.length+2*((fJ ls g+k+(aB ls).length-1)%(aB ls).length)+1)
theorem Hz(ls:List Let):(zF ls).map aO.p=pieces ls:=by unfold zF pieces;rw[tm];rfl
theorem lB(ls:List Let):aQ (zF ls)=ls:=by
 have h:aQ (zF ls)=(pieces ls).map Pc.l:=by rw[<- Hz,tm];rfl
 rw[h];apply K4;intro i;rw[fQ];by_cases hi:i<ls.length
 .obtain⟨l,hl⟩:=aM hi;rw[pM hl,hl];rfl
 rw[ti (by rw[gG];omega),ti aa];rfl
theorem KW(ls:List Let):(zF ls).length=ls.length:=by simp[zF]
theorem Fi{ls:List Let}{i:Nat}(h:i<ls.length):(zF ls)[i]?=some (dL ls i):=by simp[zF,h]
theorem dS{ls:List Let}{i:Nat}{l:Let}(h:ls[i]?=some l):(dL ls i).k=l:=by show ls.getD i kz=l;rw[di,h];rfl
theorem af0(f:Nat->aO)(e:Nat->dX):∀k a,(∀i,a<=i->i<a+k->(f i).i=e i/\(f i).o=e (i+1))->jS (e a) ((List.range' a k).map f) (e (a+k)):=by
 intro k
 induction k with
 |zero=>intro a _;rfl
 |succ k ih=>intro a h;rw[List.range'_succ,dK];obtain⟨h1,h2⟩:=h a (bJ _) aa;refine⟨h1,?_⟩;rw[h2,show a+(k+1)=a+1+k by omega];exact ih (a+1) fun i hi hk=>h i aa aa
theorem QY{R:aO->aO->Prop}{f:Nat->aO}{n:Nat}(h:∀i j,i<n->j<n->i≠j->R (f i) (f j)):((List.range n).map f).Pairwise R:=yO.2 (Yl (fun {a b} ha hb eH=>h a b (gA.1 ha) (gA.1 hb) eH) (DA (n:=n)))
section
variable {F:Nat} {ls:List Let}
theorem Xv(g:cH F ls){i:Nat}{w:List Nat}(hi:(gI (aS ls) (nD ls))[i]?=some w)(hx:x∈w):xe ls x=i:=Hu (Ht _ _).1 hi hx
theorem arh(g:cH F ls)(hx:x<nD ls):∃w,(gI (aS ls) (nD ls))[xe ls x]?=some w/\x∈w:=by obtain⟨u,hu,hxu⟩:=Fm.1 ((Ht (aS ls) (nD ls)).2 x hx);obtain⟨i,hi⟩:=je hu;rw[Xv g hi hxu];exact⟨u,hi,hxu⟩
theorem EY(g:cH F ls)(hx:x<nD ls):xe ls (aS ls x)=xe ls x:=by obtain⟨w,hw,EG⟩:=arh g hx;exact Xv g hw (Du (maps g.ok) (aU hw) EG)
theorem Xu(g:cH F ls){v:Nat}(hv:v<ls.length)(fw:Bool):xe ls (eE ls.length v fw)=if fw then (dL ls v).i.l else (dL ls v).o.r:=by cases fw<;>rfl
theorem Q3{v:Nat}(fw:Bool):xe ls (dr ls.length v fw)=if fw then (dL ls v).o.l else (dL ls v).i.r:=by cases fw<;>rfl
theorem LS(g:cH F ls):dn ls ls.length=true:=by unfold dn;rw[jQ];have:=g.even;simp[this]
theorem WG(g:cH F ls){i:Nat}(hi:i<ls.length):(dL ls i).i.b= !dn ls i:=by
 show(!dn ls ((i+ls.length-1)%ls.length+1))=_;by_cases h:i=0
 .subst h;rw[iQ,dV aa,show ls.length-1+1=ls.length by omega,LS g];rfl
 rw[show i+ls.length-1=(i-1)+ls.length by omega,qA,dV aa,show i-1+1=i by omega]
theorem Ib{v:Nat}(hv:v<ls.length)(fw:Bool):eE ls.length v fw<nD ls:=by have:=r8 hv fw;unfold nD;omega
theorem Pb(g:cH F ls){v:Nat}{l:Let}(hl:ls[v]?=some l)(hp:l.aG=true):(dL ls v).p.d=dn ls v:=by show iJ ls v=_;simp[iJ,hl,hp]
theorem DS(g:cH F ls){i:Nat}(hi:i<ls.length):Ab F (dL ls i):=by
 obtain⟨l,hl⟩:=aM hi;have hk:=dS hl;refine⟨by rw[hk];exact g.bad l (aU hl),fun hc=>?_,fun hp=>?_⟩
 .rw[hk] at hc;rw[WG g hi];show _= !dn ls (i+1);rw[LU hl (by
   cases hp:l.aG
   .rfl
   rw[nz hp] at hc;cases hc)]
 rw[hk] at hp;rw[WG g hi,Pb g hl hp];refine⟨?_,rfl⟩;show(!dn ls (i+1))=_;rw[IG hl hp,Fj]
theorem L2(g:cH F ls){i j:Nat}(hi:i<ls.length)(hj:j<ls.length)(fm:i≠j):Xr (dL ls i) (dL ls j):=by
 obtain⟨l,hl⟩:=aM hi;obtain⟨m,hm⟩:=aM hj;intro hc mc e;rw[dS hl] at hc e;rw[dS hm] at mc e;obtain⟨_,hp⟩:=g.ids;obtain⟨d1,d2⟩:=hp i j l m hl hm hc mc e fm;obtain⟨b1,w,hw,wc,wi,wo,ws⟩:=qW g.ok.cr hl hc;have hoj:fG ls i=j:=by refine Classical.byContradiction fun aI=>?_;have d3:=(hp _ _ w m hw hm wc mc (by rw[wi,e]) aI).1;rw[wo] at d3;revert d1 d3;cases l.over<;>cases m.over<;>simp
 refine⟨?_,by rw[dS hl,dS hm];exact d2,?_⟩
 .rw[dS hl,dS hm];revert d1;cases l.over<;>cases m.over<;>simp
 rw[dS hl];have t1:=EY g (Ib hi true);have t2:=EY g (Ib hi false);have t3:=EY g (Ib hj true);have t4:=EY g (Ib hj false);rw[BK hl hc,hoj,Q3,Xu g hi] at t1 t2;rw[BK hm mc,<- hoj,b1,hoj,Q3,Xu g hj] at t3 t4;have hg:(m.over==(m.sign==1))= !gX l:=by unfold gX;rw[<- d2];revert d1;cases l.over<;>cases m.over<;>cases (l.sign==1)<;>simp
 rw[hg] at t3 t4;have CB:(l.over==(l.sign==1))=gX l:=rfl;rw[CB] at t1 t2;cases zI:gX l<;>rw[zI] at t1 t2 t3 t4<;>simp at t1 t2 t3 t4<;>constructor<;>simp[t1,t2,t3,t4]
theorem Pd(g:cH F ls){v:Nat}{l:Let}(hl:ls[v]?=some l)(hp:l.aG=true):Ha (TF ls) (BF ls) (dL ls v):=by
 have hv:=(aW.1 hl).1;have ok:=g.ok;have gd:=ok.ax.eF l (aU hl) hp;obtain⟨g0,g1,r0,r1⟩:=gd;obtain⟨a1,a2⟩:=Ig ok hl hp;have V4:=Ij ok.ax hl hp;have hP:fJ ls l.gate.toNat+l.aE.toNat=(aB ls).idxOf v+1:=by rw[V4];unfold dC;omega
 have hPm:fJ ls l.gate.toNat+(l.aE.toNat-1)=(aB ls).idxOf v:=aa;have eR:(fJ ls l.gate.toNat+l.aE.toNat+(aB ls).length-1)%(aB ls).length=(aB ls).idxOf v:=by rw[hP,show(aB ls).idxOf v+1+(aB ls).length-1=(aB ls).idxOf v+(aB ls).length by omega,qA,dV a1]
 have hk:=dS hl;have hd:=Pb g hl hp;have nR:∀k,k<(aB ls).length->2*ls.length+2*k<nD ls/\2*ls.length+2*k+1<nD ls:=fun k hk=>by unfold nD;omega
 have hm:=dO ((aB ls).idxOf v+(aB ls).length-1) (show 0<(aB ls).length by omega);have q1:=EY g (Ib hv (dn ls v));have q2:=EY g (Ib hv (!dn ls v));have q3:=EY g (nR _ a1).2;have q4:=EY g (nR _ hm).1;rw[BM hl hp,Xu g hv] at q1 q2;rw[Dp,a2,Q3] at q3;rw[Dq,w9 a1,a2,Q3] at q4;constructor
 .rw[hk];unfold TF;rw[hPm];unfold aO.up;rw[hd];cases eS:dn ls v<;>rw[eS] at q4<;>exact q4
 .rw[hk];unfold TF;rw[eR];unfold aO.up;rw[hd];cases eS:dn ls v<;>rw[eS] at q1<;>exact q1.symm
 .rw[hk];unfold BF;rw[hPm];unfold aO.lo;rw[hd];cases eS:dn ls v<;>rw[eS] at q2<;>exact q2.symm
 rw[hk];unfold BF;rw[eR];unfold aO.lo;rw[hd];cases eS:dn ls v<;>rw[eS] at q3<;>exact q3
theorem cH.cz(g:cH F ls):Cz F (zF ls) (TF ls) (BF ls) (List.range (lh ls)):=by
 have hn:0<ls.length:=jf.2 g.ne;have mem:∀x∈zF ls,∃i,i<ls.length/\x=dL ls i:=fun x hx=>by obtain⟨i,hi,rfl⟩:=dp.1 hx;exact⟨i,gA.1 hi,rfl⟩
 have hT:fJ ls (F+1)=(aB ls).length:=Fu fun l hl hp=>((sY hp).1 (g.bad l hl)).1.1.1;have hs:=rB ls F;have hm:0<(aB ls).length:=by obtain⟨l,h1,h2⟩:=g.first;exact OE (tu.2 ⟨l,h1,h2⟩)
 have eI:=g.ok.cr;unfold kL at eI;simp only[cN,dI] at eI;refine⟨⟨qx ls (ls.length-1),?_⟩,fun x hx=>?_,QY fun i j hi hj fm=>L2 g hi hj fm,by rw[lB];exact eI.1.1,fun x hx hc=>?_,QY fun i j hi hj fm=>?_,fun x hx hp=>?_,fun x hx hp=>?_,
  fun k hk=>?_,?_,?_,DA,fun s hs=>?_,?_⟩
 .have:=af0 (dL ls) (fun i=>qx ls ((i+ls.length-1)%ls.length)) ls.length 0 fun i _ hi=>⟨rfl,?_⟩
  .simp only[iQ] at this;rw[dV aa,show ls.length+ls.length-1=(ls.length-1)+ls.length by omega,qA,dV aa,<- aio] at this;exact this
  show qx ls i=qx ls ((i+1+ls.length-1)%ls.length);rw[show i+1+ls.length-1=i+ls.length by omega,qA,dV aa]
 .obtain⟨i,hi,rfl⟩:=mem x hx;exact DS g hi
 .obtain⟨i,hi,rfl⟩:=mem x hx;obtain⟨l,hl⟩:=aM hi;rw[dS hl] at hc ⊢;rw[lB];exact g.ids.1 l (aU hl) hc
 .obtain⟨l,hl⟩:=aM hi;obtain⟨m,hm⟩:=aM hj;intro pl pm e1 e2;rw[dS hl] at pl e1 e2;rw[dS hm] at pm e1 e2;exact fm (g.ok.ax.inj i j l m hl hm pl pm ((Hc (g.ok.ax.eF l (aU hl) pl) (g.ok.ax.eF m (aU hm) pm)).2 ⟨e1,e2⟩))
 .obtain⟨i,hi,rfl⟩:=mem x hx;obtain⟨l,hl⟩:=aM hi;rw[dS hl] at hp ⊢;rw[lB];obtain⟨_,_,r0,r1⟩:=g.ok.ax.eF l (aU hl) hp;exact⟨r0,r1⟩
 .obtain⟨i,hi,rfl⟩:=mem x hx;obtain⟨l,hl⟩:=aM hi;rw[dS hl] at hp;exact Pd g hl hp
 .rw[lB];unfold TF BF;rw[rB ls k,xw];exact⟨rfl,rfl⟩
 .rw[lB];unfold TF BF;have e1:fJ ls F+cg ls F=(aB ls).length:=aa;have e0:fJ ls 0=0:=rfl;rw[e1,e0,iQ,show(aB ls).length+(aB ls).length-1=((aB ls).length-1)+(aB ls).length by omega,qA];exact⟨rfl,rfl⟩
 .obtain⟨l,h1,h2⟩:=g.first;exact⟨dL ls 0,aU (Fi hn),by rw[dS h1];exact h2⟩
 .obtain⟨w,hw⟩:=aM (gA.1 hs);obtain⟨⟨d,t,e,hd⟩,_⟩:=Hs g.ok w (aU hw);have hp:xe ls d=s:=Xv g hw (by rw[e];simp);refine⟨dL ls (d/2),aU (Fi aa),?_⟩;rcases wm d with h|h
  .refine .inl ?_;show s=xe ls (2*(d/2));rw[show 2*(d/2)=d by omega,hp]
  refine .inr ?_;show s=xe ls (2*(d/2)+1);rw[show 2*(d/2)+1=d by omega,hp]
 rw[lB,Dy,g.nw];omega
end
structure Cq (F:Nat) (z:List aO) (T B:Nat->Nat->Nat):Prop where
 ok:∀x∈z,Ab F x
 cr:z.Pairwise Xr
 ev:aw Let.aC (aQ z)%2=0
 ids:∀x∈z,x.k.aC=true->1<=x.k.id/\x.k.id<=((aw Let.aC (aQ z)/2:Nat):Int)
 rk:z.Pairwise Dr
 rr:∀x∈z,x.k.aG=true->1<=x.k.aE/\x.k.aE<=(cg (aQ z) x.k.gate.toNat:Int)
 pl:∀x∈z,x.k.aG=true->Ha T B x
 gt:∀g,g<F->T g (cg (aQ z) g)=T (g+1) 0/\B g (cg (aQ z) g)=B (g+1) 0
 gz:T F (cg (aQ z) F)=T 0 0/\B F (cg (aQ z) F)=B 0 0
def dX.mp(ψ:Nat->Nat)(s:dX):dX:=⟨ψ s.l,ψ s.r,s.b⟩
def aO.mp(ψ:Nat->Nat)(h:Let->Let)(x:aO):aO:=⟨⟨h x.p.l,x.p.d⟩,x.i.mp ψ,x.o.mp ψ⟩
theorem X4.mp{g:Bool}{i o j q:dX}(h:X4 g i o j q)(ψ:Nat->Nat):X4 g (i.mp ψ) (o.mp ψ) (j.mp ψ) (q.mp ψ):=by obtain⟨a,b,c,d⟩:=h;cases g<;>simp only[dx,if_false,if_true] at a b c d<;>constructor<;>simp[dX.mp,a,b,c,d]
theorem afo(ψ:Nat->Nat)(h:Let->Let)(x:aO):(x.mp ψ h).up=x.up.mp ψ:=by unfold aO.up aO.mp;cases x.p.d<;>rfl
theorem afn(ψ:Nat->Nat)(h:Let->Let)(x:aO):(x.mp ψ h).lo=x.lo.mp ψ:=by unfold aO.lo aO.mp;cases x.p.d<;>rfl
theorem Q1{ψ:Nat->Nat}{h:Let->Let}:∀ {z:List aO} {s t:dX},jS s z t->jS (s.mp ψ) (z.map (aO.mp ψ h)) (t.mp ψ):=by
 intro z
 induction z with
 |nil=>intro s t e;cases e;rfl
 |cons x z ih=>intro s t e;obtain⟨rfl,e⟩:=e;exact⟨rfl,ih e⟩
theorem ab3{S L:List Nat}(hn:S.Nodup):S.length<=(S.filter fun s=> !L.contains s).length+L.length:=by
 have h1:S.length=(S.filter fun s=> !L.contains s).length+(S.filter fun s=>L.contains s).length:=by have:=List.length_eq_countP_add_countP (fun s=> !L.contains s) (l:=S);rw[Sd,Sd] at this;rw[this];congr 2;apply List.filter_congr;intro x _;simp
 have h2:=KG (S.filter fun s=>L.contains s) L (hn.filter _) fun x hx=>by simpa using (uZ.1 hx).2
 omega
structure Ax (h:Let->Let):Prop where
 kind:∀l,(h l).kind=l.kind
 over:∀l,(h l).over=l.over
 sign:∀l,(h l).sign=l.sign
theorem Ax.aG{h:Let->Let}(s:Ax h)(l:Let):(h l).aG=l.aG:=by unfold Let.aG;rw[s.kind]
theorem Ax.aC{h:Let->Let}(s:Ax h)(l:Let):(h l).aC=l.aC:=by unfold Let.aC;rw[s.kind]
theorem Ax.id:Ax id:=⟨fun _=>rfl,fun _=>rfl,fun _=>rfl⟩
section
variable {F:Nat} {X r X':List aO} {T B T' B':Nat->Nat->Nat} {S:List Nat} {ψ:Nat->Nat} {h:Let->Let}
theorem Cz.q{z:List aO}(c:Cz F z T B S):Cq F z T B:=⟨c.ok,c.cr,c.ev,c.ids,c.rk,c.rr,c.pl,c.gt,c.gz⟩
theorem Cq.perm{z z':List aO}(c:Cq F z T B)(hh:z.Perm z'):Cq F z' T B:=by
 have hm:∀ {x},x∈z'↔x∈z:=fun {x}=>hh.symm.mem_iff;have e:∀p,aw p (aQ z')=aw p (aQ z):=fun p=>(Cg hh).symm;have eg:∀g,cg (aQ z') g=cg (aQ z) g:=fun g=>e _;exact⟨fun x hx=>c.ok x (hm.1 hx),(hh.pairwise_iff fun {x y}=>Xr.symm).1 c.cr,by rw[e];exact c.ev,fun x hx=>by rw[e];exact c.ids x (hm.1 hx),(hh.pairwise_iff fun {x y}=>Dr.symm).1 c.rk,
  fun x hx=>by rw[eg];exact c.rr x (hm.1 hx),fun x hx=>c.pl x (hm.1 hx),fun g hg=>by rw[eg];exact c.gt g hg,by rw[eg];exact c.gz⟩
theorem Ab.mp{x:aO}(o:Ab F x)(s:Ax h)(hb:dy F (h x.k)=false):Ab F (x.mp ψ h):=by
 refine⟨hb,fun hc=>?_,fun hp=>?_⟩
 .exact o.cb (by rw[<- s.aC];exact hc)
 exact o.pb (by rw[<- s.aG];exact hp)
theorem Cq.edit(q:Cq F (X++r) T B)(s:Ax h)(hb:∀x∈r,dy F (h x.k)=false)
  (hid:∀x∈r,∀y∈r,x.k.aC=true->y.k.aC=true->(h x.k).id=(h y.k).id->x.k.id=y.k.id)
  (k9:∀x∈r,∀y∈r,x.k.aG=true->y.k.aG=true->(h x.k).gate=(h y.k).gate->(h x.k).aE=(h y.k).aE->x.k.gate=y.k.gate/\x.k.aE=y.k.aE)
  (n1:∀x∈X',Ab F x) (n2:X'.Pairwise Xr) (n3:X'.Pairwise Dr) (n4:∀x∈X',∀y∈r,Xr x (y.mp ψ h)) (n5:∀x∈X',∀y∈r,Dr x (y.mp ψ h))
  (ev:aw Let.aC (aQ (X'++r.map (aO.mp ψ h)))%2=0)
  (ids:∀x∈X',x.k.aC=true->1<=x.k.id/\x.k.id<=((aw Let.aC (aQ (X'++r.map (aO.mp ψ h)))/2:Nat):Int))
  (aoz:∀x∈r,x.k.aC=true->1<=(h x.k).id/\(h x.k).id<=((aw Let.aC (aQ (X'++r.map (aO.mp ψ h)))/2:Nat):Int))
  (rr:∀x∈X',x.k.aG=true->1<=x.k.aE/\x.k.aE<=(cg (aQ (X'++r.map (aO.mp ψ h))) x.k.gate.toNat:Int))
  (rr':∀x∈r,x.k.aG=true->1<=(h x.k).aE/\(h x.k).aE<=(cg (aQ (X'++r.map (aO.mp ψ h))) (h x.k).gate.toNat:Int))
  (pl:∀x∈X',x.k.aG=true->Ha T' B' x)
  (Bu:∀x∈r,x.k.aG=true->(ψ (T x.k.gate.toNat (x.k.aE.toNat-1))=T' (h x.k).gate.toNat ((h x.k).aE.toNat-1)/\ψ (B x.k.gate.toNat (x.k.aE.toNat-1))=B' (h x.k).gate.toNat ((h x.k).aE.toNat-1))/\ψ (T x.k.gate.toNat x.k.aE.toNat)=T' (h x.k).gate.toNat (h x.k).aE.toNat/\ψ (B x.k.gate.toNat x.k.aE.toNat)=B' (h x.k).gate.toNat (h x.k).aE.toNat)
  (gt:∀g,g<F->T' g (cg (aQ (X'++r.map (aO.mp ψ h))) g)=T' (g+1) 0/\B' g (cg (aQ (X'++r.map (aO.mp ψ h))) g)=B' (g+1) 0)
  (gz:T' F (cg (aQ (X'++r.map (aO.mp ψ h))) F)=T' 0 0/\B' F (cg (aQ (X'++r.map (aO.mp ψ h))) F)=B' 0 0):Cq F (X'++r.map (aO.mp ψ h)) T' B':=by
 have crr:=(HJ.1 q.cr).2.1;have rkr:=(HJ.1 q.rk).2.1;have mem:∀x∈X'++r.map (aO.mp ψ h),x∈X'\/ ∃y∈r,x=y.mp ψ h:=fun x hx=>by
  rcases eD.1 hx with hx|hx
  .exact .inl hx
  obtain⟨y,hy,rfl⟩:=dp.1 hx;exact .inr ⟨y,hy,rfl⟩
 have in':∀y∈r,y∈X++r:=fun y hy=>BR _ hy;refine⟨fun x hx=>?_,?_,ev,fun x hx hc=>?_,?_,fun x hx hp=>?_,fun x hx hp=>?_,gt,gz⟩
 .rcases mem x hx with hx|⟨y,hy,rfl⟩
  .exact n1 x hx
  exact(q.ok y (in' y hy)).mp s (hb y hy)
 .refine HJ.2 ⟨n2,yO.2 (crr.imp_of_mem fun {x y} hx hy jG hc hd e=>?_),fun x hx y hy=>?_⟩
  .have hc:x.k.aC=true:=by rw[<- s.aC];exact hc
   have hd:y.k.aC=true:=by rw[<- s.aC];exact hd
   obtain⟨h1,h2,h3⟩:=jG hc hd (hid x hx y hy hc hd e);refine⟨?_,?_,?_⟩
   .show(h x.k).over= !(h y.k).over;rw[s.over,s.over];exact h1
   .show(h x.k).sign=(h y.k).sign;rw[s.sign,s.sign];exact h2
   have:gX (x.mp ψ h).k=gX x.k:=by show((h x.k).over==((h x.k).sign==1))=_;rw[s.over,s.sign];rfl
   rw[this];exact h3.mp ψ
  obtain⟨w,hw,rfl⟩:=dp.1 hy;exact n4 x hx w hw
 .rcases mem x hx with hx|⟨y,hy,rfl⟩
  .exact ids x hx hc
  exact aoz y hy (by rw[<- s.aC];exact hc)
 .refine HJ.2 ⟨n3,yO.2 (rkr.imp_of_mem fun {x y} hx hy jG hc hd e1 e2=>?_),fun x hx y hy=>?_⟩
  .have hc:x.k.aG=true:=by rw[<- s.aG];exact hc
   have hd:y.k.aG=true:=by rw[<- s.aG];exact hd
   obtain⟨f1,f2⟩:=k9 x hx y hy hc hd e1 e2;exact jG hc hd f1 f2
  obtain⟨w,hw,rfl⟩:=dp.1 hy;exact n5 x hx w hw
 .rcases mem x hx with hx|⟨y,hy,rfl⟩
  .exact rr x hx hp
  exact rr' y hy (by rw[<- s.aG];exact hp)
 rcases mem x hx with hx|⟨y,hy,rfl⟩
 .exact pl x hx hp
 have hp:y.k.aG=true:=by rw[<- s.aG];exact hp
 obtain⟨p1,p2,p3,p4⟩:=q.pl y (in' y hy) hp;obtain⟨⟨a1,a2⟩,a3,a4⟩:=Bu y hy hp;constructor
 .rw[afo];show ψ y.up.r=_;rw[p1];exact a1
 .rw[afo];show ψ y.up.l=_;rw[p2];exact a3
 .rw[afn];show ψ y.lo.r=_;rw[p3];exact a2
 rw[afn];show ψ y.lo.l=_;rw[p4];exact a4
theorem Cq.done{l:List Pc}{z':List aO}{L N:List Nat}{V:Nat}(q:Cq F (X'++r.map (aO.mp ψ h)) T' B')(eZ:S.Nodup)(wit:∀s∈S,∃x∈X++r,s=x.o.l\/s=x.o.r)
  (nv:z'.Perm (X'++r.map (aO.mp ψ h))) (Wn:∃s,jS s z' s) (hl:z'.map aO.p=l) (one:∃x∈X'++r.map (aO.mp ψ h),x.k.aG=true)
  (hψ:∀s∈S,s∉L->ψ s=s) (hX:∀x∈X,∀s∈S,(s=x.o.l\/s=x.o.r)->s∉L->∃y∈X'++r.map (aO.mp ψ h),s=y.o.l\/s=y.o.r)
  (hN:N.Nodup) (hNS:∀s∈N,s∉S) (hNw:∀s∈N,∃y∈X'++r.map (aO.mp ψ h),s=y.o.l\/s=y.o.r)
  (hS:V<=S.length) (num:aw Let.aG (aQ (X'++r.map (aO.mp ψ h)))+aw Let.aC (aQ (X'++r.map (aO.mp ψ h)))/2+1+L.length<=V+N.length):Cert F l:=by
 have qz:=q.perm nv.symm;have hm:∀ {x},x∈z'↔x∈X'++r.map (aO.mp ψ h):=fun {x}=>nv.mem_iff;refine⟨z',T',B',N++S.filter (fun s=> !L.contains s),hl,⟨Wn,qz.ok,qz.cr,qz.ev,qz.ids,qz.rk,qz.rr,qz.pl,qz.gt,qz.gz,?_,?_,fun s hs=>?_,?_⟩⟩
 .obtain⟨x,hx,e⟩:=one;exact⟨x,hm.2 hx,e⟩
 .refine Dz.2 ⟨hN,eZ.filter _,fun a ha b hb e=>?_⟩;subst e;exact hNS a ha (uZ.1 hb).1
 .have key:∃y∈X'++r.map (aO.mp ψ h),s=y.o.l\/s=y.o.r:=by
   rcases eD.1 hs with hs|hs
   .exact hNw s hs
   obtain⟨h1,h2⟩:=uZ.1 hs;have h2:s∉L:=by simpa using h2
   obtain⟨x,hx,e⟩:=wit s h1;rcases eD.1 hx with hx|hx
   .exact hX x hx s h1 e h2
   refine⟨x.mp ψ h,BR _ (dp.2 ⟨x,hx,rfl⟩),?_⟩;have hp:=hψ s h1 h2;rcases e with e|e
   .left;show s=ψ x.o.l;rw[<- e,hp]
   right;show s=ψ x.o.r;rw[<- e,hp]
  obtain⟨y,hy,e⟩:=key;exact⟨y,hm.2 hy,e⟩
 have e:∀p,aw p (aQ z')=aw p (aQ (X'++r.map (aO.mp ψ h))):=fun p=>Cg nv;rw[e,e,ff];have:=ab3 (L:=L) eZ;omega
end
theorem S2(p:Let->Bool)(a b:List aO):aw p (aQ (a++b))=aw p (aQ a)+aw p (aQ b):=by show List.countP p (List.map _ _)=List.countP p (List.map _ _)+List.countP p (List.map _ _);rw[j6,v7]
theorem lH(p:Let->Bool)(x:aO)(b:List aO):aw p (aQ (x::b))=(if p x.k then 1 else 0)+aw p (aQ b):=by show List.countP p (List.map _ _)=_+List.countP p (List.map _ _);rw[dK,xr,Ld]
theorem S4(p:Let->Bool):aw p (aQ [])=0:=rfl
theorem Cf{p:Let->Bool}{ψ:Nat->Nat}{h:Let->Let}(hp:∀l,p (h l)=p l)(r:List aO):aw p (aQ (r.map (aO.mp ψ h)))=aw p (aQ r):=by
 induction r with
 |nil=>rfl
 |cons x r ih=>rw[dK,lH,lH,ih];show(if p (h x.k) then 1 else 0)+_=_;rw[hp]
theorem Ie{l:Let}(g:Nat)(h:l.aC=true):nJ g l=false:=by
 unfold nJ;cases hp:l.aG
 .rfl
 rw[nz hp] at h;cases h
theorem mQ{l:Let}(h:l.aC=true):l.aG=false:=by
 cases hp:l.aG
 .rfl
 rw[nz hp] at h;cases h
theorem amJ{α:Type}{z:List α}{a:Nat}(ha:a<z.length)(h2:2<=z.length):∃x y r,z.drop a++z.take a=x::y::r/\z[a]?=some x/\z[(a+1)%z.length]?=some y:=by
 obtain⟨x,hx⟩:=aM ha;obtain⟨hl,e⟩:=aW.1 hx;have hd:z.drop a=x::z.drop (a+1):=by rw[<- e,tj]
 by_cases c:a+1<z.length
 .obtain⟨y,hy⟩:=aM c;obtain⟨sK,e2⟩:=aW.1 hy;have xV:z.drop (a+1)=y::z.drop (a+1+1):=by rw[<- e2,tj]
  exact⟨x,y,z.drop (a+1+1)++z.take a,by rw[hd,xV];rfl,hx,by rw[dV c];exact hy⟩
 have ea:a+1=z.length:=aa;obtain⟨y,hy⟩:=aM (ls:=z) (k:=0) aa;have xV:z.drop (a+1)=[]:=List.drop_eq_nil_of_le aa;have ht:z.take a=y::(z.take a).drop 1:=by
  have h0:(z.take a)[0]?=some y:=by rw[kJ,aF aa];exact hy
  obtain⟨hl3,e3⟩:=aW.1 h0;have:=tj (h:=hl3);rw[e3,OA] at this;exact this.symm
 refine⟨x,y,(z.take a).drop 1,?_,hx,by rw[ea,rh];exact hy⟩;rw[hd,xV]
 conv=>lhs;rw[ht]
 rfl
section
variable {F:Nat} {ls:List Let}
theorem yr{l:Let}(h:l.aC=true):(if Let.aC l=true then 1 else 0)=1/\(if Let.aG l=true then 1 else 0)=0:=by simp[h,mQ h]
theorem ifP{l:Let}(h:l.aG=true):(if Let.aC l=true then 1 else 0)=0/\(if Let.aG l=true then 1 else 0)=1:=by simp[h,nz h]
end
def gT(ids:List Int)(l:Let):Let:=if l.kind==2 then {l with id:=l.id-((ids.take ids.length).countP (fun i=>decide (i<l.id)):Nat)} else l
theorem Bo(ids:List Int):Ax (gT ids):=by refine⟨fun l=>?_,fun l=>?_,fun l=>?_⟩<;>unfold gT<;>split<;>rfl
theorem ae6(ids:List Int)(p:Pc):rO ids p=⟨gT ids p.l,p.d⟩:=by unfold rO gT jH;split<;>rfl
theorem Bn{ids:List Int}{l:Let}(h:l.aG=true):gT ids l=l:=by unfold gT;have:=nz h;unfold Let.aC at this;rw[ay (by rw[this];decide)]
theorem ae3{ids:List Int}{l:Let}(h:dy F l=false):dy F (gT ids l)=false:=by
 rcases yX h with hp|hc
 .rw[Bn hp];exact h
 have kE:(gT ids l).aC=true:=by rw[(Bo ids).aC];exact hc
 rw[QN hc] at h;rw[QN kE];unfold gT;split<;>exact h
theorem ae2(ids:List Int)(g:Nat)(l:Let):nJ g (gT ids l)=nJ g l:=by
 cases hp:l.aG
 .unfold nJ;rw[(Bo ids).aG,hp];rfl
 rw[Bn hp]
theorem ae4{ids:List Int}{l:Let}(h:l.aC=true):(gT ids l).id=l.id-((ids.countP fun i=>decide (i<l.id):Nat):Int):=by unfold gT;unfold Let.aC at h;rw[aF h,jQ]
theorem aeC{l:List Pc}{drop:Nat->Pc->Bool}{d:Pc->Bool}(h:∀i p,drop i p=d p):pI l drop=l.filter fun p=> !d p:=by
 have key:∀k,k<=l.length->tP l drop k=(l.take k).filter fun p=> !d p:=by
  intro k
  induction k with
  |zero=>intro _;rfl
  |succ k ih=>
   intro hk;obtain⟨p,hp⟩:=aM (ls:=l) (k:=k) aa;rw[kX,hp,OB,<- ih aa];cases hd:d p
   .rw[JN hp (by rw[h];exact hd)];simp[hd]
   rw[Bh hp (by rw[h];exact hd)];simp[hd]
 unfold pI;rw[key _ (bJ _),jQ]
theorem Q0:∀ {z:List aO} {s t:dX},jS s z t->z≠[]->∃w∈z,w.o=t:=by
 intro z
 induction z with
 |nil=>intro s t _ h;exact absurd rfl h
 |cons x z ih=>
  intro s t h _;obtain⟨_,h⟩:=h;cases z with
  |nil=>cases h;exact⟨x,af,rfl⟩
  |cons y z=>obtain⟨w,hw,e⟩:=ih h af;exact⟨w,ug _ hw,e⟩
section
variable {F:Nat} {ls:List Let}
theorem aqz{x y:aO}{r:List aO}{T B:Nat->Nat->Nat}(q:Cq F (x::y::r) T B)(cx:x.k.aC=true)(cy:y.k.aC=true)(e:x.k.id=y.k.id):∀w∈r,w.k.aC=true->w.k.id≠x.k.id:=by intro w hw cw ew;obtain⟨p1,p2⟩:=ui.1 q.cr;obtain⟨p3,_⟩:=ui.1 p2;have a:=(p1 y af cx cy e).ov;have b:=(p1 w (by simp[hw]) cx cw ew.symm).ov;have d:=(p3 w hw cy cw (by rw[<- e,ew])).ov;rw[b] at a;rw[d] at a;revert a;cases w.k.over<;>simp
theorem Yk(g:cH F ls){a:Nat}(ha:a<ls.length):∃x y r s,(zF ls).drop a++(zF ls).take a=x::y::r/\(pieces ls)[a]?=some x.p/\(pieces ls)[nx ls a]?=some y.p/\
  Cz F (x::y::r) (TF ls) (BF ls) (List.range (lh ls))/\jS s (x::y::r) s/\(pieces ls).drop a++(pieces ls).take a=(x::y::r).map aO.p/\(zF ls)[a]?=some x/\(zF ls)[nx ls a]?=some y/\(x::y::r).Perm (zF ls):=by
 have h2:2<=ls.length:=by obtain⟨l,h1,hp⟩:=g.first;have:=g.even;have:0<aw Let.aG ls:=yN.2 ⟨l,aU h1,hp⟩;have:=tx Let.aG ls;omega
 have hl:=KW ls;obtain⟨x,y,r,e,hx,hy⟩:=amJ (z:=zF ls) (a:=a) aa aa;rw[hl] at hy;have c:Cz F ((zF ls).drop a++(zF ls).take a) (TF ls) (BF ls) (List.range (lh ls)):=by refine Cz.kG ?_;rw[nC];exact g.cz
 rw[e] at c;obtain⟨s,hs⟩:=c.path;refine⟨x,y,r,s,e,?_,?_,c,hs,?_,hx,hy,?_⟩
 .rw[<- Hz,fQ,hx];rfl
 .rw[<- Hz,fQ,hy];rfl
 .rw[<- e,j6,OF,HH,Hz]
 rw[<- e];exact List.perm_append_comm.trans (by rw[nC])
theorem aaF{a:Nat}{d:Pc->Bool}{f:Pc->Pc}(c:Cert F ((((pieces ls).drop a++(pieces ls).take a).filter d).map f)):Cert F (((pieces ls).filter d).map f):=by rw[OB,j6] at c;have:=c.kG;rwa[<- j6,<- OB,nC] at this
theorem adM{l:Let}:l.aC=(l.kind==2):=rfl
theorem filter_all{α:Type}{l:List α}{p:α->Bool}(h:∀x∈l,p x=true):l.filter p=l:=List.filter_eq_self.2 h
theorem ako(g:cH F ls){a:Nat}(ha:a<ls.length){L:List Pc}(h:yv ls a=some L):Cert F L:=by
 obtain⟨x,y,r,s,e,hx,hy,c,hp,Jz,_,_,nv⟩:=Yk g ha;have q:=c.q;unfold yv at h;have e1:(pieces ls).getD a ⟨kz,false⟩=x.p:=by rw[di,hx];rfl
 have e2:(pieces ls).getD ((a+1)%ls.length) ⟨kz,false⟩=y.p:=by rw[di,hy];rfl
 simp only[e1,e2] at h;split at h
 case isFalse=>cases h
 rename_i hc;simp only[cN,dI] at hc;obtain⟨iC,oY,hid⟩:=hc;have cx:x.k.aC=true:=by rw[adM];simp[iC]
 have cy:y.k.aC=true:=by rw[adM];simp[oY]
 have tJ:x.k.id=y.k.id:=hid;cases h;have Qj:=aqz q cx cy tJ;have jG:Xc x y:=(ui.1 q.cr).1 y af cx cy tJ;obtain⟨jX,fp,tL⟩:=hp
 -- both ends of the kink look alike
 have ix:=(q.ok x af).cb cx;have iy:=(q.ok y af).cb cy;have hk:=jG.x4;rw[jX,fp] at hk;rw[jX] at ix;rw[fp] at iy;have hyo:y.o=s:=by
  obtain⟨k1,k2,k3,k4⟩:=hk;have hb:y.o.b=s.b:=by rw[<- iy,<- ix]
  cases y with
  |mk yp yi yo=>
  cases yo with
  |mk l r b=>
  cases s with
  |mk sl sr sb=>
  cases hg:gX x.k<;>rw[hg] at k1 k2 k3 k4<;>simp only[dx,if_false,if_true] at k1 k2 k3 k4 hb<;>simp_all
 rw[hyo] at tL;have V9:∃b,(s.r=b\/s.l=b)/\ ∀t,(t=x.o.l\/t=x.o.r)->t=s.l\/t=s.r\/t=(if gX x.k then x.o.r else x.o.l):=by
  obtain⟨k1,k2,k3,k4⟩:=hk;refine⟨s.r,.inl rfl,?_⟩;cases hg:gX x.k<;>rw[hg] at k1 k2 k3 k4<;>simp only[dx,if_false,if_true] at k1 k2 k3 k4 ⊢
  .rintro t (rfl|rfl)
   .exact .inr (.inr rfl)
   exact .inl k1.symm
  rintro t (rfl|rfl)
  .exact .inr (.inl k3)
  exact .inr (.inr rfl)
 obtain⟨_,_,V9⟩:=V9;have dQ:=q.ev;have zx:∀z:List aO,aw Let.aC (aQ (x::y::z))=aw Let.aC (aQ z)+2:=fun z=>by rw[lH,lH,(yr cx).1,(yr cy).1];omega
 have Gd:∀z:List aO,aw Let.aG (aQ (x::y::z))=aw Let.aG (aQ z):=fun z=>by rw[lH,lH,(yr cx).2,(yr cy).2];omega
 have xS:∀(z:List aO) k,cg (aQ (x::y::z)) k=cg (aQ z) k:=fun z k=>by show aw _ _=aw _ _;rw[lH,lH,Ie k cx,Ie k cy];simp
 have mC:aw Let.aC (aQ (r.map (aO.mp id (gT [x.k.id]))))=aw Let.aC (aQ r):=Cf (fun l=>(Bo _).aC l) r;have mP:aw Let.aG (aQ (r.map (aO.mp id (gT [x.k.id]))))=aw Let.aG (aQ r):=Cf (fun l=>(Bo _).aG l) r;have mG:∀k,cg (aQ (r.map (aO.mp id (gT [x.k.id])))) k=cg (aQ r) k:=fun k=>Cf (fun l=>ae2 _ k l) r;have lowid:∀w∈r,w.k.aC=true->(gT [x.k.id] w.k).id=if x.k.id<w.k.id then w.k.id-1 else w.k.id:=fun w hw hc=>by
  rw[ae4 hc];by_cases c:x.k.id<w.k.id
  .simp[c]
  simp[c]
 have Jn:∀w∈x::y::r,w.k.aC=true->1<=w.k.id/\w.k.id<=((aw Let.aC (aQ r)/2:Nat):Int)+1:=fun w hw hc=>by have:=q.ids w hw hc;rw[zx] at this;omega
 have hr:r≠[]:=by
  obtain⟨w,hw,qp⟩:=c.one;rintro rfl
  simp only[cM,gC,or_false] at hw;rcases hw with rfl|rfl
  .rw[mQ cx] at qp;cases qp
  rw[mQ cy] at qp;cases qp
 have inr:∀w∈r,w∈x::y::r:=fun w hw=>by simp[hw]
 have qn:Cq F ([]++r.map (aO.mp id (gT [x.k.id]))) (TF ls) (BF ls):=by
  refine Cq.edit (X:=[x,y]) (r:=r) q (Bo _) (fun w hw=>ae3 (q.ok w (inr w hw)).bad) (fun u hu v hv cu cv e=>?_) (fun u hu v hv pu pv e1 e2=>?_) (fun _ h=>by cases h) List.Pairwise.nil List.Pairwise.nil (fun _ h=>by cases h) (fun _ h=>by cases h) ?_ (fun _ h=>by cases h) (fun u hu cu=>?_) (fun _ h=>by cases h) (fun u hu pu=>?_) (fun _ h=>by cases h) (fun u hu pu=>?_) (fun k hk=>?_) ?_
  .have h1:=Qj u hu cu;have h2:=Qj v hv cv;rw[lowid u hu cu,lowid v hv cv] at e;split at e<;>split at e<;>omega
  .rw[Bn pu,Bn pv] at e1 e2;exact⟨e1,e2⟩
  .rw[fY,mC];rw[zx] at dQ;omega
  .rw[fY,mC,lowid u hu cu];have h1:=Jn u (inr u hu) cu;have h2:=Qj u hu cu;have h3:=Jn x af cx;split<;>omega
  .rw[fY,Bn pu,mG,<- xS r];exact q.rr u (inr u hu) pu
  .rw[Bn pu];exact⟨⟨rfl,rfl⟩,rfl,rfl⟩
  .rw[fY,mG,<- xS r];exact q.gt k hk
  rw[fY,mG,<- xS r];exact q.gz
 have MI:Cert F (r.map fun w=>rO [x.k.id] w.p):=by
  refine Cq.done (X:=[x,y]) (r:=r) (X':=[]) (L:=[if gX x.k then x.o.r else x.o.l]) (N:=[]) (V:=lh ls) (z':=r.map (aO.mp id (gT [x.k.id]))) qn c.nd (fun t ht=>c.wit t ht) (List.Perm.refl _) ⟨s,Q1 (ψ:=id) tL⟩ ?_ ?_ (fun _ _ _=>rfl) (fun w hw t ht ew hL=>?_) uh (fun t ht=>by cases ht) (fun t ht=>by cases ht) (by rw[Dy];exact bJ _) ?_
  .rw[tm];refine Aq fun w _=>?_;rw[ae6];rfl
  .obtain⟨w,hw,qp⟩:=c.one;simp only[cM] at hw;rcases hw with rfl|rfl|hw
   .rw[mQ cx] at qp;cases qp
   .rw[mQ cy] at qp;cases qp
   refine⟨w.mp id (gT [x.k.id]),?_,?_⟩
   .rw[fY];exact dp.2 ⟨w,hw,rfl⟩
   show(gT [x.k.id] w.k).aG=true;rw[(Bo _).aG];exact qp
  .obtain⟨v,hv,hvo⟩:=Q0 tL hr;have key:t=s.l\/t=s.r:=by
    simp only[cM,gC,or_false] at hw hL;rcases hw with rfl|rfl
    .rcases V9 t ew with h|h|h
     .exact .inl h
     .exact .inr h
     exact absurd h hL
    rw[hyo] at ew;exact ew
   refine⟨v.mp id (gT [x.k.id]),by rw[fY];exact dp.2 ⟨v,hv,rfl⟩,?_⟩;show t=id v.o.l\/t=id v.o.r;rw[hvo];exact key
  rw[fY,mC,mP];have h1:=g.nw;have h2:aw Let.aC (aQ (x::y::r))=aw Let.aC ls:=by rw[Cg nv,lB]
  have h3:aw Let.aG (aQ (x::y::r))=aw Let.aG ls:=by rw[Cg nv,lB]
  rw[zx] at h2;rw[Gd] at h3;simp only[ez,dh];omega
 show Cert F ((pI (pieces ls) (uu [x.k.id])).map (rO [x.k.id]));rw[aeC (l:=pieces ls) (drop:=uu [x.k.id]) (d:=fun p=>(p.l.kind==2)&&[x.k.id].contains p.l.id) fun _ _=>rfl];refine aaF (a:=a) ?_;rw[Jz];have hf:((x::y::r).map aO.p).filter (fun p=> !((p.l.kind==2)&&[x.k.id].contains p.l.id))=r.map aO.p:=by
  rw[dK,dK,Yt (by simp[iC]),Yt (by simp[oY,hid])];refine filter_all fun p hp=>?_;obtain⟨w,hw,rfl⟩:=dp.1 hp;cases hk:(w.p.l.kind==2)
  .rfl
  have:=Qj w hw hk;simp[this]
 rw[hf,tm];exact MI
end
end
end Go.Abs
