/-
  Certificates: names of faces at each letter show that a code is valid.
-/
import Derived.Test.YtfhejdojdajpmaaGreatDoorVe
set_option linter.all false
set_option maxHeartbeats 16000000
namespace Go.Abs
section
variable{F v x:Nat}
theorem WD{R:Nat->Nat->Prop}{n:Nat}{L:List Nat}(h:∀x,x<n->∃r∈L,bh R x r):K (bh R) n<=L.length:=by
 have key:∀M:List Nat,M.Nodup->(∀x∈M,x<n/\ld (bh R) x)->∃N:List Nat,N.length=M.length/\N.Nodup/\ ∀r∈N,r∈L/\ ∃x∈M,bh R x r:=by
  intro M
  induction M with
  |nil=>intro _ _;exact⟨[],rfl,w8,af⟩
  |cons a M ih=>
   intro hn hm;obtain⟨n1,n2⟩:=qj.1 hn;obtain⟨N,l1,l2,l3⟩:=ih n2 fun x hx=>hm x (by simp[hx]);obtain⟨ha,la⟩:=hm a af;obtain⟨r,hr,e⟩:=h a ha;refine⟨r::N,by simp[l1],qj.2 ⟨fun hN=>?_,l2⟩,fun q hq=>?_⟩
   .obtain⟨_,x,hx,ex⟩:=l3 r hN;have e1:=la x (e.trans ex.symm);have e2:=(hm x (by simp[hx])).2 a (ex.trans e.symm);have:a=x:=aa;exact n1 (this▸hx)
   rcases dh.1 hq with rfl|hq
   .exact⟨hr,a,af,e⟩
   obtain⟨q1,x,hx,ex⟩:=l3 q hq;exact⟨q1,x,by simp[hx],ex⟩
 obtain⟨N,l1,l2,l3⟩:=key ((List.range n).filter (zo (bh R))) (DF.filter _) fun x hx=>by obtain⟨h1,h2⟩:=uA.1 hx;exact⟨fJ.1 h1,HE.1 h2⟩
 unfold K;rw[Pr,<- l1];exact LQ _ _ l2 fun r hr=>(l3 r hr).1
theorem NS(p:Nat->Nat)(x:Nat):∀i j,it p (i+j) x=it p i (it p j x):=by
 intro i j
 induction i with
 |zero=>rw[jt];rfl
 |succ i ih=>rw[show i+1+j=(i+j)+1 by omega];show p (it p (i+j) x)=p (it p i (it p j x));rw[ih]
theorem alU{p:Nat->Nat}{m:Nat}(h:it p m x=x):∀k,it p (k*m) x=x:=by
 intro k
 induction k with
 |zero=>rw[yF];rfl
 |succ k ih=>rw[Nat.succ_mul,NS,h,ih]
theorem ans{n:Nat}{p:Nat->Nat}(h:Perm n p){a b:Nat}(e:bh (gr n p) a b):a=b\/(a<n/\b<n/\ ∃k,it p k a=b):=by
 induction e with
 | @rel a b r=>obtain⟨ha,rfl⟩:=r;exact .inr ⟨ha,h.lt _ ha,1,rfl⟩
 |refl _=>exact .inl rfl
 | @symm a b _ ih=>
  rcases ih with rfl|⟨ha,hb,k,hk⟩
  .exact .inl rfl
  obtain⟨m,hm⟩:=h.X5 ha;refine .inr ⟨hb,ha,k*m,?_⟩;rw[<- hk,<- NS,show k*m+k=k*(m+1) by rw[Nat.mul_succ]];exact alU hm k
 |trans _ _ i1 i2=>
  rcases i1 with rfl|⟨ha,hb,k,hk⟩
  .exact i2
  rcases i2 with rfl|⟨_,hc,j,hj⟩
  .exact .inr ⟨ha,hb,k,hk⟩
  exact .inr ⟨ha,hc,j+k,by rw[NS,hk,hj]⟩
theorem ark{n:Nat}{p:Nat->Nat}(h:Perm n p){a b:Nat}(ef:a≠b)(e:bh (gr n p) a b):¬bh (gr n (tr p (a,b))) a b:=by
 rcases ans h e with he|⟨ha,hb,k0,sW⟩
 .exact absurd he ef
 obtain⟨k,hk,aa1⟩:=YD (p:=fun k=>it p k a=b) k0 sW;have k1:1<=k:=by
  rcases Nat.eq_zero_or_pos k with rfl|h
  .exact absurd hk ef
  exact h
 have na:∀j,1<=j->j<=k->it p j a≠a:=fun j j1 j2 ej=>by
  rcases Nat.lt_or_eq_of_le j2 with c|rfl
  .have:it p (k-j) a=b:=by
    rw[<- hk,show k=(k-j)+j by omega,NS,ej];congr 1;omega
   have:=aa1 _ this;omega
  exact ef (ej.symm.trans hk)
 have nb:∀j,j<k->it p j a≠b:=fun j j1 ej=>by have:=aa1 j ej;omega
 intro e2;have inv:∀x y,gr n (tr p (a,b)) x y->(∃j,1<=j/\j<=k/\x=it p j a)=(∃j,1<=j/\j<=k/\y=it p j a):=by
  rintro x y ⟨hx,rfl⟩
  apply propext;unfold tr;simp only;constructor
  .rintro ⟨j,j1,j2,rfl⟩
   rw[aD (na j j1 j2)];by_cases c:it p j a=b
   .rw[aE c];exact⟨1,aa,k1,rfl⟩
   rw[aD c];refine⟨j+1,aa,?_,rfl⟩;rcases Nat.lt_or_eq_of_le j2 with d|rfl
   .exact d
   exact absurd hk c
  by_cases c:x=a
  .rw[aE c];rintro ⟨j,j1,j2,ej⟩
   exfalso;have:=h.inj _ _ hb (h.EO ha (j-1)) (by rw[ej,show j=(j-1)+1 by omega];rfl);by_cases d:j=1
   .subst d;exact ef this.symm
   exact nb (j-1) aa this.symm
  rw[aD c];by_cases d:x=b
  .subst d;intro _;exact⟨k,k1,cA _,hk.symm⟩
  rw[aD d];rintro ⟨j,j1,j2,ej⟩
  have:=h.inj _ _ hx (h.EO ha (j-1)) (by rw[ej,show j=(j-1)+1 by omega];rfl);by_cases f:j=1
  .subst f;exact absurd this c
  exact⟨j-1,aa,aa,this⟩
 have:=e2.inv inv;have mF:∃j,1<=j/\j<=k/\b=it p j a:=⟨k,k1,cA _,hk.symm⟩;rw[<- this] at mF;obtain⟨j,j1,j2,ej⟩:=mF;exact na j j1 j2 ej.symm
theorem K_tr{n:Nat}{p:Nat->Nat}(h:Perm n p){a b:Nat}(ha:a<n)(hb:b<n)(ef:a≠b):(K (bh (gr n (tr p (a,b)))) n+K (bh (gr n p)) n)%2=1:=by
 have one:∀x y,bh (o9 (gr n (tr p (a,b))) a b) x y↔bh (o9 (gr n p) a b) x y:=fun x y=>by have h:=PY (p:=p) (S:=fun _ _=>False) ha hb (x:=x) (y:=y);have e:∀q:Nat->Nat,(fun x y=>gr n q x y\/False)=gr n q:=fun q=>funext fun x=>funext fun y=>propext af;rw[e,e] at h;exact h
 have kj:K (bh (o9 (gr n (tr p (a,b))) a b)) n=K (bh (o9 (gr n p) a b)) n:=FL one n;rcases Classical.em (bh (gr n p) a b) with c|c
 .have k1:=PI c n;have k2:=PH ha hb (ark h ef c);omega
 have k1:=PH ha hb c;have k2:=PI (ae7 h ha hb c) n;omega
theorem af1{n:Nat}:∀(ts:List (Nat×Nat)) (p:Nat->Nat),Perm n p->(∀t∈ts,t.1<n/\t.2<n/\t.1≠t.2)->(K (bh (gr n (ts.foldl tr p))) n+K (bh (gr n p)) n+ts.length)%2=0:=by
 intro ts
 induction ts with
 |nil=>intro p _ _;simp only[Wj,eP];omega
 |cons t ts ih=>
  intro p hp ht;obtain⟨a,b⟩:=t;obtain⟨ha,hb,ef⟩:=ht (a,b) af
  replace ha:a<n:=ha
  replace hb:b<n:=hb
  replace ef:a≠b:=ef
  have e1:=ih (tr p (a,b)) (hp.tr ha hb) fun t h=>ht t (by simp[h]);have e2:(K (bh (gr n (tr p (a,b)))) n+K (bh (gr n p)) n)%2=1:=K_tr hp ha hb ef;simp only[BH,dp];omega
def jV(ls:List Let)(x:Nat):Nat:=aV ls (rv x)
def uw(k:Nat):List (Nat×Nat):=(List.range k).map fun e=>(2*e,2*e+1)
theorem art(q:Nat->Nat):∀k y,(uw k).foldl tr q y=if y<2*k then q (rv y) else q y:=by
 intro k
 induction k with
 |zero=>intro y;rw[aD aa];rfl
 |succ k ih=>
  intro y;have e:uw (k+1)=uw k++[(2*k,2*k+1)]:=by unfold uw;rw[rH,km];rfl
  rw[e,Mb,BH,Wj,O7];by_cases c1:y=2*k
  .subst c1;rw[aE rfl,ih,aD aa,aE aa,ur]
  rw[aD c1];by_cases c2:y=2*k+1
  .subst c2;rw[aE rfl,ih,aD aa,aE aa,zK]
  rw[aD c2,ih];by_cases c3:y<2*k
  .rw[aE c3,aE aa]
  rw[aD c3,aD aa]
theorem bh.push{R R':Nat->Nat->Prop}{f:Nat->Nat}(h:∀a b,R a b->bh R' (f a) (f b)){y:Nat}(e:bh R x y):bh R' (f x) (f y):=by
 induction e with
 |rel r=>exact h _ _ r
 |refl a=>exact .refl _
 |symm _ ih=>exact ih.symm
 |trans _ _ i1 i2=>exact i1.trans i2
section
variable {F:Nat} {ls:List Let}
theorem Vs(ok:dU F ls):Perm (nD ls) (jV ls):=by
 have m:=maps ok;have hN:=EY ls;have hr:∀y,y<nD ls->rv y<nD ls:=fun y hy=>by rw[hN] at hy ⊢;exact zL hy
 refine⟨fun y hy=>m.lt _ (hr y hy),fun x y hx hy e=>?_⟩;have:=m.inj _ _ (hr x hx) (hr y hy) e;rw[<- zM x,this,zM]
abbrev E2(ls:List Let):Nat:=ls.length+(aC ls).length
theorem aef{y:Nat}(hy:y<nD ls):(uw (E2 ls)).foldl tr (jV ls) y=aV ls y:=by rw[art,aE (by rw[EY] at hy;exact hy)];unfold jV;rw[zM]
theorem akd(x y:Nat):bh (gr (nD ls) ((uw (E2 ls)).foldl tr (jV ls))) x y↔bh (gr (nD ls) (aV ls)) x y:=
 ⟨bh.mono fun a b r=>by obtain⟨h,rfl⟩:=r;exact .rel ⟨h,aef h⟩,bh.mono fun a b r=>by obtain⟨h,rfl⟩:=r;exact .rel ⟨h,(aef h).symm⟩⟩
theorem ae9{k:Nat}:∀t∈uw k,t.1<2*k/\t.2<2*k/\t.1≠t.2:=by intro t ht;obtain⟨e,he,rfl⟩:=dy.1 ht;have:=fJ.1 he;refine⟨?_,?_,?_⟩<;>simp only<;>omega
theorem afY(ok:dU F ls):K (bh (gr (nD ls) (aV ls))) (nD ls)=ky ls:=by
 obtain⟨eV,aaH⟩:=Fs (aV ls) (nD ls);have hfs:∀w∈dR (aV ls) (nD ls),w≠[]:=fun w hw=>by obtain⟨⟨d,t,e,_⟩,_⟩:=IB ok w hw;rw[e];simp
 have hlen:((dR (aV ls) (nD ls)).map (·.headD 0)).length=ky ls:=by rw[cG];rfl
 refine Nat.le_antisymm ?_ ?_
 .rw[<- hlen];refine WD fun x hx=>?_;obtain⟨w,hw,CU⟩:=FC.1 (aaH x hx);obtain⟨⟨d,t,e,_⟩,_⟩:=IB ok w hw;refine⟨w.headD 0,dy.2 ⟨w,hw,rfl⟩,?_⟩;exact VX (maps ok) (R:=gr (nD ls) (aV ls)) (fun y hy=>.rel ⟨hy,rfl⟩) hw CU (by rw[e];simp)
 rw[<- hlen];refine WC (f:=BC (dR (aV ls) (nD ls))) ?_ (fun x hx=>?_) ?_
 .rintro a b ⟨ha,rfl⟩
  obtain⟨u,hu,hau⟩:=FC.1 (aaH a ha);obtain⟨i,hi⟩:=gH hu;rw[LZ eV hi hau,LZ eV hi (Dy (maps ok) hu hau)]
 .obtain⟨w,hw,rfl⟩:=dy.1 hx;obtain⟨⟨d,t,e,hd⟩,_⟩:=IB ok w hw;rw[e];simp only[List.headD_cons];have:nD ls=2*ls.length+2*(aC ls).length:=rfl;omega
 rw[aly eV hfs];exact DF
abbrev Dp(ls:List Let):Nat->Nat->Prop:=gr (nD ls) (jV ls)
theorem P9(hv:v<ls.length)(g:Bool):dw ls.length v g<nD ls:=by have h:=Ag hv (!g);rw[<- Bs] at h;have:=zL h;rw[zM] at this;have:nD ls=2*ls.length+2*(aC ls).length:=rfl;omega
theorem aec(v:Nat)(g:Bool):jV ls (dw ls.length v g)=aV ls (ir ls.length v (!g)):=by unfold jV;rw[Bs]
theorem apg(ok:dU F ls)(hv:v<ls.length):bh (Dp ls) (dw ls.length v true) (dw ls.length v false):=by
 obtain⟨l,hl⟩:=aN hv;have st:=aeX ok hv false;have:jV ls (jV ls (dw ls.length v true))=dw ls.length v false:=by rw[aec];exact st
 have p:=Vs ok;rw[<- this];exact(bh.rel ⟨P9 hv true,rfl⟩).trans (.rel ⟨p.lt _ (P9 hv true),rfl⟩)
theorem OK(ok:dU F ls)(hv:v<ls.length)(g h:Bool):bh (Dp ls) (dw ls.length v g) (dw ls.length v h):=by
 have e:=apg ok hv;cases g<;>cases h
 .exact .refl _
 .exact e.symm
 .exact e
 exact .refl _
theorem aph(ok:dU F ls){l:Let}(hl:ls[v]?=some l)(hc:l.aB=true):bh (Dp ls) (dw ls.length v true) (dw ls.length (fh ls v) true):=by
 obtain⟨h1,m,hm,mc,mi,mo,ms⟩:=pX ok.cr hl hc;have hv:=(aY.1 hl).1;have hw:=(aY.1 hm).1;have:jV ls (dw ls.length v true)=dw ls.length (fh ls v) (false==(l.over==(l.sign==1))):=by rw[aec,zR hl hc];rfl
 exact(bh.rel ⟨P9 hv true,this.symm⟩).trans (OK ok hw _ _)
theorem apf(ok:dU F ls){k:Nat}(hk:k<(aC ls).length):bh (Dp ls) (2*ls.length+2*k) (dw ls.length ((aC ls).getD k 0) true):=by
 have au:2*ls.length+2*k<nD ls:=by unfold nD;omega
 obtain⟨l,h1,h2⟩:=DQ hk;have hv:=(aY.1 h1).1;have:jV ls (2*ls.length+2*k)=dw ls.length ((aC ls).getD k 0) (dn ls ((aC ls).getD k 0)):=by unfold jV;rw[show 2*ls.length+2*k=2*(ls.length+k) by omega,ur,show 2*(ls.length+k)+1=2*ls.length+2*k+1 by omega,Ir]
 exact(bh.rel ⟨au,this.symm⟩).trans (OK ok hv _ _)
theorem ape(ok:dU F ls){k:Nat}(hk:k<(aC ls).length):bh (Dp ls) (2*ls.length+2*k+1) (dw ls.length ((aC ls).getD ((k+1)%(aC ls).length) 0) true):=by
 have au:2*ls.length+2*k+1<nD ls:=by unfold nD;omega
 obtain⟨l,h1,h2⟩:=DQ (dK (k+1) (show 0<(aC ls).length by omega));have hv:=(aY.1 h1).1;have:jV ls (2*ls.length+2*k+1)=dw ls.length ((aC ls).getD ((k+1)%(aC ls).length) 0) (!dn ls ((aC ls).getD ((k+1)%(aC ls).length) 0)):=by unfold jV;rw[show 2*ls.length+2*k+1=2*(ls.length+k)+1 by omega,zK,show 2*(ls.length+k)=2*ls.length+2*k by omega,Is]
 exact(bh.rel ⟨au,this.symm⟩).trans (OK ok hv _ _)
theorem api(ok:dU F ls)(hx:x<nD ls):∃v,v<ls.length/\bh (Dp ls) x (dw ls.length v true):=by
 by_cases c:x<2*ls.length
 .have hy:rv x<2*ls.length:=zL c;obtain⟨v,fw,hv,e⟩:∃v fw,v<ls.length/\rv x=ir ls.length v fw:=⟨_,_,by
   split
   .exact dK _ aa
   omega,Mv hy⟩
  have:x=dw ls.length v (!fw):=by rw[<- apq,<- e,zM]
  exact⟨v,hv,by rw[this];exact OK ok hv _ _⟩
 have hN:nD ls=2*ls.length+2*(aC ls).length:=rfl;have hk:(x-2*ls.length)/2<(aC ls).length:=aa;rcases xe x with h|h
 .obtain⟨l,h1,h2⟩:=DQ hk;refine⟨_,(aY.1 h1).1,?_⟩;have:=apf ok hk;rwa[show 2*ls.length+2*((x-2*ls.length)/2)=x by omega] at this
 obtain⟨l,h1,h2⟩:=DQ (dK ((x-2*ls.length)/2+1) (show 0<(aC ls).length by omega));refine⟨_,(aY.1 h1).1,?_⟩;have:=ape ok hk;rwa[show 2*ls.length+2*((x-2*ls.length)/2)+1=x by omega] at this
theorem arC(ok:dU F ls):∃L:List Nat,L.length=ay Let.aG ls+ay Let.aB ls/2/\(∀j∈L,j<ls.length)/\(L.map (jX ls)).Nodup/\ ∀v,v<ls.length->∃j∈L,jX ls j=jX ls v:=by
 have hc:=ok.cr;unfold kr at hc;simp only[cE,dk] at hc;obtain⟨L,l1,l2,l3⟩:=arB ok;refine⟨L,l1,l2,l3,fun v hv=>?_⟩
 -- all the names there are
 let A:List (Int×Int):=(aC ls).map (fun i:Nat=>((0:Int),(i:Int)))++(eB ls ls.length).map fun id=>((1:Int),id)
 have hA:A.length=ay Let.aG ls+ay Let.aB ls/2:=by simp only[A,fH,cG,I9,hc.2]
 have j7:∀v,v<ls.length->jX ls v∈A:=fun v hv=>by
  obtain⟨l,hl⟩:=aN hv;unfold jX;rw[hl];rcases ok.kinds l (aW hl) with hp|fk
  .simp only[oN hp,eH,if_false];exact FA _ (dy.2 ⟨v,qR.2 ⟨l,hl,hp⟩,rfl⟩)
  simp only[fk,if_true];refine zY _ (dy.2 ⟨l.id,?_,rfl⟩);exact(EM (cA _)).2 ⟨v,l.over,hv,by rw[GY hl fk];simp⟩
 refine Classical.byContradiction fun dm=>?_;have hn:jX ls v∉L.map (jX ls):=fun h=>by obtain⟨j,hj,e⟩:=dy.1 h;exact dm ⟨j,hj,e⟩
 have NG:∀(X Y:List (Int×Int)),X.Nodup->(∀x∈X,x∈Y)->X.length<=Y.length:=by
  intro X
  induction X with
  |nil=>intro Y _ _;exact bn _
  |cons a X ih=>intro Y hn hs;obtain⟨h1,h2⟩:=qj.1 hn;have ha:=hs a af;have:=ih (Y.erase a) h2 fun x hx=>(Wn (by rintro rfl;exact h1 hx)).2 (hs x (by simp[hx]));rw[Wl ha] at this;have:0<Y.length:=Mc ha;simp only[dp];omega
 have:=NG (jX ls v::L.map (jX ls)) A (qj.2 ⟨hn,l3⟩) fun x hx=>by
  rcases dh.1 hx with rfl|hx
  .exact j7 v hv
  obtain⟨j,hj,rfl⟩:=dy.1 hx;exact j7 j (l2 j hj)
 rw[dp,cG,l1,hA] at this;omega
theorem arE(ok:dU F ls){u:Nat}(hu:u<ls.length)(hv:v<ls.length)(e:jX ls u=jX ls v):bh (Dp ls) (dw ls.length v true) (dw ls.length u true):=by
 obtain⟨l,hl⟩:=aN hu;obtain⟨m,hm⟩:=aN hv;unfold jX at e;rw[hl,hm] at e;simp only at e;cases cl:l.aB<;>cases cm:m.aB
 .simp only[cl,cm,eH,if_false,jG,true_and] at e;have:u=v:=aa;subst this;exact .refl _
 .simp[cl,cm] at e
 .simp[cl,cm] at e
 simp only[cl,cm,if_true,jG,true_and] at e;have fk:=ok.cr;have hp:Fb ls:=by unfold kr at fk;simp only[cE,dk,ij,fJ] at fk;exact(Fu.1 fk.1.2).2
 by_cases EI:u=v
 .subst EI;exact .refl _
 obtain⟨h1,w,hw,wc,wi,wo,ws⟩:=pX ok.cr hm cm;have:fh ls v=u:=by refine Classical.byContradiction fun aM=>?_;have d1:=(hp _ _ w l hw hl wc cl (by rw[wi,e]) aM).1;have d2:=(hp _ _ l m hl hm cl cm e EI).1;rw[wo] at d1;revert d1 d2;cases l.over<;>cases m.over<;>simp
 have:=aph ok hm cm;rwa[‹fh ls v=u›] at this
theorem af0(ok:dU F ls):K (bh (Dp ls)) (nD ls)=ay Let.aG ls+ay Let.aB ls/2:=by
 obtain⟨L,l1,l2,l3,l4⟩:=arC ok;have hN:=EY ls;have hN':nD ls=2*ls.length+2*(aC ls).length:=rfl;have zh:∀y,y<nD ls->rv y<nD ls:=fun y hy=>by rw[hN] at hy ⊢;exact zL hy
 have hlen:(L.map (2* ·)).length=ay Let.aG ls+ay Let.aB ls/2:=by rw[cG,l1]
 refine Nat.le_antisymm ?_ ?_
 .rw[<- hlen];refine WD fun x hx=>?_;obtain⟨v,hv,e⟩:=api ok hx;obtain⟨j,hj,ej⟩:=l4 v hv;exact⟨2*j,dy.2 ⟨j,hj,rfl⟩,e.trans (arE ok (l2 j hj) hv ej)⟩
 rw[<- hlen];refine WC (f:=fun x=>jX ls (v8 ls (rv x))) ?_ (fun x hx=>?_) ?_
 .rintro a b ⟨ha,rfl⟩
  exact(arv ok (zh a ha)).1.symm
 .obtain⟨j,hj,rfl⟩:=dy.1 hx;have:=l2 j hj;omega
 rw[nX];have:L.map ((fun x=>jX ls (v8 ls (rv x))) ∘ (2* ·))=L.map (jX ls):=zW fun j hj=>by have:=Ko (ls:=ls) (l2 j hj) false;simp only[Function.comp_apply,ur];rw[show 2*j+1=ir ls.length j false from rfl,this]
 rw[this];exact l3
theorem ank(ok:dU F ls):K (bh (vL (nD ls) (jV ls) (uw (E2 ls)))) (nD ls)<=1:=by
 refine afZ fun x hx=>?_;obtain⟨b,hb⟩:=aj3 (p:=fun _=>false) (fun _=>rfl) ok hx;have h:=hb 0 ae;have:=h.push (R':=vL (nD ls) (jV ls) (uw (E2 ls))) (f:=fun y=>y/2) ?_
 .have hf:fx b 0<2:=Nh ae;rw[show(2*x+0)/2=x by omega,show fx b 0/2=0 by omega] at this;exact this
 intro u v r;rcases r with ⟨hu,rfl⟩|r
 .refine .rel (.inl ⟨aa,?_⟩);unfold sgC jV fx;simp only[eH,if_false];omega
 refine .rel (.inr ?_);obtain⟨e,he,hm⟩:=Md.1 r;have nC:(2*e,2*e+1)∈uw (E2 ls):=dy.2 ⟨e,he,rfl⟩;simp only[dh,lT,or_false,jG] at hm;rcases hm with ⟨rfl,rfl⟩|⟨rfl,rfl⟩
 .rw[PZ];simp only[eH,if_false];rw[show 4*e/2=2*e by omega,show(4*e+2)/2=2*e+1 by omega];exact nC
 rw[P0];simp only[eH,if_false];rw[show(4*e+1)/2=2*e by omega,show(4*e+3)/2=2*e+1 by omega];exact nC
theorem ajp(ok:dU F ls):ky ls<=ay Let.aG ls+ay Let.aB ls/2+2/\(ky ls+(ay Let.aG ls+ay Let.aB ls/2))%2=0:=by
 have hN:=EY ls;have e1:=ai2 (uw (E2 ls)) (jV ls) (Vs ok) fun t ht=>by have:=ae9 t ht;rw[hN];exact⟨this.1,this.2.1⟩
 have e2:=af1 (uw (E2 ls)) (jV ls) (Vs ok) fun t ht=>by have:=ae9 t ht;rw[hN];exact this
 have hl:(uw (E2 ls)).length=ls.length+(aC ls).length:=by simp[uw]
 rw[FL akd,afY ok,show K (bh (gr (nD ls) (jV ls))) (nD ls)=_ from af0 ok,hl] at e1 e2;have h1:=ank ok;have hPC:=Uu ok;have iT:=I9 (ls:=ls);have fk:=ok.cr;unfold kr at fk;simp only[cE,dk] at fk;have dA:=fk.1.1;omega
end
structure dL where
 l:Nat
 r:Nat
 b:Bool
structure aP where
 p:Pc
 i:dL
 o:dL
abbrev aP.k(x:aP):Let:=x.p.l
def jH:dL->List aP->dL->Prop
 |s,[],t=>s=t
 |s,x::r,t=>x.i=s/\jH x.o r t
theorem Lq{s t:dL}{a b:List aP}:jH s (a++b) t↔ ∃m,jH s a m/\jH m b t:=by
 induction a generalizing s with
 |nil=>exact⟨fun h=>⟨s,rfl,h⟩,fun⟨m,h1,h2⟩=>by cases h1;exact h2⟩
 |cons x a ih=>show(x.i=s/\jH x.o (a++b) t)↔_;rw[ih];exact⟨fun⟨h,m,h1,h2⟩=>⟨m,⟨h,h1⟩,h2⟩,fun⟨m,⟨h,h1⟩,h2⟩=>⟨h,m,h1,h2⟩⟩
theorem anH{s:dL}{a b:List aP}(h:jH s (a++b) s):∃m,jH m (b++a) m:=by obtain⟨m,h1,h2⟩:=Lq.1 h;exact⟨m,Lq.2 ⟨s,h2,h1⟩⟩
structure X4 (g:Bool) (i o j q:dL):Prop where
 a:if g then i.l=q.l else i.l=j.r
 b:if g then o.r=j.r else o.r=q.l
 c:if g then j.l=i.r else j.l=o.l
 d:if g then q.r=o.l else q.r=i.r
def gX (l:Let):Bool:=l.over==(l.sign==1)
structure Xc (x y:aP):Prop where
 ov:x.k.over= !y.k.over
 sg:x.k.sign=y.k.sign
 x4:X4 (gX x.k) x.i x.o y.i y.o
theorem Xc.symm{x y:aP}(h:Xc x y):Xc y x:=by
 obtain⟨h1,h2,a,b,c,d⟩:=h;have e:gX y.k= !gX x.k:=by unfold gX;rw[h1,h2];cases y.k.over<;>cases (y.k.sign==1)<;>rfl
 refine⟨by rw[h1];simp,h2.symm,?_⟩;rw[e];cases hg:gX x.k
 .rw[hg] at a b c d;simp only[eH,if_false] at a b c d;constructor<;>simp only[L5,if_true]
  .exact c
  .exact d
  .exact a
  exact b
 rw[hg] at a b c d;simp only[if_true] at a b c d;constructor<;>simp only[zV,eH,if_false]
 .exact c
 .exact d
 .exact a
 exact b
def gI(s:dL):dL:=⟨s.r,s.l,s.b⟩
def aP.up(x:aP):dL:=if x.p.d then x.i else gI x.o
def aP.lo(x:aP):dL:=if x.p.d then x.o else gI x.i
structure yn (F:Nat) (x:aP):Prop where
 bad:dr F x.k=false
 cb:x.k.aB=true->x.i.b=x.o.b
 pb:x.k.aG=true->x.o.b=x.p.d/\x.i.b= !x.p.d
def Xr (x y:aP):Prop:=x.k.aB=true->y.k.aB=true->x.k.id=y.k.id->Xc x y
theorem Xr.symm{x y:aP}(h:Xr x y):Xr y x:=fun a b c=>(h b a c.symm).symm
def Dr (x y:aP):Prop:=x.k.aG=true->y.k.aG=true->x.k.gate=y.k.gate->x.k.aw≠y.k.aw
theorem Dr.symm{x y:aP}(h:Dr x y):Dr y x:=fun a b c d=>h b a c.symm d.symm
structure Ff (T B:Nat->Nat->Nat) (x:aP):Prop where
 wt:x.up.r=T x.k.gate.toNat (x.k.aw.toNat-1)
 et:x.up.l=T x.k.gate.toNat x.k.aw.toNat
 wb:x.lo.r=B x.k.gate.toNat (x.k.aw.toNat-1)
 eb:x.lo.l=B x.k.gate.toNat x.k.aw.toNat
abbrev aR(z:List aP):List Let:=z.map aP.k
structure Cz (F:Nat) (z:List aP) (T B:Nat->Nat->Nat) (S:List Nat):Prop where
 path:∃s,jH s z s
 ok:∀x∈z,yn F x
 cr:z.Pairwise Xr
 ev:ay Let.aB (aR z)%2=0
 ids:∀x∈z,x.k.aB=true->1<=x.k.id/\x.k.id<=((ay Let.aB (aR z)/2:Nat):Int)
 rk:z.Pairwise Dr
 rr:∀x∈z,x.k.aG=true->1<=x.k.aw/\x.k.aw<=(cg (aR z) x.k.gate.toNat:Int)
 pl:∀x∈z,x.k.aG=true->Ff T B x
 gt:∀g,g<F->T g (cg (aR z) g)=T (g+1) 0/\B g (cg (aR z) g)=B (g+1) 0
 gz:T F (cg (aR z) F)=T 0 0/\B F (cg (aR z) F)=B 0 0
 one:∃x∈z,x.k.aG=true
 nd:S.Nodup
 wit:∀s∈S,∃x∈z,s=x.o.l\/s=x.o.r
 num:ay Let.aG (aR z)+ay Let.aB (aR z)/2+1<=S.length
def Cert(F:Nat)(l:List Pc):Prop:= ∃z T B S,z.map aP.p=l/\Cz F z T B S
theorem Ar{p:Let->Bool}{z z':List aP}(h:z.Perm z'):ay p (aR z)=ay p (aR z'):=(h.map aP.k).countP_eq p
theorem Cz.perm{z z':List aP}{T B:Nat->Nat->Nat}{S:List Nat}(c:Cz F z T B S)(h:z.Perm z')(hp:∃s,jH s z' s):Cz F z' T B S:=by
 have hm:∀ {x},x∈z'↔x∈z:=fun {x}=>h.symm.mem_iff;have e:∀p,ay p (aR z')=ay p (aR z):=fun p=>(Ar h).symm;have eg:∀g,cg (aR z') g=cg (aR z) g:=fun g=>e _;refine⟨hp,fun x hx=>c.ok x (hm.1 hx),(h.pairwise_iff fun {x y}=>Xr.symm).1 c.cr,by rw[e];exact c.ev,fun x hx=>by rw[e];exact c.ids x (hm.1 hx),(h.pairwise_iff fun {x y}=>Dr.symm).1 c.rk,
  fun x hx=>by rw[eg];exact c.rr x (hm.1 hx),fun x hx=>c.pl x (hm.1 hx),fun g hg=>by rw[eg];exact c.gt g hg,by rw[eg];exact c.gz,?_,c.nd,fun s hs=>?_,by rw[e,e];exact c.num⟩
 .obtain⟨x,hx,h1⟩:=c.one;exact⟨x,hm.2 hx,h1⟩
 obtain⟨x,hx,h1⟩:=c.wit s hs;exact⟨x,hm.2 hx,h1⟩
theorem Cz.jV{a b:List aP}{T B:Nat->Nat->Nat}{S:List Nat}(c:Cz F (a++b) T B S):Cz F (b++a) T B S:=by obtain⟨s,h⟩:=c.path;exact c.perm (List.perm_append_comm) (anH h)
theorem Cert.jV{a b:List Pc}(c:Cert F (a++b)):Cert F (b++a):=by obtain⟨z,T,B,S,h,c⟩:=c;obtain⟨x,y,rfl,rfl,rfl⟩:=List.map_eq_append_iff.1 h;exact⟨y++x,T,B,S,by rw[km],c.jV⟩
theorem anF:∀ {z:List aP} {s t:dL},(∀x∈z,yn F x)->jH s z t->s.b=false->t.b=true->∃x∈z,x.k.aG=true/\x.p.d=true:=by
 intro z
 induction z with
 |nil=>intro s t _ h h1 h2;cases h;rw[h1] at h2;cases h2
 |cons x z ih=>
  intro s t ok h h1 h2;obtain⟨rfl,h⟩:=h;have ox:=ok x af;by_cases hd:x.k.aG=true/\x.p.d=true
  .exact⟨x,af,hd⟩
  have hb:x.o.b=false:=by
   rcases Am ox.bad with hp|hc
   .rw[(ox.pb hp).1];cases xQ:x.p.d
    .rfl
    exact absurd ⟨hp,xQ⟩ hd
   rw[<- ox.cb hc];exact h1
  obtain⟨y,hy,e⟩:=ih (fun x hx=>ok x (by simp[hx])) h hb h2;exact⟨y,by simp[hy],e⟩
theorem Cz.down{z:List aP}{T B:Nat->Nat->Nat}{S:List Nat}(c:Cz F z T B S):∃x∈z,x.k.aG=true/\x.p.d=true:=by
 obtain⟨x,hx,hp⟩:=c.one;cases hd:x.p.d
 .obtain⟨a,b,rfl⟩:=List.append_of_mem hx;have c2:=c.jV;obtain⟨s,h⟩:=c2.path;obtain⟨rfl,h⟩:=h;obtain⟨e1,e2⟩:=(c.ok x af).pb hp;rw[hd] at e1 e2;obtain⟨y,hy,e⟩:=anF (fun y hy=>c.ok y (by
   rcases fi.1 hy with hy|hy
   .simp[hy]
   simp[hy])) h e1 e2
  refine⟨y,?_,e⟩;rcases fi.1 hy with hy|hy
  .simp[hy]
  simp[hy]
 exact⟨x,hx,hp,hd⟩
theorem Vr{l:List Pc}{f:Nat}(hf:f<=l.length):qc l f l.length=(l.drop f++l.take f).map Pc.l:=by
 apply BE;intro i;by_cases hi:i<l.length
 .have h1:(qc l f l.length)[i]?=some (l.getD ((f+i)%l.length) ⟨iM,false⟩).l:=by
   simp[qc,hi]
  rw[h1,gh];by_cases h2:f+i<l.length
  .rw[uz (by simp;omega),wZ,gV h2];simp[h2]
  rw[vz (by simp;omega),tx];have h3:(f+i)%l.length=i-(l.length-f):=by rw[afX aa,gV aa];omega
  have h4:i-(l.length-f)<l.length:=aa;rw[h3,jY,aE aa];simp[h4]
 have h1:(qc l f l.length).length=l.length:=by simp[qc]
 rw[nV (by rw[h1];omega),nV (by simp;omega)]
theorem Cert.fin{l:List Pc}(c:Cert F l):∃z T B S x r,z=x::r/\x.k.aG=true/\x.p.d=true/\aR z=kK l/\z.length=l.length/\Cz F z T B S:=by
 obtain⟨z,T,B,S,h,c⟩:=c;subst h;obtain⟨x,hx,hp,hd⟩:=c.down;have hP:∀y:aP,y.k.aG=(y.p.l.kind==1):=fun y=>rfl;obtain⟨j,hj⟩:=gH hx;have mI:=(aY.1 hj).1;have A9:(z.map aP.p)[j]?=some x.p:=by rw[gh,hj];rfl
 obtain⟨f,hf⟩:∃f,qw (z.map aP.p)=some f:=by
  cases h:qw (z.map aP.p) with
  |some f=>exact⟨f,rfl⟩
  |none=>have:=IM.1 h j (by simpa using mI);rw[U2 A9] at this;unfold Dj at this;rw[hP] at hp;simp[hp,hd] at this
 have h1:=Px hf;have h2:f<z.length:=by
  have:=IT hf
  simpa using this
 obtain⟨y,hy⟩:=aY.2 ⟨h2,rfl⟩ |> fun h=>(⟨_,h⟩:∃y,z[f]?=some y)
 have hyp:(z.map aP.p)[f]?=some y.p:=by rw[gh,hy];rfl
 rw[U2 hyp] at h1;unfold Dj at h1;rw[cE] at h1;have hz:z=z.take f++y::z.drop (f+1):=by obtain⟨hl,e⟩:=aY.1 hy;rw[<- e,w7,tz]
 have A2:z.drop f=y::z.drop (f+1):=by obtain⟨hl,e⟩:=aY.1 hy;rw[<- e,w7]
 refine⟨y::z.drop (f+1)++z.take f,T,B,S,y,z.drop (f+1)++z.take f,rfl,h1.1,h1.2,?_,?_,?_⟩
 .unfold kK;rw[hf,kE,Vr (by rw[cG];omega),<- A2];simp only[km,Py,Pz,nX];rfl
 .rw[<- A2,fH,tx,iF,cG];omega
 rw[hz] at c;exact c.jV
theorem aih{ls:List Let}(he:ay Let.aB ls%2=0)(hi:Ua ls)(hp:Fb ls):kr ls=true:=by
 rw[QF he (Fu.2 ⟨hi,hp⟩)];have KU:=VI ls;have hle:∀id∈eB ls ls.length,ay (ke id) ls<=2:=fun id _=>by rw[NR id];have:=yW hp id true;have:=yW hp id false;omega
 have h1:=aeY (f:=fun id=>ay (ke id) ls) _ hle;have h2:(eB ls ls.length).length<=ay Let.aB ls/2:=by
  have hr:∀id∈eB ls ls.length,1<=id/\id<=((ay Let.aB ls/2:Nat):Int):=fun id hid=>by obtain⟨j,o,hj,hh⟩:=(EM (cA _)).1 hid;obtain⟨m,hm,mc,mi,_⟩:=yX hh;rw[<- mi];exact hi m (aW hm) mc
  have:=LQ ((eB ls ls.length).map Int.toNat) (List.range' 1 (ay Let.aB ls/2)) ?_ ?_
  .rwa[cG,List.length_range'] at this
  .refine BN.2 (List.Pairwise.imp_of_mem (fun {a b} ha hb h e=>h ?_) (NK ls ls.length));have:=hr a ha;have:=hr b hb;omega
  intro x hx;obtain⟨id,hid,rfl⟩:=dy.1 hx;have:=hr id hid;rw[List.mem_range'_1];omega
 simp only[dk];omega
theorem Ou{s t:dL}{z:List aP}{x:aP}(h:jH s z t)(hx:z[0]?=some x):x.i=s:=by
 cases z with
 |nil=>cases hx
 |cons y z=>cases hx;exact h.1
theorem adH:∀ {z:List aP} {s t:dL} {i:Nat} {x y:aP},jH s z t->z[i]?=some x->z[i+1]?=some y->x.o=y.i:=by
 intro z
 induction z with
 |nil=>intro s t i x y _ hx;cases hx
 |cons a z ih=>
  intro s t i x y h hx hy;cases i with
  |zero=>cases hx;exact(Ou h.2 hy).symm
  |succ i=>exact ih h.2 hx hy
theorem adF:∀ {z:List aP} {s t:dL} {x:aP},jH s z t->z[z.length-1]?=some x->x.o=t:=by
 intro z
 induction z with
 |nil=>intro s t x _ hx;cases hx
 |cons a z ih=>
  intro s t x h hx;cases z with
  |nil=>cases hx;exact h.2
  |cons b z=>exact ih h.2 hx
theorem adD{z:List aP}{s:dL}{j:Nat}{x y:aP}(h:jH s z s)(hx:z[j]?=some x)(hy:z[(j+1)%z.length]?=some y):x.o=y.i:=by
 have hj:=(aY.1 hx).1;by_cases c:j+1<z.length
 .rw[gV c] at hy;exact adH h hx hy
 have:j+1=z.length:=aa;rw[this,Aa] at hy;rw[adF h (by rw[<- this];exact hx),Ou h hy]
theorem zy{z:List aP}{i:Nat}{x:aP}(h:z[i]?=some x):(aR z)[i]?=some x.k:=by rw[gh,h];rfl
theorem Db{z:List aP}{i:Nat}{l:Let}(h:(aR z)[i]?=some l):∃x,z[i]?=some x/\x.k=l:=by rw[gh,dq] at h;exact h
theorem adE{z:List aP}{s t:dL}(ok:∀x∈z,yn F x)(h:jH s z t)(hs:s.b=false):∀i x,z[i]?=some x->x.i.b= !dn (aR z) i/\x.o.b= !dn (aR z) (i+1):=by
 have step:∀i x,z[i]?=some x->x.i.b=(!dn (aR z) i)->x.o.b= !dn (aR z) (i+1):=fun i x hx hb=>by
  have ox:=ok x (aW hx);rcases Am ox.bad with hp|hc
  .rw[Js (zy hx) hp,L6,(ox.pb hp).1];have:=(ox.pb hp).2;rw[hb] at this;revert this;cases dn (aR z) i<;>cases x.p.d<;>simp
  rw[Jt (zy hx) (by
   cases hp:x.k.aG
   .rfl
   rw[oN hp] at hc;cases hc),<- hb,ox.cb hc]
 intro i
 induction i with
 |zero=>
  intro x hx;have:x.i.b= !dn (aR z) 0:=by rw[Ou h hx,hs];rfl
  exact⟨this,step 0 x hx this⟩
 |succ i ih=>intro y hy;obtain⟨x,hx⟩:=aN (ls:=z) (k:=i) (by have:=(aY.1 hy).1;omega);have e:=(ih x hx).2;rw[adH h hx hy] at e;exact⟨e,step (i+1) y hy e⟩
theorem adL{ls:List Let}{f:Nat->Nat->Nat}(hf:∀g,g<F->f g (cg ls g)=f (g+1) 0):∀(d g k g' k':Nat),g'=g+d->g'<=F->k<=cg ls g->k'<=cg ls g'->fj ls g+k=fj ls g'+k'->f g k=f g' k':=by
 intro d
 induction d with
 |zero=>intro g k g' k' e _ _ _ h;rw[vD] at e;subst e;rw[show k=k' by omega]
 |succ d ih=>intro g k g' k' e hF hk GZ h;have hm:=yO (ls:=ls) (show g+1<=g' by omega);have hs:=rT ls g;have:k=cg ls g:=aa;subst this;rw[hf g aa];exact ih (g+1) 0 g' k' aa hF (bn _) GZ aa
theorem Vb{ls:List Let}{f:Nat->Nat->Nat}(hf:∀g,g<F->f g (cg ls g)=f (g+1) 0){g k g' k':Nat}(hg:g<=F)(A5:g'<=F)(hk:k<=cg ls g)(GZ:k'<=cg ls g')(h:fj ls g+k=fj ls g'+k'):f g k=f g' k':=by
 rcases Nat.le_total g g' with c|c
 .exact adL hf (g'-g) g k g' k' aa A5 hk GZ h
 exact(adL hf (g-g') g' k' g k aa hg GZ hk h.symm).symm
def Li:aP:=⟨⟨iM,false⟩,⟨0,0,false⟩,⟨0,0,false⟩⟩
def mR(z:List aP)(x:Nat):Nat:=
 if x<2*z.length then (if x%2=0 then (z.getD (x/2) Li).o.l else (z.getD (x/2) Li).o.r)
 else if x%2=0 then (z.getD ((aC (aR z)).getD ((x-2*z.length)/2) 0) Li).up.l else (z.getD ((aC (aR z)).getD ((x-2*z.length)/2) 0) Li).lo.l
theorem Ci{z:List aP}{i:Nat}{x:aP}(h:z[i]?=some x):z.getD i Li=x:=by rw[cU,h];rfl
section
variable {F:Nat} {z:List aP} {s:dL}
theorem Ur(h:jH s z s){x:aP}(hx:z[v]?=some x)(g:Bool):mR z (dw z.length v g)=if g then x.o.l else x.i.r:=by
 have hv:=(aY.1 hx).1;cases g with
 |true=>show mR z (2*v)=_;unfold mR;rw[aE aa,aE aa,show 2*v/2=v by omega,Ci hx];rfl
 |false=>show mR z (2*((v+z.length-1)%z.length)+1)=_;have hm:=dK (v+z.length-1) (show 0<z.length by omega);obtain⟨y,hy⟩:=aN (ls:=z) hm;have e:=adD h hy (by rw[vn hv];exact hx);unfold mR;rw[aE aa,aD aa,show(2*((v+z.length-1)%z.length)+1)/2=(v+z.length-1)%z.length by omega,Ci hy,e];rfl
theorem amn(h:jH s z s){x:aP}(hx:z[v]?=some x)(g:Bool):mR z (ir z.length v g)=if g then x.i.l else x.o.r:=by
 have hv:=(aY.1 hx).1;cases g with
 |false=>show mR z (2*v+1)=_;unfold mR;rw[aE aa,aD aa,show(2*v+1)/2=v by omega,Ci hx];rfl
 |true=>show mR z (2*((v+z.length-1)%z.length))=_;have hm:=dK (v+z.length-1) (show 0<z.length by omega);obtain⟨y,hy⟩:=aN (ls:=z) hm;have e:=adD h hy (by rw[vn hv];exact hx);unfold mR;rw[aE aa,aE aa,show(2*((v+z.length-1)%z.length))/2=(v+z.length-1)%z.length by omega,Ci hy,e];rfl
theorem acp{k:Nat}{x:aP}(ha:(aC (aR z)).getD k 0=v)(hx:z[v]?=some x):mR z (2*z.length+2*k)=x.up.l:=by unfold mR;rw[aD aa,aE aa,show(2*z.length+2*k-2*z.length)/2=k by omega,ha,Ci hx]
theorem aco{k:Nat}{x:aP}(ha:(aC (aR z)).getD k 0=v)(hx:z[v]?=some x):mR z (2*z.length+2*k+1)=x.lo.l:=by unfold mR;rw[aD aa,aD aa,show(2*z.length+2*k+1-2*z.length)/2=k by omega,ha,Ci hx]
theorem Cz.On{T B:Nat->Nat->Nat}{S:List Nat}(c:Cz F z T B S){i j:Nat}{x y:aP}(hx:z[i]?=some x)(hy:z[j]?=some y)(eT:i≠j):Xr x y/\Dr x y:=by
 obtain⟨hi,ex⟩:=aY.1 hx;obtain⟨hj,ey⟩:=aY.1 hy;subst ex ey;rcases afW eT with h|h
 .exact⟨IU.1 c.cr i j hi hj h,IU.1 c.rk i j hi hj h⟩
 exact⟨(IU.1 c.cr j i hj hi h).symm,(IU.1 c.rk j i hj hi h).symm⟩
theorem Cz.eJ{T B:Nat->Nat->Nat}{S:List Nat}(c:Cz F z T B S){x:aP}(hx:x∈z)(hp:x.k.aG=true):rW F (aR z) x.k:=by obtain⟨⟨⟨⟨g0,g1⟩,_⟩,_⟩,_⟩:=(sB hp).1 (c.ok x hx).bad;obtain⟨r0,r1⟩:=c.rr x hx hp;exact⟨g0,g1,r0,r1⟩
theorem Cz.dg{T B:Nat->Nat->Nat}{S:List Nat}(c:Cz F z T B S)(hl:z.length<=1000000):dU F (aR z):=by
 refine⟨by rw[cG];exact hl,⟨fun l hl hp=>?_,fun i j l m hi hj pl pm e=>?_⟩,aih c.ev (fun l hl hc=>?_) (fun i j l m hi hj cl cm e eT=>?_),fun l hl=>?_⟩
 .obtain⟨x,hx,rfl⟩:=dy.1 hl;exact c.eJ hx hp
 .obtain⟨x,hx,rfl⟩:=Db hi;obtain⟨y,hy,rfl⟩:=Db hj;refine Decidable.byContradiction fun eT=>?_;obtain⟨h1,h2⟩:=(Dl (c.eJ (aW hx) pl) (c.eJ (aW hy) pm)).1 e;exact(c.On hx hy eT).2 pl pm h1 h2
 .obtain⟨x,hx,rfl⟩:=dy.1 hl;exact c.ids x hx hc
 .obtain⟨x,hx,rfl⟩:=Db hi;obtain⟨y,hy,rfl⟩:=Db hj;have:=(c.On hx hy eT).1 cl cm e;refine⟨?_,this.sg⟩;rw[this.ov];cases y.k.over<;>simp
 obtain⟨x,hx,rfl⟩:=dy.1 hl;exact Am (c.ok x hx).bad
theorem Cz.pJ{T B:Nat->Nat->Nat}{S:List Nat}(c:Cz F z T B S):pJ F (aR z):=fun l hl hp=>by obtain⟨x,hx,rfl⟩:=dy.1 hl;exact((sB hp).1 (c.ok x hx).bad).1.1.1
theorem Cz.Mw{T B:Nat->Nat->Nat}{S:List Nat}(c:Cz F z T B S)(hl:z.length<=1000000){k u:Nat}{x y:aP}(hu:(aC (aR z))[k]?=some u)(hv:(aC (aR z))[(k+1)%(aC (aR z)).length]?=some v)(hx:z[u]?=some x)(hy:z[v]?=some y):x.up.l=y.up.r/\x.lo.l=y.lo.r:=by
 have ok:=c.dg hl;have hk:=(aY.1 hu).1;obtain⟨l,l1,l2,l3⟩:=Aj ok.ax hu;obtain⟨m,m1,m2,m3⟩:=Aj ok.ax hv;rw[zy hx] at l1;cases l1;rw[zy hy] at m1;cases m1;have gx:=c.eJ (aW hx) l2;have gy:=c.eJ (aW hy) m2;have px:=c.pl x (aW hx) l2;have py:=c.pl y (aW hy) m2;obtain⟨x1,x2,x3,x4⟩:=gx;obtain⟨y1,y2,y3,y4⟩:=gy;have key:∀f:Nat->Nat->Nat,(∀g,g<F->f g (cg (aR z) g)=f (g+1) 0)->f F (cg (aR z) F)=f 0 0->f x.k.gate.toNat x.k.aw.toNat=f y.k.gate.toNat (y.k.aw.toNat-1):=by
  intro f hf hz;unfold dE at l3 m3;by_cases c1:k+1<(aC (aR z)).length
  .rw[gV c1] at m3;exact Vb hf aa aa aa aa aa
  have hT:=DJ c.pJ;have hs:=rT (aR z) F;have:k+1=(aC (aR z)).length:=aa;rw[this,Aa] at m3;rw[Vb hf (g:=x.k.gate.toNat) (k:=x.k.aw.toNat) (g':=F) (k':=cg (aR z) F) aa (cA _) aa (cA _) aa,hz];exact Vb hf (bn _) aa (bn _) aa (by show 0+0=_;omega)
 exact⟨by rw[px.et,py.wt];exact key T (fun g hg=>(c.gt g hg).1) c.gz.1,by rw[px.eb,py.wb];exact key B (fun g hg=>(c.gt g hg).2) c.gz.2⟩
theorem Cz.walk{T B:Nat->Nat->Nat}{S:List Nat}(c:Cz F z T B S)(hl:z.length<=1000000)(h:jH s z s)(hs:s.b=false)(hx:x<nD (aR z)):mR z (aV (aR z) x)=mR z x:=by
 have ok:=c.dg hl;have hn:(aR z).length=z.length:=cG ..;have hN:nD (aR z)=2*z.length+2*(aC (aR z)).length:=by unfold nD;rw[hn]
 have dV:=adE c.ok h hs;by_cases c1:x<2*z.length
 .obtain⟨v,fw,hv,rfl⟩:∃v fw,v<z.length/\x=ir z.length v fw:=⟨_,_,by
   split
   .exact dK _ aa
   omega,Mv c1⟩
  obtain⟨e,he⟩:=aN (ls:=z) hv;have hle:=zy he;have oe:=c.ok e (aW he);rw[amn h he];rcases Am oe.bad with hp|hc
  .have hd:dn (aR z) v=e.p.d:=by
    have:=(dV v e he).1;rw[(oe.pb hp).2] at this;revert this;cases e.p.d<;>cases dn (aR z) v<;>simp
   obtain⟨a1,a2⟩:=I7 ok hle hp;have t:=LV hle hp fw;rw[hn] at t;rw[t,hd];by_cases c2:(e.p.d==fw)=true
   .rw[aE c2,acp a2 he];unfold aP.up;have:=eq_of_beq c2;subst this;cases e.p.d<;>rfl
   rw[aD c2];have hm:=dK ((aC (aR z)).idxOf v+(aC (aR z)).length-1) (show 0<(aC (aR z)).length by omega);obtain⟨u,hu⟩:=aN hm;obtain⟨l,u1,u2⟩:=qR.1 (aW hu);obtain⟨y,hy,rfl⟩:=Db u1;have hv':(aC (aR z))[(aC (aR z)).idxOf v]?=some v:=by obtain⟨q,hq⟩:=aN a1;rw[cU,hq] at a2;rw[hq];exact congrArg some a2
   have:=(c.Mw hl hu (by rw[vn a1];exact hv') hy he).2;rw[aco (by rw[cU,hu];rfl) hy,this];unfold aP.lo;revert c2;cases e.p.d<;>cases fw<;>simp[gI]
  obtain⟨b1,m,hm,mc,mi,mo,ms⟩:=pX ok.cr hle hc;obtain⟨y,hy,rfl⟩:=Db hm;have aM:v≠fh (aR z) v:=by intro ee;rw[<- ee,hle] at hm;have:=oZ hm;rw[<- this] at mo;revert mo;cases e.k.over<;>simp
  obtain⟨_,_,xa,xb,xc,xd⟩:=(c.On he hy aM).1 hc mc mi.symm;have t:=zR hle hc fw;rw[hn] at t;rw[t,Ur h hy];unfold gX at xa xb;cases hg:(e.k.over==(e.k.sign==1))<;>rw[hg] at xa xb<;>simp only[eH,if_false,if_true] at xa xb<;>cases fw<;>simp_all
 have hk:(x-2*z.length)/2<(aC (aR z)).length:=aa;obtain⟨u,hu⟩:=aN hk;obtain⟨l,u1,u2⟩:=qR.1 (aW hu);obtain⟨e,he,rfl⟩:=Db u1;have hgu:(aC (aR z)).getD ((x-2*z.length)/2) 0=u:=by rw[cU,hu];rfl
 rcases xe x with tc|tc
 .have ex:x=2*z.length+2*((x-2*z.length)/2):=aa;have hm:=dK ((x-2*z.length)/2+1) (show 0<(aC (aR z)).length by omega);obtain⟨w,hw⟩:=aN hm;obtain⟨l,w1,w2⟩:=qR.1 (aW hw);obtain⟨y,hy,rfl⟩:=Db w1;have hgw:(aC (aR z)).getD (((x-2*z.length)/2+1)%(aC (aR z)).length) 0=w:=by rw[cU,hw];rfl
  have oy:=c.ok y (aW hy);have hd:dn (aR z) w=y.p.d:=by have:=(dV w y hy).1;rw[(oy.pb w2).2] at this;revert this;cases y.p.d<;>cases dn (aR z) w<;>simp
  have t:=Is (ls:=aR z) ((x-2*z.length)/2);rw[hn,<- ex] at t;rw[t,hgw,Ur h hy,hd];have a:=(c.Mw hl hu hw he hy).1;have r:=acp hgu he;rw[<- ex] at r;rw[r,a];unfold aP.up;cases y.p.d<;>simp[gI]
 have ex:x=2*z.length+2*((x-2*z.length)/2)+1:=aa;have oy:=c.ok e (aW he);have hd:dn (aR z) u=e.p.d:=by have:=(dV u e he).1;rw[(oy.pb u2).2] at this;revert this;cases e.p.d<;>cases dn (aR z) u<;>simp
 have t:=Ir (ls:=aR z) ((x-2*z.length)/2);rw[hn,<- ex] at t;rw[t,hgu,Ur h he,hd];have r:=aco hgu he;rw[<- ex] at r;rw[r];unfold aP.lo;cases e.p.d<;>simp[gI]
theorem Cz.check{T B:Nat->Nat->Nat}{S:List Nat}(c:Cz F z T B S){x:aP}{r:List aP}(hz:z=x::r)(hp:x.k.aG=true)(hd:x.p.d=true)(hl:z.length<=400)(fk:ay Let.aB (aR z)<=200)(hF:F<=40):dT F (aR z)=0:=by
 have ok:=c.dg aa;have hn:(aR z).length=z.length:=cG ..;obtain⟨s,h⟩:=c.path;have ml:z[0]?=some x:=by rw[hz];rfl
 have hs:s.b=false:=by rw[<- Ou h ml,((c.ok x (aW ml)).pb hp).2,hd];rfl
 have iI:0<z.length:=by rw[hz];simp
 have dV:=adE c.ok h hs;have dA:ay Let.aG (aR z)%2=0:=by
  obtain⟨y,hy⟩:=aN (ls:=z) (k:=z.length-1) aa;have:=(dV _ y hy).2;rw[adF h hy,hs,show z.length-1+1=(aR z).length by rw[hn];omega] at this;unfold dn at this;rw[jf] at this
  simpa using this
 have KJ:ky (aR z)=ay Let.aG (aR z)+ay Let.aB (aR z)/2+2:=by
  obtain⟨b1,b2⟩:=ajp ok;have key:∀a∈S,∃d,mR z d=a/\d<2*z.length:=fun a ha=>by
   obtain⟨y,hy,e⟩:=c.wit a ha;obtain⟨j,hj⟩:=gH hy;have mI:=(aY.1 hj).1;rcases e with e|e
   .exact⟨2*j,by unfold mR;rw[aE aa,aE aa,show 2*j/2=j by omega,Ci hj,e],aa⟩
   exact⟨2*j+1,by unfold mR;rw[aE aa,aD aa,show(2*j+1)/2=j by omega,Ci hj,e],aa⟩
  obtain⟨M,m1,m2⟩:=acz (P:=fun a d=>mR z d=a/\d<2*z.length) (f:=mR z) (fun a d h=>h.1) key;have hN:nD (aR z)=2*z.length+2*(aC (aR z)).length:=by unfold nD;rw[hn]
  have:=arQ (maps ok) (φ:=mR z) (fun y hy=>c.walk aa h hs hy) (reps:=M) (fun d hd=>by obtain⟨_,_,h⟩:=m2 d hd;omega) (by rw[m1];exact c.nd)
  have hM:M.length=S.length:=by rw[<- m1,cG]
  have hnum:=c.num;have:M.length<=ky (aR z):=this;omega
 have aM:aR z≠[]:=by intro e;rw[e] at hn;simp at hn;omega
 unfold dT;rw[aD (by rw[hn];omega),aD aa,aD aM,aE];unfold ki;have jj:=(Lw c.pJ).2 ⟨ok.ax.eJ,ok.ax.inj⟩;have Ts:(aR z).any (dr F)=false:=Fz.2 fun l hl=>by obtain⟨y,hy,rfl⟩:=dy.1 hl;rw[(c.ok y hy).bad];decide
 rw[zy ml,Ux.2 ⟨Ts,jj,ok.cr⟩,KJ,dA];have hk:(x.k.kind==1)=true:=hp;simp only[hk,Mj,Fy]
theorem Cert.check{l:List Pc}(c:Cert F l)(hl:l.length<=400)(fk:ay Let.aB (l.map Pc.l)<=200)(hF:F<=40):dT F (kK l)=0:=by
 obtain⟨w,T,B,S,x,r,hz,hp,hd,y8,hlen,cz⟩:=c.fin;have mj:ay Let.aB (aR w)=ay Let.aB (l.map Pc.l):=by
  rw[y8];have hf:(qw l).getD 0<=l.length:=by
   cases h:qw l with
   |none=>exact bn _
   |some f=>have:=IT h;simp at this;simp only[kE];omega
  unfold kK;rw[Vr hf];show List.countP _ _=List.countP _ _;rw[km,vv,PC,<- vv,<- km,tz]
 rw[<- y8];exact cz.check hz hp hd aa aa hF
end
def vp(ls:List Let)(x:Nat):Nat:=BC (dR (aV ls) (nD ls)) x
def oR(ls:List Let)(i:Nat):dL:=⟨vp ls (2*i),vp ls (2*i+1),!dn ls (i+1)⟩
def dz(ls:List Let)(i:Nat):aP:=⟨⟨ls.getD i iM,gY ls i⟩,oR ls ((i+ls.length-1)%ls.length),oR ls i⟩
def zF (ls:List Let):List aP:=(List.range ls.length).map (dz ls)
def TF (ls:List Let)(g k:Nat):Nat:=vp ls (2*ls.length+2*((fj ls g+k+(aC ls).length-1)%(aC ls).length))
def BF (ls:List Let)(g k:Nat):Nat:=vp ls (2*ls.length+2*((fj ls g+k+(aC ls).length-1)%(aC ls).length)+1)
theorem Fw(ls:List Let):(zF ls).map aP.p=pieces ls:=by unfold zF pieces;rw[nX];rfl
theorem lS(ls:List Let):aR (zF ls)=ls:=by
 have h:aR (zF ls)=(pieces ls).map Pc.l:=by rw[<- Fw,nX];rfl
 rw[h];apply BE;intro i;rw[gh];by_cases hi:i<ls.length
 .obtain⟨l,hl⟩:=aN hi;rw[kS hl,hl];rfl
 rw[nV (by rw[fG];omega),nV aa];rfl
theorem We(ls:List Let):(zF ls).length=ls.length:=by simp[zF]
theorem II{ls:List Let}{i:Nat}(h:i<ls.length):(zF ls)[i]?=some (dz ls i):=by simp[zF,h]
theorem dG{ls:List Let}{i:Nat}{l:Let}(h:ls[i]?=some l):(dz ls i).k=l:=by show ls.getD i iM=l;rw[cU,h];rfl
theorem adG(f:Nat->aP)(e:Nat->dL):∀k a,(∀i,a<=i->i<a+k->(f i).i=e i/\(f i).o=e (i+1))->jH (e a) ((List.range' a k).map f) (e (a+k)):=by
 intro k
 induction k with
 |zero=>intro a _;rfl
 |succ k ih=>intro a h;rw[List.range'_succ,eE];obtain⟨h1,h2⟩:=h a (cA _) aa;refine⟨h1,?_⟩;rw[h2,show a+(k+1)=a+1+k by omega];exact ih (a+1) fun i hi hk=>h i aa aa
theorem Om{R:aP->aP->Prop}{f:Nat->aP}{n:Nat}(h:∀i j,i<n->j<n->i≠j->R (f i) (f j)):((List.range n).map f).Pairwise R:=BN.2 (List.Pairwise.imp_of_mem (fun {a b} ha hb ef=>h a b (fJ.1 ha) (fJ.1 hb) ef) (DF (n:=n)))
section
variable {F:Nat} {ls:List Let}
theorem U4(g:bK F ls){i:Nat}{w:List Nat}(hi:(dR (aV ls) (nD ls))[i]?=some w)(hx:x∈w):vp ls x=i:=LZ (Fs _ _).1 hi hx
theorem anN(g:bK F ls)(hx:x<nD ls):∃w,(dR (aV ls) (nD ls))[vp ls x]?=some w/\x∈w:=by obtain⟨u,hu,hxu⟩:=FC.1 ((Fs (aV ls) (nD ls)).2 x hx);obtain⟨i,hi⟩:=gH hu;rw[U4 g hi hxu];exact⟨u,hi,hxu⟩
theorem Dk(g:bK F ls)(hx:x<nD ls):vp ls (aV ls x)=vp ls x:=by obtain⟨w,hw,CU⟩:=anN g hx;exact U4 g hw (Dy (maps g.ok) (aW hw) CU)
theorem U3(g:bK F ls)(hv:v<ls.length)(fw:Bool):vp ls (ir ls.length v fw)=if fw then (dz ls v).i.l else (dz ls v).o.r:=by cases fw<;>rfl
theorem Oy(fw:Bool):vp ls (dw ls.length v fw)=if fw then (dz ls v).o.l else (dz ls v).i.r:=by cases fw<;>rfl
theorem aiy(g:bK F ls):dn ls ls.length=true:=by unfold dn;rw[jf];have:=g.even;simp[this]
theorem abj(g:bK F ls){i:Nat}(hi:i<ls.length):(dz ls i).i.b= !dn ls i:=by
 show(!dn ls ((i+ls.length-1)%ls.length+1))=_;by_cases h:i=0
 .subst h;rw[jt,gV aa,show ls.length-1+1=ls.length by omega,aiy g];rfl
 rw[show i+ls.length-1=(i-1)+ls.length by omega,w9,gV aa,show i-1+1=i by omega]
theorem F1(hv:v<ls.length)(fw:Bool):ir ls.length v fw<nD ls:=by have:=Ag hv fw;unfold nD;omega
theorem MK(g:bK F ls){l:Let}(hl:ls[v]?=some l)(hp:l.aG=true):(dz ls v).p.d=dn ls v:=by show gY ls v=_;simp[gY,hl,hp]
theorem Cd(g:bK F ls){i:Nat}(hi:i<ls.length):yn F (dz ls i):=by
 obtain⟨l,hl⟩:=aN hi;have hk:=dG hl;refine⟨by rw[hk];exact g.bad l (aW hl),fun hc=>?_,fun hp=>?_⟩
 .rw[hk] at hc;rw[abj g hi];show _= !dn ls (i+1);rw[Jt hl (by
   cases hp:l.aG
   .rfl
   rw[oN hp] at hc;cases hc)]
 rw[hk] at hp;rw[abj g hi,MK g hl hp];refine⟨?_,rfl⟩;show(!dn ls (i+1))=_;rw[Js hl hp,L6]
theorem Jw(g:bK F ls){i j:Nat}(hi:i<ls.length)(hj:j<ls.length)(eT:i≠j):Xr (dz ls i) (dz ls j):=by
 obtain⟨l,hl⟩:=aN hi;obtain⟨m,hm⟩:=aN hj;intro hc mc e;rw[dG hl] at hc e;rw[dG hm] at mc e;obtain⟨_,hp⟩:=g.ids;obtain⟨d1,d2⟩:=hp i j l m hl hm hc mc e eT;obtain⟨b1,w,hw,wc,wi,wo,ws⟩:=pX g.ok.cr hl hc;have hoj:fh ls i=j:=by refine Classical.byContradiction fun aM=>?_;have d3:=(hp _ _ w m hw hm wc mc (by rw[wi,e]) aM).1;rw[wo] at d3;revert d1 d3;cases l.over<;>cases m.over<;>simp
 refine⟨?_,by rw[dG hl,dG hm];exact d2,?_⟩
 .rw[dG hl,dG hm];revert d1;cases l.over<;>cases m.over<;>simp
 rw[dG hl];have t1:=Dk g (F1 hi true);have t2:=Dk g (F1 hi false);have t3:=Dk g (F1 hj true);have t4:=Dk g (F1 hj false);rw[zR hl hc,hoj,Oy,U3 g hi] at t1 t2;rw[zR hm mc,<- hoj,b1,hoj,Oy,U3 g hj] at t3 t4;have hg:(m.over==(m.sign==1))= !gX l:=by unfold gX;rw[<- d2];revert d1;cases l.over<;>cases m.over<;>cases (l.sign==1)<;>simp
 rw[hg] at t3 t4;have A5:(l.over==(l.sign==1))=gX l:=rfl;rw[A5] at t1 t2;cases xV:gX l<;>rw[xV] at t1 t2 t3 t4<;>simp at t1 t2 t3 t4<;>constructor<;>simp[t1,t2,t3,t4]
theorem ML(g:bK F ls){l:Let}(hl:ls[v]?=some l)(hp:l.aG=true):Ff (TF ls) (BF ls) (dz ls v):=by
 have hv:=(aY.1 hl).1;have ok:=g.ok;have gd:=ok.ax.eJ l (aW hl) hp;obtain⟨g0,g1,r0,r1⟩:=gd;obtain⟨a1,a2⟩:=I7 ok hl hp;have TG:=Ja ok.ax hl hp;have hP:fj ls l.gate.toNat+l.aw.toNat=(aC ls).idxOf v+1:=by rw[TG];unfold dE;omega
 have hPm:fj ls l.gate.toNat+(l.aw.toNat-1)=(aC ls).idxOf v:=aa;have eR:(fj ls l.gate.toNat+l.aw.toNat+(aC ls).length-1)%(aC ls).length=(aC ls).idxOf v:=by rw[hP,show(aC ls).idxOf v+1+(aC ls).length-1=(aC ls).idxOf v+(aC ls).length by omega,w9,gV a1]
 have hk:=dG hl;have hd:=MK g hl hp;have nR:∀k,k<(aC ls).length->2*ls.length+2*k<nD ls/\2*ls.length+2*k+1<nD ls:=fun k hk=>by unfold nD;omega
 have hm:=dK ((aC ls).idxOf v+(aC ls).length-1) (show 0<(aC ls).length by omega);have q1:=Dk g (F1 hv (dn ls v));have q2:=Dk g (F1 hv (!dn ls v));have q3:=Dk g (nR _ a1).2;have q4:=Dk g (nR _ hm).1;rw[LV hl hp,U3 g hv] at q1 q2;rw[Ir,a2,Oy] at q3;rw[Is,vn a1,a2,Oy] at q4;constructor
 .rw[hk];unfold TF;rw[hPm];unfold aP.up;rw[hd];cases dV:dn ls v<;>rw[dV] at q4<;>exact q4
 .rw[hk];unfold TF;rw[eR];unfold aP.up;rw[hd];cases dV:dn ls v<;>rw[dV] at q1<;>exact q1.symm
 .rw[hk];unfold BF;rw[hPm];unfold aP.lo;rw[hd];cases dV:dn ls v<;>rw[dV] at q2<;>exact q2.symm
 rw[hk];unfold BF;rw[eR];unfold aP.lo;rw[hd];cases dV:dn ls v<;>rw[dV] at q3<;>exact q3
theorem bK.cz(g:bK F ls):Cz F (zF ls) (TF ls) (BF ls) (List.range (ky ls)):=by
 have hn:0<ls.length:=kY.2 g.ne;have mem:∀x∈zF ls,∃i,i<ls.length/\x=dz ls i:=fun x hx=>by obtain⟨i,hi,rfl⟩:=dy.1 hx;exact⟨i,fJ.1 hi,rfl⟩
 have hT:fj ls (F+1)=(aC ls).length:=DJ fun l hl hp=>((sB hp).1 (g.bad l hl)).1.1.1;have hs:=rT ls F;have hm:0<(aC ls).length:=by obtain⟨l,h1,h2⟩:=g.first;exact Mc (qR.2 ⟨l,h1,h2⟩)
 have fk:=g.ok.cr;unfold kr at fk;simp only[cE,dk] at fk;refine⟨⟨oR ls (ls.length-1),?_⟩,fun x hx=>?_,Om fun i j hi hj eT=>Jw g hi hj eT,by rw[lS];exact fk.1.1,fun x hx hc=>?_,Om fun i j hi hj eT=>?_,fun x hx hp=>?_,fun x hx hp=>?_,
  fun k hk=>?_,?_,?_,DF,fun s hs=>?_,?_⟩
 .have:=adG (dz ls) (fun i=>oR ls ((i+ls.length-1)%ls.length)) ls.length 0 fun i _ hi=>⟨rfl,?_⟩
  .simp only[jt] at this;rw[gV aa,show ls.length+ls.length-1=(ls.length-1)+ls.length by omega,w9,gV aa,<- afO] at this;exact this
  show oR ls i=oR ls ((i+1+ls.length-1)%ls.length);rw[show i+1+ls.length-1=i+ls.length by omega,w9,gV aa]
 .obtain⟨i,hi,rfl⟩:=mem x hx;exact Cd g hi
 .obtain⟨i,hi,rfl⟩:=mem x hx;obtain⟨l,hl⟩:=aN hi;rw[dG hl] at hc ⊢;rw[lS];exact g.ids.1 l (aW hl) hc
 .obtain⟨l,hl⟩:=aN hi;obtain⟨m,hm⟩:=aN hj;intro pl pm e1 e2;rw[dG hl] at pl e1 e2;rw[dG hm] at pm e1 e2;exact eT (g.ok.ax.inj i j l m hl hm pl pm ((Dl (g.ok.ax.eJ l (aW hl) pl) (g.ok.ax.eJ m (aW hm) pm)).2 ⟨e1,e2⟩))
 .obtain⟨i,hi,rfl⟩:=mem x hx;obtain⟨l,hl⟩:=aN hi;rw[dG hl] at hp ⊢;rw[lS];obtain⟨_,_,r0,r1⟩:=g.ok.ax.eJ l (aW hl) hp;exact⟨r0,r1⟩
 .obtain⟨i,hi,rfl⟩:=mem x hx;obtain⟨l,hl⟩:=aN hi;rw[dG hl] at hp;exact ML g hl hp
 .rw[lS];unfold TF BF;rw[rT ls k,vD];exact⟨rfl,rfl⟩
 .rw[lS];unfold TF BF;have e1:fj ls F+cg ls F=(aC ls).length:=aa;have e0:fj ls 0=0:=rfl;rw[e1,e0,jt,show(aC ls).length+(aC ls).length-1=((aC ls).length-1)+(aC ls).length by omega,w9];exact⟨rfl,rfl⟩
 .obtain⟨l,h1,h2⟩:=g.first;exact⟨dz ls 0,aW (II hn),by rw[dG h1];exact h2⟩
 .obtain⟨w,hw⟩:=aN (fJ.1 hs);obtain⟨⟨d,t,e,hd⟩,_⟩:=IB g.ok w (aW hw);have hp:vp ls d=s:=U4 g hw (by rw[e];simp);refine⟨dz ls (d/2),aW (II aa),?_⟩;rcases xe d with h|h
  .refine .inl ?_;show s=vp ls (2*(d/2));rw[show 2*(d/2)=d by omega,hp]
  refine .inr ?_;show s=vp ls (2*(d/2)+1);rw[show 2*(d/2)+1=d by omega,hp]
 rw[lS,BK,g.nw];omega
end
structure Cq (F:Nat) (z:List aP) (T B:Nat->Nat->Nat):Prop where
 ok:∀x∈z,yn F x
 cr:z.Pairwise Xr
 ev:ay Let.aB (aR z)%2=0
 ids:∀x∈z,x.k.aB=true->1<=x.k.id/\x.k.id<=((ay Let.aB (aR z)/2:Nat):Int)
 rk:z.Pairwise Dr
 rr:∀x∈z,x.k.aG=true->1<=x.k.aw/\x.k.aw<=(cg (aR z) x.k.gate.toNat:Int)
 pl:∀x∈z,x.k.aG=true->Ff T B x
 gt:∀g,g<F->T g (cg (aR z) g)=T (g+1) 0/\B g (cg (aR z) g)=B (g+1) 0
 gz:T F (cg (aR z) F)=T 0 0/\B F (cg (aR z) F)=B 0 0
def dL.mp(ψ:Nat->Nat)(s:dL):dL:=⟨ψ s.l,ψ s.r,s.b⟩
def aP.mp(ψ:Nat->Nat)(h:Let->Let)(x:aP):aP:=⟨⟨h x.p.l,x.p.d⟩,x.i.mp ψ,x.o.mp ψ⟩
theorem X4.mp{g:Bool}{i o j q:dL}(h:X4 g i o j q)(ψ:Nat->Nat):X4 g (i.mp ψ) (o.mp ψ) (j.mp ψ) (q.mp ψ):=by obtain⟨a,b,c,d⟩:=h;cases g<;>simp only[eH,if_false,if_true] at a b c d<;>constructor<;>simp[dL.mp,a,b,c,d]
theorem acZ(ψ:Nat->Nat)(h:Let->Let)(x:aP):(x.mp ψ h).up=x.up.mp ψ:=by unfold aP.up aP.mp;cases x.p.d<;>rfl
theorem acY(ψ:Nat->Nat)(h:Let->Let)(x:aP):(x.mp ψ h).lo=x.lo.mp ψ:=by unfold aP.lo aP.mp;cases x.p.d<;>rfl
theorem Ow{ψ:Nat->Nat}{h:Let->Let}:∀ {z:List aP} {s t:dL},jH s z t->jH (s.mp ψ) (z.map (aP.mp ψ h)) (t.mp ψ):=by
 intro z
 induction z with
 |nil=>intro s t e;cases e;rfl
 |cons x z ih=>intro s t e;obtain⟨rfl,e⟩:=e;exact⟨rfl,ih e⟩
theorem ZL{S L:List Nat}(hn:S.Nodup):S.length<=(S.filter fun s=> !L.contains s).length+L.length:=by
 have h1:S.length=(S.filter fun s=> !L.contains s).length+(S.filter fun s=>L.contains s).length:=by have:=List.length_eq_countP_add_countP (fun s=> !L.contains s) (l:=S);rw[Pr,Pr] at this;rw[this];congr 2;apply List.filter_congr;intro x _;simp
 have h2:=LQ (S.filter fun s=>L.contains s) L (hn.filter _) fun x hx=>by simpa using (uA.1 hx).2
 omega
structure yI (h:Let->Let):Prop where
 kind:∀l,(h l).kind=l.kind
 over:∀l,(h l).over=l.over
 sign:∀l,(h l).sign=l.sign
theorem yI.aG{h:Let->Let}(s:yI h)(l:Let):(h l).aG=l.aG:=by unfold Let.aG;rw[s.kind]
theorem yI.aB{h:Let->Let}(s:yI h)(l:Let):(h l).aB=l.aB:=by unfold Let.aB;rw[s.kind]
theorem yI.id:yI id:=⟨fun _=>rfl,fun _=>rfl,fun _=>rfl⟩
section
variable {F:Nat} {X r X':List aP} {T B T' B':Nat->Nat->Nat} {S:List Nat} {ψ:Nat->Nat} {h:Let->Let}
theorem Cz.q{z:List aP}(c:Cz F z T B S):Cq F z T B:=⟨c.ok,c.cr,c.ev,c.ids,c.rk,c.rr,c.pl,c.gt,c.gz⟩
theorem Cq.perm{z z':List aP}(c:Cq F z T B)(hh:z.Perm z'):Cq F z' T B:=by
 have hm:∀ {x},x∈z'↔x∈z:=fun {x}=>hh.symm.mem_iff;have e:∀p,ay p (aR z')=ay p (aR z):=fun p=>(Ar hh).symm;have eg:∀g,cg (aR z') g=cg (aR z) g:=fun g=>e _;exact⟨fun x hx=>c.ok x (hm.1 hx),(hh.pairwise_iff fun {x y}=>Xr.symm).1 c.cr,by rw[e];exact c.ev,fun x hx=>by rw[e];exact c.ids x (hm.1 hx),(hh.pairwise_iff fun {x y}=>Dr.symm).1 c.rk,
  fun x hx=>by rw[eg];exact c.rr x (hm.1 hx),fun x hx=>c.pl x (hm.1 hx),fun g hg=>by rw[eg];exact c.gt g hg,by rw[eg];exact c.gz⟩
theorem yn.mp{x:aP}(o:yn F x)(s:yI h)(hb:dr F (h x.k)=false):yn F (x.mp ψ h):=by
 refine⟨hb,fun hc=>?_,fun hp=>?_⟩
 .exact o.cb (by rw[<- s.aB];exact hc)
 exact o.pb (by rw[<- s.aG];exact hp)
theorem Cq.edit(q:Cq F (X++r) T B)(s:yI h)(hb:∀x∈r,dr F (h x.k)=false)
  (hid:∀x∈r,∀y∈r,x.k.aB=true->y.k.aB=true->(h x.k).id=(h y.k).id->x.k.id=y.k.id)
  (jj:∀x∈r,∀y∈r,x.k.aG=true->y.k.aG=true->(h x.k).gate=(h y.k).gate->(h x.k).aw=(h y.k).aw->x.k.gate=y.k.gate/\x.k.aw=y.k.aw)
  (n1:∀x∈X',yn F x) (n2:X'.Pairwise Xr) (n3:X'.Pairwise Dr) (n4:∀x∈X',∀y∈r,Xr x (y.mp ψ h)) (n5:∀x∈X',∀y∈r,Dr x (y.mp ψ h))
  (ev:ay Let.aB (aR (X'++r.map (aP.mp ψ h)))%2=0)
  (ids:∀x∈X',x.k.aB=true->1<=x.k.id/\x.k.id<=((ay Let.aB (aR (X'++r.map (aP.mp ψ h)))/2:Nat):Int))
  (alv:∀x∈r,x.k.aB=true->1<=(h x.k).id/\(h x.k).id<=((ay Let.aB (aR (X'++r.map (aP.mp ψ h)))/2:Nat):Int))
  (rr:∀x∈X',x.k.aG=true->1<=x.k.aw/\x.k.aw<=(cg (aR (X'++r.map (aP.mp ψ h))) x.k.gate.toNat:Int))
  (rr':∀x∈r,x.k.aG=true->1<=(h x.k).aw/\(h x.k).aw<=(cg (aR (X'++r.map (aP.mp ψ h))) (h x.k).gate.toNat:Int))
  (pl:∀x∈X',x.k.aG=true->Ff T' B' x)
  (HT:∀x∈r,x.k.aG=true->(ψ (T x.k.gate.toNat (x.k.aw.toNat-1))=T' (h x.k).gate.toNat ((h x.k).aw.toNat-1)/\ψ (B x.k.gate.toNat (x.k.aw.toNat-1))=B' (h x.k).gate.toNat ((h x.k).aw.toNat-1))/\ψ (T x.k.gate.toNat x.k.aw.toNat)=T' (h x.k).gate.toNat (h x.k).aw.toNat/\ψ (B x.k.gate.toNat x.k.aw.toNat)=B' (h x.k).gate.toNat (h x.k).aw.toNat)
  (gt:∀g,g<F->T' g (cg (aR (X'++r.map (aP.mp ψ h))) g)=T' (g+1) 0/\B' g (cg (aR (X'++r.map (aP.mp ψ h))) g)=B' (g+1) 0)
  (gz:T' F (cg (aR (X'++r.map (aP.mp ψ h))) F)=T' 0 0/\B' F (cg (aR (X'++r.map (aP.mp ψ h))) F)=B' 0 0):Cq F (X'++r.map (aP.mp ψ h)) T' B':=by
 have crr:=(BM.1 q.cr).2.1;have rkr:=(BM.1 q.rk).2.1;have mem:∀x∈X'++r.map (aP.mp ψ h),x∈X'\/ ∃y∈r,x=y.mp ψ h:=fun x hx=>by
  rcases fi.1 hx with hx|hx
  .exact .inl hx
  obtain⟨y,hy,rfl⟩:=dy.1 hx;exact .inr ⟨y,hy,rfl⟩
 have in':∀y∈r,y∈X++r:=fun y hy=>zY _ hy;refine⟨fun x hx=>?_,?_,ev,fun x hx hc=>?_,?_,fun x hx hp=>?_,fun x hx hp=>?_,gt,gz⟩
 .rcases mem x hx with hx|⟨y,hy,rfl⟩
  .exact n1 x hx
  exact(q.ok y (in' y hy)).mp s (hb y hy)
 .refine BM.2 ⟨n2,BN.2 (crr.imp_of_mem fun {x y} hx hy jD hc hd e=>?_),fun x hx y hy=>?_⟩
  .have hc:x.k.aB=true:=by rw[<- s.aB];exact hc
   have hd:y.k.aB=true:=by rw[<- s.aB];exact hd
   obtain⟨h1,h2,h3⟩:=jD hc hd (hid x hx y hy hc hd e);refine⟨?_,?_,?_⟩
   .show(h x.k).over= !(h y.k).over;rw[s.over,s.over];exact h1
   .show(h x.k).sign=(h y.k).sign;rw[s.sign,s.sign];exact h2
   have:gX (x.mp ψ h).k=gX x.k:=by show((h x.k).over==((h x.k).sign==1))=_;rw[s.over,s.sign];rfl
   rw[this];exact h3.mp ψ
  obtain⟨w,hw,rfl⟩:=dy.1 hy;exact n4 x hx w hw
 .rcases mem x hx with hx|⟨y,hy,rfl⟩
  .exact ids x hx hc
  exact alv y hy (by rw[<- s.aB];exact hc)
 .refine BM.2 ⟨n3,BN.2 (rkr.imp_of_mem fun {x y} hx hy jD hc hd e1 e2=>?_),fun x hx y hy=>?_⟩
  .have hc:x.k.aG=true:=by rw[<- s.aG];exact hc
   have hd:y.k.aG=true:=by rw[<- s.aG];exact hd
   obtain⟨f1,f2⟩:=jj x hx y hy hc hd e1 e2;exact jD hc hd f1 f2
  obtain⟨w,hw,rfl⟩:=dy.1 hy;exact n5 x hx w hw
 .rcases mem x hx with hx|⟨y,hy,rfl⟩
  .exact rr x hx hp
  exact rr' y hy (by rw[<- s.aG];exact hp)
 rcases mem x hx with hx|⟨y,hy,rfl⟩
 .exact pl x hx hp
 have hp:y.k.aG=true:=by rw[<- s.aG];exact hp
 obtain⟨p1,p2,p3,p4⟩:=q.pl y (in' y hy) hp;obtain⟨⟨a1,a2⟩,a3,a4⟩:=HT y hy hp;constructor
 .rw[acZ];show ψ y.up.r=_;rw[p1];exact a1
 .rw[acZ];show ψ y.up.l=_;rw[p2];exact a3
 .rw[acY];show ψ y.lo.r=_;rw[p3];exact a2
 rw[acY];show ψ y.lo.l=_;rw[p4];exact a4
theorem Cq.done{l:List Pc}{z':List aP}{L N:List Nat}{V:Nat}(q:Cq F (X'++r.map (aP.mp ψ h)) T' B')(eV:S.Nodup)(wit:∀s∈S,∃x∈X++r,s=x.o.l\/s=x.o.r)
  (mj:z'.Perm (X'++r.map (aP.mp ψ h))) (ak8:∃s,jH s z' s) (hl:z'.map aP.p=l) (one:∃x∈X'++r.map (aP.mp ψ h),x.k.aG=true)
  (hψ:∀s∈S,s∉L->ψ s=s) (hX:∀x∈X,∀s∈S,(s=x.o.l\/s=x.o.r)->s∉L->∃y∈X'++r.map (aP.mp ψ h),s=y.o.l\/s=y.o.r)
  (hN:N.Nodup) (hNS:∀s∈N,s∉S) (hNw:∀s∈N,∃y∈X'++r.map (aP.mp ψ h),s=y.o.l\/s=y.o.r)
  (hS:V<=S.length) (num:ay Let.aG (aR (X'++r.map (aP.mp ψ h)))+ay Let.aB (aR (X'++r.map (aP.mp ψ h)))/2+1+L.length<=V+N.length):Cert F l:=by
 have qz:=q.perm mj.symm;have hm:∀ {x},x∈z'↔x∈X'++r.map (aP.mp ψ h):=fun {x}=>mj.mem_iff;refine⟨z',T',B',N++S.filter (fun s=> !L.contains s),hl,⟨ak8,qz.ok,qz.cr,qz.ev,qz.ids,qz.rk,qz.rr,qz.pl,qz.gt,qz.gz,?_,?_,fun s hs=>?_,?_⟩⟩
 .obtain⟨x,hx,e⟩:=one;exact⟨x,hm.2 hx,e⟩
 .refine FD.2 ⟨hN,eV.filter _,fun a ha b hb e=>?_⟩;subst e;exact hNS a ha (uA.1 hb).1
 .have key:∃y∈X'++r.map (aP.mp ψ h),s=y.o.l\/s=y.o.r:=by
   rcases fi.1 hs with hs|hs
   .exact hNw s hs
   obtain⟨h1,h2⟩:=uA.1 hs;have h2:s∉L:=by simpa using h2
   obtain⟨x,hx,e⟩:=wit s h1;rcases fi.1 hx with hx|hx
   .exact hX x hx s h1 e h2
   refine⟨x.mp ψ h,zY _ (dy.2 ⟨x,hx,rfl⟩),?_⟩;have hp:=hψ s h1 h2;rcases e with e|e
   .left;show s=ψ x.o.l;rw[<- e,hp]
   right;show s=ψ x.o.r;rw[<- e,hp]
  obtain⟨y,hy,e⟩:=key;exact⟨y,hm.2 hy,e⟩
 have e:∀p,ay p (aR z')=ay p (aR (X'++r.map (aP.mp ψ h))):=fun p=>Ar mj;rw[e,e,fH];have:=ZL (L:=L) eV;omega
end
theorem Qm(p:Let->Bool)(a b:List aP):ay p (aR (a++b))=ay p (aR a)+ay p (aR b):=by show List.countP p (List.map _ _)=List.countP p (List.map _ _)+List.countP p (List.map _ _);rw[km,vv]
theorem kn(p:Let->Bool)(x:aP)(b:List aP):ay p (aR (x::b))=(if p x.k then 1 else 0)+ay p (aR b):=by show List.countP p (List.map _ _)=_+List.countP p (List.map _ _);rw[eE,uy,PC]
theorem Qn(p:Let->Bool):ay p (aR [])=0:=rfl
theorem Aq{p:Let->Bool}{ψ:Nat->Nat}{h:Let->Let}(hp:∀l,p (h l)=p l)(r:List aP):ay p (aR (r.map (aP.mp ψ h)))=ay p (aR r):=by
 induction r with
 |nil=>rfl
 |cons x r ih=>rw[eE,kn,kn,ih];show(if p (h x.k) then 1 else 0)+_=_;rw[hp]
theorem F2{l:Let}(g:Nat)(h:l.aB=true):n0 g l=false:=by
 unfold n0;cases hp:l.aG
 .rfl
 rw[oN hp] at h;cases h
theorem lK{l:Let}(h:l.aB=true):l.aG=false:=by
 cases hp:l.aG
 .rfl
 rw[oN hp] at h;cases h
theorem ajP{α:Type}{z:List α}{a:Nat}(ha:a<z.length)(h2:2<=z.length):∃x y r,z.drop a++z.take a=x::y::r/\z[a]?=some x/\z[(a+1)%z.length]?=some y:=by
 obtain⟨x,hx⟩:=aN ha;obtain⟨hl,e⟩:=aY.1 hx;have hd:z.drop a=x::z.drop (a+1):=by rw[<- e,w7]
 by_cases c:a+1<z.length
 .obtain⟨y,hy⟩:=aN c;obtain⟨mJ,e2⟩:=aY.1 hy;have vY:z.drop (a+1)=y::z.drop (a+1+1):=by rw[<- e2,w7]
  exact⟨x,y,z.drop (a+1+1)++z.take a,by rw[hd,vY];rfl,hx,by rw[gV c];exact hy⟩
 have ea:a+1=z.length:=aa;obtain⟨y,hy⟩:=aN (ls:=z) (k:=0) aa;have vY:z.drop (a+1)=[]:=List.drop_eq_nil_of_le aa;have ht:z.take a=y::(z.take a).drop 1:=by
  have h0:(z.take a)[0]?=some y:=by rw[jY,aE aa];exact hy
  obtain⟨hl3,e3⟩:=aY.1 h0;have:=w7 (h:=hl3);rw[e3,L9] at this;exact this.symm
 refine⟨x,y,(z.take a).drop 1,?_,hx,by rw[ea,Aa];exact hy⟩;rw[hd,vY]
 conv=>lhs;rw[ht]
 rfl
section
variable {F:Nat} {ls:List Let}
theorem wG{l:Let}(h:l.aB=true):(if Let.aB l=true then 1 else 0)=1/\(if Let.aG l=true then 1 else 0)=0:=by simp[h,lK h]
theorem ifP{l:Let}(h:l.aG=true):(if Let.aB l=true then 1 else 0)=0/\(if Let.aG l=true then 1 else 0)=1:=by simp[h,oN h]
end
def fT(ids:List Int)(l:Let):Let:=if l.kind==2 then {l with id:=l.id-((ids.take ids.length).countP (fun i=>decide (i<l.id)):Nat)} else l
theorem zx(ids:List Int):yI (fT ids):=by refine⟨fun l=>?_,fun l=>?_,fun l=>?_⟩<;>unfold fT<;>split<;>rfl
theorem acJ(ids:List Int)(p:Pc):lL ids p=⟨fT ids p.l,p.d⟩:=by unfold lL fT iL;split<;>rfl
theorem zw{ids:List Int}{l:Let}(h:l.aG=true):fT ids l=l:=by unfold fT;have:=oN h;unfold Let.aB at this;rw[aD (by rw[this];decide)]
theorem acG{ids:List Int}{l:Let}(h:dr F l=false):dr F (fT ids l)=false:=by
 rcases Am h with hp|hc
 .rw[zw hp];exact h
 have jN:(fT ids l).aB=true:=by rw[(zx ids).aB];exact hc
 rw[Od hc] at h;rw[Od jN];unfold fT;split<;>exact h
theorem acF(ids:List Int)(g:Nat)(l:Let):n0 g (fT ids l)=n0 g l:=by
 cases hp:l.aG
 .unfold n0;rw[(zx ids).aG,hp];rfl
 rw[zw hp]
theorem acH{ids:List Int}{l:Let}(h:l.aB=true):(fT ids l).id=l.id-((ids.countP fun i=>decide (i<l.id):Nat):Int):=by unfold fT;unfold Let.aB at h;rw[aE h,jf]
theorem acb{l:List Pc}{drop:Nat->Pc->Bool}{d:Pc->Bool}(h:∀i p,drop i p=d p):jQ l drop=l.filter fun p=> !d p:=by
 have key:∀k,k<=l.length->rl l drop k=(l.take k).filter fun p=> !d p:=by
  intro k
  induction k with
  |zero=>intro _;rfl
  |succ k ih=>
   intro hk;obtain⟨p,hp⟩:=aN (ls:=l) (k:=k) aa;rw[iw,hp,Ma,<- ih aa];cases hd:d p
   .rw[HB hp (by rw[h];exact hd)];simp[hd]
   rw[zn hp (by rw[h];exact hd)];simp[hd]
 unfold jQ;rw[key _ (cA _),jf]
theorem Ov:∀ {z:List aP} {s t:dL},jH s z t->z≠[]->∃w∈z,w.o=t:=by
 intro z
 induction z with
 |nil=>intro s t _ h;exact absurd rfl h
 |cons x z ih=>
  intro s t h _;obtain⟨_,h⟩:=h;cases z with
  |nil=>cases h;exact⟨x,af,rfl⟩
  |cons y z=>obtain⟨w,hw,e⟩:=ih h af;exact⟨w,vB _ hw,e⟩
section
variable {F:Nat} {ls:List Let}
theorem am9{x y:aP}{r:List aP}{T B:Nat->Nat->Nat}(q:Cq F (x::y::r) T B)(cx:x.k.aB=true)(cy:y.k.aB=true)(e:x.k.id=y.k.id):∀w∈r,w.k.aB=true->w.k.id≠x.k.id:=by intro w hw cw ew;obtain⟨p1,p2⟩:=rG.1 q.cr;obtain⟨p3,_⟩:=rG.1 p2;have a:=(p1 y af cx cy e).ov;have b:=(p1 w (by simp[hw]) cx cw ew.symm).ov;have d:=(p3 w hw cy cw (by rw[<- e,ew])).ov;rw[b] at a;rw[d] at a;revert a;cases w.k.over<;>simp
theorem Wd(g:bK F ls){a:Nat}(ha:a<ls.length):∃x y r s,(zF ls).drop a++(zF ls).take a=x::y::r/\(pieces ls)[a]?=some x.p/\(pieces ls)[nx ls a]?=some y.p/\
  Cz F (x::y::r) (TF ls) (BF ls) (List.range (ky ls))/\jH s (x::y::r) s/\(pieces ls).drop a++(pieces ls).take a=(x::y::r).map aP.p/\(zF ls)[a]?=some x/\(zF ls)[nx ls a]?=some y/\(x::y::r).Perm (zF ls):=by
 have h2:2<=ls.length:=by obtain⟨l,h1,hp⟩:=g.first;have:=g.even;have:0<ay Let.aG ls:=vw.2 ⟨l,aW h1,hp⟩;have:=qt Let.aG ls;omega
 have hl:=We ls;obtain⟨x,y,r,e,hx,hy⟩:=ajP (z:=zF ls) (a:=a) aa aa;rw[hl] at hy;have c:Cz F ((zF ls).drop a++(zF ls).take a) (TF ls) (BF ls) (List.range (ky ls)):=by refine Cz.jV ?_;rw[tz];exact g.cz
 rw[e] at c;obtain⟨s,hs⟩:=c.path;refine⟨x,y,r,s,e,?_,?_,c,hs,?_,hx,hy,?_⟩
 .rw[<- Fw,gh,hx];rfl
 .rw[<- Fw,gh,hy];rfl
 .rw[<- e,km,Py,Pz,Fw]
 rw[<- e];exact List.perm_append_comm.trans (by rw[tz])
theorem Yj{a:Nat}{d:Pc->Bool}{f:Pc->Pc}(c:Cert F ((((pieces ls).drop a++(pieces ls).take a).filter d).map f)):Cert F (((pieces ls).filter d).map f):=by rw[Ma,km] at c;have:=c.jV;rwa[<- km,<- Ma,tz] at this
theorem abm{l:Let}:l.aB=(l.kind==2):=rfl
theorem filter_all{α:Type}{l:List α}{p:α->Bool}(h:∀x∈l,p x=true):l.filter p=l:=List.filter_eq_self.2 h
theorem ahM(g:bK F ls){a:Nat}(ha:a<ls.length){L:List Pc}(h:vj ls a=some L):Cert F L:=by
 obtain⟨x,y,r,s,e,hx,hy,c,hp,Hh,_,_,mj⟩:=Wd g ha;have q:=c.q;unfold vj at h;have e1:(pieces ls).getD a ⟨iM,false⟩=x.p:=by rw[cU,hx];rfl
 have e2:(pieces ls).getD ((a+1)%ls.length) ⟨iM,false⟩=y.p:=by rw[cU,hy];rfl
 simp only[e1,e2] at h;split at h
 case isFalse=>cases h
 rename_i hc;simp only[cE,dk] at hc;obtain⟨gK,jO,hid⟩:=hc;have cx:x.k.aB=true:=by rw[abm];simp[gK]
 have cy:y.k.aB=true:=by rw[abm];simp[jO]
 have r6:x.k.id=y.k.id:=hid;cases h;have NH:=am9 q cx cy r6;have jD:Xc x y:=(rG.1 q.cr).1 y af cx cy r6;obtain⟨jk,eW,ub⟩:=hp
 -- both ends of the kink look alike
 have ix:=(q.ok x af).cb cx;have iy:=(q.ok y af).cb cy;have hk:=jD.x4;rw[jk,eW] at hk;rw[jk] at ix;rw[eW] at iy;have hyo:y.o=s:=by
  obtain⟨k1,k2,k3,k4⟩:=hk;have hb:y.o.b=s.b:=by rw[<- iy,<- ix]
  cases y with
  |mk yp yi yo=>
  cases yo with
  |mk l r b=>
  cases s with
  |mk sl sr sb=>
  cases hg:gX x.k<;>rw[hg] at k1 k2 k3 k4<;>simp only[eH,if_false,if_true] at k1 k2 k3 k4 hb<;>simp_all
 rw[hyo] at ub;have TK:∃b,(s.r=b\/s.l=b)/\ ∀t,(t=x.o.l\/t=x.o.r)->t=s.l\/t=s.r\/t=(if gX x.k then x.o.r else x.o.l):=by
  obtain⟨k1,k2,k3,k4⟩:=hk;refine⟨s.r,.inl rfl,?_⟩;cases hg:gX x.k<;>rw[hg] at k1 k2 k3 k4<;>simp only[eH,if_false,if_true] at k1 k2 k3 k4 ⊢
  .rintro t (rfl|rfl)
   .exact .inr (.inr rfl)
   exact .inl k1.symm
  rintro t (rfl|rfl)
  .exact .inr (.inl k3)
  exact .inr (.inr rfl)
 obtain⟨_,_,TK⟩:=TK;have dA:=q.ev;have xN:∀z:List aP,ay Let.aB (aR (x::y::z))=ay Let.aB (aR z)+2:=fun z=>by rw[kn,kn,(wG cx).1,(wG cy).1];omega
 have Ek:∀z:List aP,ay Let.aG (aR (x::y::z))=ay Let.aG (aR z):=fun z=>by rw[kn,kn,(wG cx).2,(wG cy).2];omega
 have vV:∀(z:List aP) k,cg (aR (x::y::z)) k=cg (aR z) k:=fun z k=>by show ay _ _=ay _ _;rw[kn,kn,F2 k cx,F2 k cy];simp
 have mC:ay Let.aB (aR (r.map (aP.mp id (fT [x.k.id]))))=ay Let.aB (aR r):=Aq (fun l=>(zx _).aB l) r;have mP:ay Let.aG (aR (r.map (aP.mp id (fT [x.k.id]))))=ay Let.aG (aR r):=Aq (fun l=>(zx _).aG l) r;have mG:∀k,cg (aR (r.map (aP.mp id (fT [x.k.id])))) k=cg (aR r) k:=fun k=>Aq (fun l=>acF _ k l) r;have lowid:∀w∈r,w.k.aB=true->(fT [x.k.id] w.k).id=if x.k.id<w.k.id then w.k.id-1 else w.k.id:=fun w hw hc=>by
  rw[acH hc];by_cases c:x.k.id<w.k.id
  .simp[c]
  simp[c]
 have GW:∀w∈x::y::r,w.k.aB=true->1<=w.k.id/\w.k.id<=((ay Let.aB (aR r)/2:Nat):Int)+1:=fun w hw hc=>by have:=q.ids w hw hc;rw[xN] at this;omega
 have hr:r≠[]:=by
  obtain⟨w,hw,oI⟩:=c.one;rintro rfl
  simp only[dh,lT,or_false] at hw;rcases hw with rfl|rfl
  .rw[lK cx] at oI;cases oI
  rw[lK cy] at oI;cases oI
 have inr:∀w∈r,w∈x::y::r:=fun w hw=>by simp[hw]
 have qn:Cq F ([]++r.map (aP.mp id (fT [x.k.id]))) (TF ls) (BF ls):=by
  refine Cq.edit (X:=[x,y]) (r:=r) q (zx _) (fun w hw=>acG (q.ok w (inr w hw)).bad) (fun u hu v hv cu cv e=>?_) (fun u hu v hv pu pv e1 e2=>?_) (fun _ h=>by cases h) List.Pairwise.nil List.Pairwise.nil (fun _ h=>by cases h) (fun _ h=>by cases h) ?_ (fun _ h=>by cases h) (fun u hu cu=>?_) (fun _ h=>by cases h) (fun u hu pu=>?_) (fun _ h=>by cases h) (fun u hu pu=>?_) (fun k hk=>?_) ?_
  .have h1:=NH u hu cu;have h2:=NH v hv cv;rw[lowid u hu cu,lowid v hv cv] at e;split at e<;>split at e<;>omega
  .rw[zw pu,zw pv] at e1 e2;exact⟨e1,e2⟩
  .rw[gi,mC];rw[xN] at dA;omega
  .rw[gi,mC,lowid u hu cu];have h1:=GW u (inr u hu) cu;have h2:=NH u hu cu;have h3:=GW x af cx;split<;>omega
  .rw[gi,zw pu,mG,<- vV r];exact q.rr u (inr u hu) pu
  .rw[zw pu];exact⟨⟨rfl,rfl⟩,rfl,rfl⟩
  .rw[gi,mG,<- vV r];exact q.gt k hk
  rw[gi,mG,<- vV r];exact q.gz
 have Km:Cert F (r.map fun w=>lL [x.k.id] w.p):=by
  refine Cq.done (X:=[x,y]) (r:=r) (X':=[]) (L:=[if gX x.k then x.o.r else x.o.l]) (N:=[]) (V:=ky ls) (z':=r.map (aP.mp id (fT [x.k.id]))) qn c.nd (fun t ht=>c.wit t ht) (List.Perm.refl _) ⟨s,Ow (ψ:=id) ub⟩ ?_ ?_ (fun _ _ _=>rfl) (fun w hw t ht ew hL=>?_) w8 (fun t ht=>by cases ht) (fun t ht=>by cases ht) (by rw[BK];exact cA _) ?_
  .rw[nX];refine zW fun w _=>?_;rw[acJ];rfl
  .obtain⟨w,hw,oI⟩:=c.one;simp only[dh] at hw;rcases hw with rfl|rfl|hw
   .rw[lK cx] at oI;cases oI
   .rw[lK cy] at oI;cases oI
   refine⟨w.mp id (fT [x.k.id]),?_,?_⟩
   .rw[gi];exact dy.2 ⟨w,hw,rfl⟩
   show(fT [x.k.id] w.k).aG=true;rw[(zx _).aG];exact oI
  .obtain⟨v,hv,hvo⟩:=Ov ub hr;have key:t=s.l\/t=s.r:=by
    simp only[dh,lT,or_false] at hw hL;rcases hw with rfl|rfl
    .rcases TK t ew with h|h|h
     .exact .inl h
     .exact .inr h
     exact absurd h hL
    rw[hyo] at ew;exact ew
   refine⟨v.mp id (fT [x.k.id]),by rw[gi];exact dy.2 ⟨v,hv,rfl⟩,?_⟩;show t=id v.o.l\/t=id v.o.r;rw[hvo];exact key
  rw[gi,mC,mP];have h1:=g.nw;have h2:ay Let.aB (aR (x::y::r))=ay Let.aB ls:=by rw[Ar mj,lS]
  have h3:ay Let.aG (aR (x::y::r))=ay Let.aG ls:=by rw[Ar mj,lS]
  rw[xN] at h2;rw[Ek] at h3;simp only[eP,dp];omega
 show Cert F ((jQ (pieces ls) (nk [x.k.id])).map (lL [x.k.id]));rw[acb (l:=pieces ls) (drop:=nk [x.k.id]) (d:=fun p=>(p.l.kind==2)&&[x.k.id].contains p.l.id) fun _ _=>rfl];refine Yj (a:=a) ?_;rw[Hh];have hf:((x::y::r).map aP.p).filter (fun p=> !((p.l.kind==2)&&[x.k.id].contains p.l.id))=r.map aP.p:=by
  rw[eE,eE,Wh (by simp[gK]),Wh (by simp[jO,hid])];refine filter_all fun p hp=>?_;obtain⟨w,hw,rfl⟩:=dy.1 hp;cases hk:(w.p.l.kind==2)
  .rfl
  have:=NH w hw hk;simp[this]
 rw[hf,nX];exact Km
end
end
end Go.Abs
