/-
  Certificates: names of faces at each letter show that a code is valid.
-/
import Derived.Test.YtonblbhhnelniaaGreatDoorVe
set_option linter.all false
set_option maxHeartbeats 16000000
namespace Go.Abs
section
variable{F x:Nat}
theorem XJ{R:Nat->Nat->Prop}{n:Nat}{L:List Nat}(h:∀x,x<n->∃r∈L,bh R x r):K (bh R) n<=L.length:=by
 have key:∀M:List Nat,M.Nodup->(∀x∈M,x<n/\ld (bh R) x)->∃N:List Nat,N.length=M.length/\N.Nodup/\ ∀r∈N,r∈L/\ ∃x∈M,bh R x r:=by
  intro M
  induction M with
  |nil=>intro _ _;exact⟨[],rfl,w7,af⟩
  |cons a M ih=>
   intro hn hm;obtain⟨n1,n2⟩:=sa.1 hn;obtain⟨N,l1,l2,l3⟩:=ih n2 fun x hx=>hm x (by simp[hx]);obtain⟨ha,la⟩:=hm a af;obtain⟨r,hr,e⟩:=h a ha;refine⟨r::N,by simp[l1],sa.2 ⟨fun hN=>?_,l2⟩,fun q hq=>?_⟩
   .obtain⟨_,x,hx,ex⟩:=l3 r hN;have e1:=la x (e.trans ex.symm);have e2:=(hm x (by simp[hx])).2 a (ex.trans e.symm);have:a=x:=aa;exact n1 (this▸hx)
   rcases cM.1 hq with rfl|hq
   .exact⟨hr,a,af,e⟩
   obtain⟨q1,x,hx,ex⟩:=l3 q hq;exact⟨q1,x,by simp[hx],ex⟩
 obtain⟨N,l1,l2,l3⟩:=key ((List.range n).filter (A1 (bh R))) (Fj.filter _) fun x hx=>by obtain⟨h1,h2⟩:=uM.1 hx;exact⟨fm.1 h1,Jf.1 h2⟩
 unfold K;rw[Kp,<- l1];exact JV _ _ l2 fun r hr=>(l3 r hr).1
theorem PL(p:Nat->Nat)(x:Nat):∀i j,it p (i+j) x=it p i (it p j x):=by
 intro i j
 induction i with
 |zero=>rw[iD];rfl
 |succ i ih=>rw[show i+1+j=(i+j)+1 by omega];show p (it p (i+j) x)=p (it p i (it p j x));rw[ih]
theorem an0{p:Nat->Nat}{m:Nat}(h:it p m x=x):∀k,it p (k*m) x=x:=by
 intro k
 induction k with
 |zero=>rw[Aa];rfl
 |succ k ih=>rw[Nat.succ_mul,PL,h,ih]
theorem apZ{n:Nat}{p:Nat->Nat}(h:Perm n p){a b:Nat}(e:bh (gr n p) a b):a=b\/(a<n/\b<n/\ ∃k,it p k a=b):=by
 induction e with
 | @rel a b r=>obtain⟨ha,rfl⟩:=r;exact .inr ⟨ha,h.lt _ ha,1,rfl⟩
 |refl _=>exact .inl rfl
 | @symm a b _ ih=>
  rcases ih with rfl|⟨ha,hb,k,hk⟩
  .exact .inl rfl
  obtain⟨m,hm⟩:=h.Zy ha;refine .inr ⟨hb,ha,k*m,?_⟩;rw[<- hk,<- PL,show k*m+k=k*(m+1) by rw[Nat.mul_succ]];exact an0 hm k
 |trans _ _ i1 i2=>
  rcases i1 with rfl|⟨ha,hb,k,hk⟩
  .exact i2
  rcases i2 with rfl|⟨_,hc,j,hj⟩
  .exact .inr ⟨ha,hb,k,hk⟩
  exact .inr ⟨ha,hc,j+k,by rw[PL,hk,hj]⟩
theorem at4{n:Nat}{p:Nat->Nat}(h:Perm n p){a b:Nat}(iR:a≠b)(e:bh (gr n p) a b):¬bh (gr n (tr p (a,b))) a b:=by
 rcases apZ h e with he|⟨ha,hb,k0,IM⟩
 .exact absurd he iR
 obtain⟨k,hk,acv⟩:=exists_least (p:=fun k=>it p k a=b) k0 IM;have k1:1<=k:=by
  rcases Nat.eq_zero_or_pos k with rfl|h
  .exact absurd hk iR
  exact h
 have na:∀j,1<=j->j<=k->it p j a≠a:=fun j j1 j2 ej=>by
  rcases Nat.lt_or_eq_of_le j2 with c|rfl
  .have:it p (k-j) a=b:=by
    rw[<- hk,show k=(k-j)+j by omega,PL,ej];congr 1;omega
   have:=acv _ this;omega
  exact iR (ej.symm.trans hk)
 have nb:∀j,j<k->it p j a≠b:=fun j j1 ej=>by have:=acv j ej;omega
 intro e2;have inv:∀x y,gr n (tr p (a,b)) x y->(∃j,1<=j/\j<=k/\x=it p j a)=(∃j,1<=j/\j<=k/\y=it p j a):=by
  rintro x y ⟨hx,rfl⟩
  apply propext;unfold tr;simp only;constructor
  .rintro ⟨j,j1,j2,rfl⟩
   rw[if_neg (na j j1 j2)];by_cases c:it p j a=b
   .rw[if_pos c];exact⟨1,aa,k1,rfl⟩
   rw[if_neg c];refine⟨j+1,aa,?_,rfl⟩;rcases Nat.lt_or_eq_of_le j2 with d|rfl
   .exact d
   exact absurd hk c
  by_cases c:x=a
  .rw[if_pos c];rintro ⟨j,j1,j2,ej⟩
   exfalso;have:=h.inj _ _ hb (h.Gy ha (j-1)) (by rw[ej,show j=(j-1)+1 by omega];rfl);by_cases d:j=1
   .subst d;exact iR this.symm
   exact nb (j-1) aa this.symm
  rw[if_neg c];by_cases d:x=b
  .subst d;intro _;exact⟨k,k1,aX _,hk.symm⟩
  rw[if_neg d];rintro ⟨j,j1,j2,ej⟩
  have:=h.inj _ _ hx (h.Gy ha (j-1)) (by rw[ej,show j=(j-1)+1 by omega];rfl);by_cases f:j=1
  .subst f;exact absurd this c
  exact⟨j-1,aa,aa,this⟩
 have:=e2.inv inv;have xJ:∃j,1<=j/\j<=k/\b=it p j a:=⟨k,k1,aX _,hk.symm⟩;rw[<- this] at xJ;obtain⟨j,j1,j2,ej⟩:=xJ;exact na j j1 j2 ej.symm
theorem K_tr{n:Nat}{p:Nat->Nat}(h:Perm n p){a b:Nat}(ha:a<n)(hb:b<n)(iR:a≠b):(K (bh (gr n (tr p (a,b)))) n+K (bh (gr n p)) n)%2=1:=by
 have one:∀x y,bh (qG (gr n (tr p (a,b))) a b) x y↔bh (qG (gr n p) a b) x y:=fun x y=>by have h:=R6 (p:=p) (S:=fun _ _=>False) ha hb (x:=x) (y:=y);have e:∀q:Nat->Nat,(fun x y=>gr n q x y\/False)=gr n q:=fun q=>funext fun x=>funext fun y=>propext af;rw[e,e] at h;exact h
 have kj:K (bh (qG (gr n (tr p (a,b))) a b)) n=K (bh (qG (gr n p) a b)) n:=Hs one n;rcases Classical.em (bh (gr n p) a b) with c|c
 .have k1:=Rx c n;have k2:=Rw ha hb (at4 h iR c);omega
 have k1:=Rw ha hb c;have k2:=Rx (ag0 h ha hb c) n;omega
theorem ahA{n:Nat}:∀(ts:List (Nat×Nat)) (p:Nat->Nat),Perm n p->(∀t∈ts,t.1<n/\t.2<n/\t.1≠t.2)->(K (bh (gr n (ts.foldl tr p))) n+K (bh (gr n p)) n+ts.length)%2=0:=by
 intro ts
 induction ts with
 |nil=>intro p _ _;simp only[List.foldl_nil,dN];omega
 |cons t ts ih=>
  intro p hp ht;obtain⟨a,b⟩:=t;obtain⟨ha,hb,iR⟩:=ht (a,b) af
  replace ha:a<n:=ha
  replace hb:b<n:=hb
  replace iR:a≠b:=iR
  have e1:=ih (tr p (a,b)) (hp.tr ha hb) fun t h=>ht t (by simp[h]);have e2:(K (bh (gr n (tr p (a,b)))) n+K (bh (gr n p)) n)%2=1:=K_tr hp ha hb iR;simp only[zZ,cq];omega
def kh(ls:List Let)(x:Nat):Nat:=aT ls (rv x)
def vA(k:Nat):List (Nat×Nat):=(List.range k).map fun e=>(2*e,2*e+1)
theorem aug(q:Nat->Nat):∀k y,(vA k).foldl tr q y=if y<2*k then q (rv y) else q y:=by
 intro k
 induction k with
 |zero=>intro y;rw[if_neg aa];rfl
 |succ k ih=>
  intro y;have e:vA (k+1)=vA k++[(2*k,2*k+1)]:=by unfold vA;rw[w8,km];rfl
  rw[e,BA,zZ,List.foldl_nil,Ra];by_cases c1:y=2*k
  .subst c1;rw[if_pos rfl,ih,if_neg aa,if_pos aa,vv]
  rw[if_neg c1];by_cases c2:y=2*k+1
  .subst c2;rw[if_pos rfl,ih,if_neg aa,if_pos aa,Bh]
  rw[if_neg c2,ih];by_cases c3:y<2*k
  .rw[if_pos c3,if_pos aa]
  rw[if_neg c3,if_neg aa]
theorem bh.push{R R':Nat->Nat->Prop}{f:Nat->Nat}(h:∀a b,R a b->bh R' (f a) (f b)){y:Nat}(e:bh R x y):bh R' (f x) (f y):=by
 induction e with
 |rel r=>exact h _ _ r
 |refl a=>exact .refl _
 |symm _ ih=>exact ih.symm
 |trans _ _ i1 i2=>exact i1.trans i2
section
variable {F:Nat} {ls:List Let}
theorem WV(ok:eS F ls):Perm (nD ls) (kh ls):=by
 have m:=maps ok;have hN:=GH ls;have hr:∀y,y<nD ls->rv y<nD ls:=fun y hy=>by rw[hN] at hy ⊢;exact Bi hy
 refine⟨fun y hy=>m.lt _ (hr y hy),fun x y hx hy e=>?_⟩;have:=m.inj _ _ (hr x hx) (hr y hy) e;rw[<- Bj x,this,Bj]
abbrev E2(ls:List Let):Nat:=ls.length+(aE ls).length
theorem afX{y:Nat}(hy:y<nD ls):(vA (E2 ls)).foldl tr (kh ls) y=aT ls y:=by rw[aug,if_pos (by rw[GH] at hy;exact hy)];unfold kh;rw[Bj]
theorem ame(x y:Nat):bh (gr (nD ls) ((vA (E2 ls)).foldl tr (kh ls))) x y↔bh (gr (nD ls) (aT ls)) x y:=
 ⟨bh.mono fun a b r=>by obtain⟨h,rfl⟩:=r;exact .rel ⟨h,afX h⟩,bh.mono fun a b r=>by obtain⟨h,rfl⟩:=r;exact .rel ⟨h,(afX h).symm⟩⟩
theorem ag2{k:Nat}:∀t∈vA k,t.1<2*k/\t.2<2*k/\t.1≠t.2:=by intro t ht;obtain⟨e,he,rfl⟩:=dq.1 ht;have:=fm.1 he;refine⟨?_,?_,?_⟩<;>simp only<;>omega
theorem ahx(ok:eS F ls):K (bh (gr (nD ls) (aT ls))) (nD ls)=mh ls:=by
 obtain⟨iS,ab6⟩:=Kh (aT ls) (nD ls);have rS:∀w∈js (aT ls) (nD ls),w≠[]:=fun w hw=>by obtain⟨⟨d,t,e,_⟩,_⟩:=NN ok w hw;rw[e];simp
 have hlen:((js (aT ls) (nD ls)).map (·.headD 0)).length=mh ls:=by rw[cF];rfl
 refine Nat.le_antisymm ?_ ?_
 .rw[<- hlen];refine XJ fun x hx=>?_;obtain⟨w,hw,EC⟩:=Hm.1 (ab6 x hx);obtain⟨⟨d,t,e,_⟩,_⟩:=NN ok w hw;refine⟨w.headD 0,dq.2 ⟨w,hw,rfl⟩,?_⟩;exact Xw (maps ok) (R:=gr (nD ls) (aT ls)) (fun y hy=>.rel ⟨hy,rfl⟩) hw EC (by rw[e];simp)
 rw[<- hlen];refine XI (f:=Dp (js (aT ls) (nD ls))) ?_ (fun x hx=>?_) ?_
 .rintro a b ⟨ha,rfl⟩
  obtain⟨u,hu,hau⟩:=Hm.1 (ab6 a ha);obtain⟨i,hi⟩:=jD hu;rw[NO iS hi hau,NO iS hi (Fe (maps ok) hu hau)]
 .obtain⟨w,hw,rfl⟩:=dq.1 hx;obtain⟨⟨d,t,e,hd⟩,_⟩:=NN ok w hw;rw[e];simp only[List.headD_cons];have:nD ls=2*ls.length+2*(aE ls).length:=rfl;omega
 rw[anH iS rS];exact Fj
abbrev ET(ls:List Let):Nat->Nat->Prop:=gr (nD ls) (kh ls)
theorem R9{v:Nat}(hv:v<ls.length)(g:Bool):dD ls.length v g<nD ls:=by have h:=BM hv (!g);rw[<- Df] at h;have:=Bi h;rw[Bj] at this;have:nD ls=2*ls.length+2*(aE ls).length:=rfl;omega
theorem afU(v:Nat)(g:Bool):kh ls (dD ls.length v g)=aT ls (iX ls.length v (!g)):=by unfold kh;rw[Df]
theorem arV(ok:eS F ls){v:Nat}(hv:v<ls.length):bh (ET ls) (dD ls.length v true) (dD ls.length v false):=by
 obtain⟨l,hl⟩:=aK hv;have st:=agQ ok hv false;have:kh ls (kh ls (dD ls.length v true))=dD ls.length v false:=by rw[afU];exact st
 have p:=WV ok;rw[<- this];exact(bh.rel ⟨R9 hv true,rfl⟩).trans (.rel ⟨p.lt _ (R9 hv true),rfl⟩)
theorem QJ(ok:eS F ls){v:Nat}(hv:v<ls.length)(g h:Bool):bh (ET ls) (dD ls.length v g) (dD ls.length v h):=by
 have e:=arV ok hv;cases g<;>cases h
 .exact .refl _
 .exact e.symm
 .exact e
 exact .refl _
theorem arW(ok:eS F ls){v:Nat}{l:Let}(hl:ls[v]?=some l)(hc:l.aC=true):bh (ET ls) (dD ls.length v true) (dD ls.length (ib ls v) true):=by
 obtain⟨h1,m,hm,mc,mi,mo,ms⟩:=rl ok.cr hl hc;have hv:=(aS.1 hl).1;have hw:=(aS.1 hm).1;have:kh ls (dD ls.length v true)=dD ls.length (ib ls v) (false==(l.over==(l.sign==1))):=by rw[afU,Br hl hc];rfl
 exact(bh.rel ⟨R9 hv true,this.symm⟩).trans (QJ ok hw _ _)
theorem arU(ok:eS F ls){k:Nat}(hk:k<(aE ls).length):bh (ET ls) (2*ls.length+2*k) (dD ls.length ((aE ls).getD k 0) true):=by
 have aw:2*ls.length+2*k<nD ls:=by unfold nD;omega
 obtain⟨l,h1,h2⟩:=Fy hk;have hv:=(aS.1 h1).1;have:kh ls (2*ls.length+2*k)=dD ls.length ((aE ls).getD k 0) (dn ls ((aE ls).getD k 0)):=by unfold kh;rw[show 2*ls.length+2*k=2*(ls.length+k) by omega,vv,show 2*(ls.length+k)+1=2*ls.length+2*k+1 by omega,Ka]
 exact(bh.rel ⟨aw,this.symm⟩).trans (QJ ok hv _ _)
theorem arT(ok:eS F ls){k:Nat}(hk:k<(aE ls).length):bh (ET ls) (2*ls.length+2*k+1) (dD ls.length ((aE ls).getD ((k+1)%(aE ls).length) 0) true):=by
 have aw:2*ls.length+2*k+1<nD ls:=by unfold nD;omega
 obtain⟨l,h1,h2⟩:=Fy (dQ (k+1) (show 0<(aE ls).length by omega));have hv:=(aS.1 h1).1;have:kh ls (2*ls.length+2*k+1)=dD ls.length ((aE ls).getD ((k+1)%(aE ls).length) 0) (!dn ls ((aE ls).getD ((k+1)%(aE ls).length) 0)):=by unfold kh;rw[show 2*ls.length+2*k+1=2*(ls.length+k)+1 by omega,Bh,show 2*(ls.length+k)=2*ls.length+2*k by omega,Kb]
 exact(bh.rel ⟨aw,this.symm⟩).trans (QJ ok hv _ _)
theorem arY(ok:eS F ls)(hx:x<nD ls):∃v,v<ls.length/\bh (ET ls) x (dD ls.length v true):=by
 by_cases c:x<2*ls.length
 .have hy:rv x<2*ls.length:=Bi c;obtain⟨v,fw,hv,e⟩:∃v fw,v<ls.length/\rv x=iX ls.length v fw:=⟨_,_,by
   split
   .exact dQ _ aa
   omega,Of hy⟩
  have:x=dD ls.length v (!fw):=by rw[<- ar5,<- e,Bj]
  exact⟨v,hv,by rw[this];exact QJ ok hv _ _⟩
 have hN:nD ls=2*ls.length+2*(aE ls).length:=rfl;have hk:(x-2*ls.length)/2<(aE ls).length:=aa;rcases xf x with h|h
 .obtain⟨l,h1,h2⟩:=Fy hk;refine⟨_,(aS.1 h1).1,?_⟩;have:=arU ok hk;rwa[show 2*ls.length+2*((x-2*ls.length)/2)=x by omega] at this
 obtain⟨l,h1,h2⟩:=Fy (dQ ((x-2*ls.length)/2+1) (show 0<(aE ls).length by omega));refine⟨_,(aS.1 h1).1,?_⟩;have:=arT ok hk;rwa[show 2*ls.length+2*((x-2*ls.length)/2)+1=x by omega] at this
theorem aun(ok:eS F ls):∃L:List Nat,L.length=ay Let.aA ls+ay Let.aC ls/2/\(∀j∈L,j<ls.length)/\(L.map (kS ls)).Nodup/\ ∀v,v<ls.length->∃j∈L,kS ls j=kS ls v:=by
 have hc:=ok.cr;unfold kW at hc;simp only[cH,beq_iff_eq] at hc;obtain⟨L,l1,l2,l3⟩:=aum ok;refine⟨L,l1,l2,l3,fun v hv=>?_⟩
 -- all the names there are
 let A:List (Int×Int):=(aE ls).map (fun i:Nat=>((0:Int),(i:Int)))++(eE ls ls.length).map fun id=>((1:Int),id)
 have hA:A.length=ay Let.aA ls+ay Let.aC ls/2:=by simp only[A,dX,cF,HB,hc.2]
 have nh:∀v,v<ls.length->kS ls v∈A:=fun v hv=>by
  obtain⟨l,hl⟩:=aK hv;unfold kS;rw[hl];rcases ok.kinds l (aU hl) with hp|eV
  .simp only[n9 hp,dx,if_false];exact List.mem_append_left _ (dq.2 ⟨v,uS.2 ⟨l,hl,hp⟩,rfl⟩)
  simp only[eV,if_true];refine Hk _ (dq.2 ⟨l.id,?_,rfl⟩);exact(Gv (aX _)).2 ⟨v,l.over,hv,by rw[IK hl eV];simp⟩
 refine Classical.byContradiction fun dz=>?_;have hn:kS ls v∉L.map (kS ls):=fun h=>by obtain⟨j,hj,e⟩:=dq.1 h;exact dz ⟨j,hj,e⟩
 have Py:∀(X Y:List (Int×Int)),X.Nodup->(∀x∈X,x∈Y)->X.length<=Y.length:=by
  intro X
  induction X with
  |nil=>intro Y _ _;exact bd _
  |cons a X ih=>intro Y hn hs;obtain⟨h1,h2⟩:=sa.1 hn;have ha:=hs a af;have:=ih (Y.erase a) h2 fun x hx=>(List.mem_erase_of_ne (by rintro rfl;exact h1 hx)).2 (hs x (by simp[hx]));rw[List.length_erase_of_mem ha] at this;have:0<Y.length:=NU ha;simp only[cq];omega
 have:=Py (kS ls v::L.map (kS ls)) A (sa.2 ⟨hn,l3⟩) fun x hx=>by
  rcases cM.1 hx with rfl|hx
  .exact nh v hv
  obtain⟨j,hj,rfl⟩:=dq.1 hx;exact nh j (l2 j hj)
 rw[cq,cF,l1,hA] at this;omega
theorem aup(ok:eS F ls){u v:Nat}(hu:u<ls.length)(hv:v<ls.length)(e:kS ls u=kS ls v):bh (ET ls) (dD ls.length v true) (dD ls.length u true):=by
 obtain⟨l,hl⟩:=aK hu;obtain⟨m,hm⟩:=aK hv;unfold kS at e;rw[hl,hm] at e;simp only at e;cases cl:l.aC<;>cases cm:m.aC
 .simp only[cl,cm,dx,if_false,ko,true_and] at e;have:u=v:=aa;subst this;exact .refl _
 .simp[cl,cm] at e
 .simp[cl,cm] at e
 simp only[cl,cm,if_true,ko,true_and] at e;have eV:=ok.cr;have hp:GK ls:=by unfold kW at eV;simp only[cH,beq_iff_eq,jf,fm] at eV;exact(Hc.1 eV.1.2).2
 by_cases Gs:u=v
 .subst Gs;exact .refl _
 obtain⟨h1,w,hw,wc,wi,wo,ws⟩:=rl ok.cr hm cm;have:ib ls v=u:=by refine Classical.byContradiction fun aF=>?_;have d1:=(hp _ _ w l hw hl wc cl (by rw[wi,e]) aF).1;have d2:=(hp _ _ l m hl hm cl cm e Gs).1;rw[wo] at d1;revert d1 d2;cases l.over<;>cases m.over<;>simp
 have:=arW ok hm cm;rwa[‹ib ls v=u›] at this
theorem ahz(ok:eS F ls):K (bh (ET ls)) (nD ls)=ay Let.aA ls+ay Let.aC ls/2:=by
 obtain⟨L,l1,l2,l3,l4⟩:=aun ok;have hN:=GH ls;have hN':nD ls=2*ls.length+2*(aE ls).length:=rfl;have IX:∀y,y<nD ls->rv y<nD ls:=fun y hy=>by rw[hN] at hy ⊢;exact Bi hy
 have hlen:(L.map (2* ·)).length=ay Let.aA ls+ay Let.aC ls/2:=by rw[cF,l1]
 refine Nat.le_antisymm ?_ ?_
 .rw[<- hlen];refine XJ fun x hx=>?_;obtain⟨v,hv,e⟩:=arY ok hx;obtain⟨j,hj,ej⟩:=l4 v hv;exact⟨2*j,dq.2 ⟨j,hj,rfl⟩,e.trans (aup ok (l2 j hj) hv ej)⟩
 rw[<- hlen];refine XI (f:=fun x=>kS ls (xP ls (rv x))) ?_ (fun x hx=>?_) ?_
 .rintro a b ⟨ha,rfl⟩
  exact(aui ok (IX a ha)).1.symm
 .obtain⟨j,hj,rfl⟩:=dq.1 hx;have:=l2 j hj;omega
 rw[ti];have:L.map ((fun x=>kS ls (xP ls (rv x))) ∘ (2* ·))=L.map (kS ls):=vH fun j hj=>by have:=Ma (ls:=ls) (l2 j hj) false;simp only[Function.comp_apply,vv];rw[show 2*j+1=iX ls.length j false from rfl,this]
 rw[this];exact l3
theorem apS(ok:eS F ls):K (bh (xC (nD ls) (kh ls) (vA (E2 ls)))) (nD ls)<=1:=by
 refine ahy fun x hx=>?_;obtain⟨b,hb⟩:=al5 (p:=fun _=>false) (fun _=>rfl) ok hx;have h:=hb 0 ae;have:=h.push (R':=xC (nD ls) (kh ls) (vA (E2 ls))) (f:=fun y=>y/2) ?_
 .have hf:fx b 0<2:=OY ae;rw[show(2*x+0)/2=x by omega,show fx b 0/2=0 by omega] at this;exact this
 intro u v r;rcases r with ⟨hu,rfl⟩|r
 .refine .rel (.inl ⟨aa,?_⟩);unfold sgC kh fx;simp only[dx,if_false];omega
 refine .rel (.inr ?_);obtain⟨e,he,hm⟩:=List.mem_flatMap.1 r;have oZ:(2*e,2*e+1)∈vA (E2 ls):=dq.2 ⟨e,he,rfl⟩;simp only[cM,iO,or_false,ko] at hm;rcases hm with ⟨rfl,rfl⟩|⟨rfl,rfl⟩
 .rw[R7];simp only[dx,if_false];rw[show 4*e/2=2*e by omega,show(4*e+2)/2=2*e+1 by omega];exact oZ
 rw[R8];simp only[dx,if_false];rw[show(4*e+1)/2=2*e by omega,show(4*e+3)/2=2*e+1 by omega];exact oZ
theorem alg(ok:eS F ls):mh ls<=ay Let.aA ls+ay Let.aC ls/2+2/\(mh ls+(ay Let.aA ls+ay Let.aC ls/2))%2=0:=by
 have hN:=GH ls;have e1:=akS (vA (E2 ls)) (kh ls) (WV ok) fun t ht=>by have:=ag2 t ht;rw[hN];exact⟨this.1,this.2.1⟩
 have e2:=ahA (vA (E2 ls)) (kh ls) (WV ok) fun t ht=>by have:=ag2 t ht;rw[hN];exact this
 have hl:(vA (E2 ls)).length=ls.length+(aE ls).length:=by simp[vA]
 rw[Hs ame,ahx ok,show K (bh (gr (nD ls) (kh ls))) (nD ls)=_ from ahz ok,hl] at e1 e2;have h1:=apS ok;have hPC:=ad5 ok;have nL:=HB (ls:=ls);have eV:=ok.cr;unfold kW at eV;simp only[cH,beq_iff_eq] at eV;have dL:=eV.1.1;omega
end
structure dS where
 l:Nat
 r:Nat
 b:Bool
structure aN where
 p:Pc
 i:dS
 o:dS
abbrev aN.k(x:aN):Let:=x.p.l
def jE:dS->List aN->dS->Prop
 |s,[],t=>s=t
 |s,x::r,t=>x.i=s/\jE x.o r t
theorem Nq{s t:dS}{a b:List aN}:jE s (a++b) t↔ ∃m,jE s a m/\jE m b t:=by
 induction a generalizing s with
 |nil=>exact⟨fun h=>⟨s,rfl,h⟩,fun⟨m,h1,h2⟩=>by cases h1;exact h2⟩
 |cons x a ih=>show(x.i=s/\jE x.o (a++b) t)↔_;rw[ih];exact⟨fun⟨h,m,h1,h2⟩=>⟨m,⟨h,h1⟩,h2⟩,fun⟨m,⟨h,h1⟩,h2⟩=>⟨h,m,h1,h2⟩⟩
theorem aqd{s:dS}{a b:List aN}(h:jE s (a++b) s):∃m,jE m (b++a) m:=by obtain⟨m,h1,h2⟩:=Nq.1 h;exact⟨m,Nq.2 ⟨s,h2,h1⟩⟩
structure X4 (g:Bool) (i o j q:dS):Prop where
 a:if g then i.l=q.l else i.l=j.r
 b:if g then o.r=j.r else o.r=q.l
 c:if g then j.l=i.r else j.l=o.l
 d:if g then q.r=o.l else q.r=i.r
def gX (l:Let):Bool:=l.over==(l.sign==1)
structure Xc (x y:aN):Prop where
 ov:x.k.over= !y.k.over
 sg:x.k.sign=y.k.sign
 x4:X4 (gX x.k) x.i x.o y.i y.o
theorem Xc.symm{x y:aN}(h:Xc x y):Xc y x:=by
 obtain⟨h1,h2,a,b,c,d⟩:=h;have e:gX y.k= !gX x.k:=by unfold gX;rw[h1,h2];cases y.k.over<;>cases (y.k.sign==1)<;>rfl
 refine⟨by rw[h1];simp,h2.symm,?_⟩;rw[e];cases hg:gX x.k
 .rw[hg] at a b c d;simp only[dx,if_false] at a b c d;constructor<;>simp only[Bool.not_false,if_true]
  .exact c
  .exact d
  .exact a
  exact b
 rw[hg] at a b c d;simp only[if_true] at a b c d;constructor<;>simp only[Bx,dx,if_false]
 .exact c
 .exact d
 .exact a
 exact b
def iF(s:dS):dS:=⟨s.r,s.l,s.b⟩
def aN.up(x:aN):dS:=if x.p.d then x.i else iF x.o
def aN.lo(x:aN):dS:=if x.p.d then x.o else iF x.i
structure yq (F:Nat) (x:aN):Prop where
 bad:dj F x.k=false
 cb:x.k.aC=true->x.i.b=x.o.b
 pb:x.k.aA=true->x.o.b=x.p.d/\x.i.b= !x.p.d
def Xr (x y:aN):Prop:=x.k.aC=true->y.k.aC=true->x.k.id=y.k.id->Xc x y
theorem Xr.symm{x y:aN}(h:Xr x y):Xr y x:=fun a b c=>(h b a c.symm).symm
def Dr (x y:aN):Prop:=x.k.aA=true->y.k.aA=true->x.k.gate=y.k.gate->x.k.aB≠y.k.aB
theorem Dr.symm{x y:aN}(h:Dr x y):Dr y x:=fun a b c d=>h b a c.symm d.symm
structure GM (T B:Nat->Nat->Nat) (x:aN):Prop where
 wt:x.up.r=T x.k.gate.toNat (x.k.aB.toNat-1)
 et:x.up.l=T x.k.gate.toNat x.k.aB.toNat
 wb:x.lo.r=B x.k.gate.toNat (x.k.aB.toNat-1)
 eb:x.lo.l=B x.k.gate.toNat x.k.aB.toNat
abbrev aO(z:List aN):List Let:=z.map aN.k
structure Cz (F:Nat) (z:List aN) (T B:Nat->Nat->Nat) (S:List Nat):Prop where
 path:∃s,jE s z s
 ok:∀x∈z,yq F x
 cr:z.Pairwise Xr
 ev:ay Let.aC (aO z)%2=0
 ids:∀x∈z,x.k.aC=true->1<=x.k.id/\x.k.id<=((ay Let.aC (aO z)/2:Nat):Int)
 rk:z.Pairwise Dr
 rr:∀x∈z,x.k.aA=true->1<=x.k.aB/\x.k.aB<=(cg (aO z) x.k.gate.toNat:Int)
 pl:∀x∈z,x.k.aA=true->GM T B x
 gt:∀g,g<F->T g (cg (aO z) g)=T (g+1) 0/\B g (cg (aO z) g)=B (g+1) 0
 gz:T F (cg (aO z) F)=T 0 0/\B F (cg (aO z) F)=B 0 0
 one:∃x∈z,x.k.aA=true
 nd:S.Nodup
 wit:∀s∈S,∃x∈z,s=x.o.l\/s=x.o.r
 num:ay Let.aA (aO z)+ay Let.aC (aO z)/2+1<=S.length
def Cert(F:Nat)(l:List Pc):Prop:= ∃z T B S,z.map aN.p=l/\Cz F z T B S
theorem B0{p:Let->Bool}{z z':List aN}(h:z.Perm z'):ay p (aO z)=ay p (aO z'):=(h.map aN.k).countP_eq p
theorem Cz.perm{z z':List aN}{T B:Nat->Nat->Nat}{S:List Nat}(c:Cz F z T B S)(h:z.Perm z')(hp:∃s,jE s z' s):Cz F z' T B S:=by
 have hm:∀ {x},x∈z'↔x∈z:=fun {x}=>h.symm.mem_iff;have e:∀p,ay p (aO z')=ay p (aO z):=fun p=>(B0 h).symm;have eg:∀g,cg (aO z') g=cg (aO z) g:=fun g=>e _;refine⟨hp,fun x hx=>c.ok x (hm.1 hx),(h.pairwise_iff fun {x y}=>Xr.symm).1 c.cr,by rw[e];exact c.ev,fun x hx=>by rw[e];exact c.ids x (hm.1 hx),(h.pairwise_iff fun {x y}=>Dr.symm).1 c.rk,
  fun x hx=>by rw[eg];exact c.rr x (hm.1 hx),fun x hx=>c.pl x (hm.1 hx),fun g hg=>by rw[eg];exact c.gt g hg,by rw[eg];exact c.gz,?_,c.nd,fun s hs=>?_,by rw[e,e];exact c.num⟩
 .obtain⟨x,hx,h1⟩:=c.one;exact⟨x,hm.2 hx,h1⟩
 obtain⟨x,hx,h1⟩:=c.wit s hs;exact⟨x,hm.2 hx,h1⟩
theorem Cz.kh{a b:List aN}{T B:Nat->Nat->Nat}{S:List Nat}(c:Cz F (a++b) T B S):Cz F (b++a) T B S:=by obtain⟨s,h⟩:=c.path;exact c.perm (List.perm_append_comm) (aqd h)
theorem Cert.kh{a b:List Pc}(c:Cert F (a++b)):Cert F (b++a):=by obtain⟨z,T,B,S,h,c⟩:=c;obtain⟨x,y,rfl,rfl,rfl⟩:=List.map_eq_append_iff.1 h;exact⟨y++x,T,B,S,by rw[km],c.kh⟩
theorem aqb:∀ {z:List aN} {s t:dS},(∀x∈z,yq F x)->jE s z t->s.b=false->t.b=true->∃x∈z,x.k.aA=true/\x.p.d=true:=by
 intro z
 induction z with
 |nil=>intro s t _ h h1 h2;cases h;rw[h1] at h2;cases h2
 |cons x z ih=>
  intro s t ok h h1 h2;obtain⟨rfl,h⟩:=h;have ox:=ok x af;by_cases hd:x.k.aA=true/\x.p.d=true
  .exact⟨x,af,hd⟩
  have hb:x.o.b=false:=by
   rcases vQ ox.bad with hp|hc
   .rw[(ox.pb hp).1];cases F7:x.p.d
    .rfl
    exact absurd ⟨hp,F7⟩ hd
   rw[<- ox.cb hc];exact h1
  obtain⟨y,hy,e⟩:=ih (fun x hx=>ok x (by simp[hx])) h hb h2;exact⟨y,by simp[hy],e⟩
theorem Cz.down{z:List aN}{T B:Nat->Nat->Nat}{S:List Nat}(c:Cz F z T B S):∃x∈z,x.k.aA=true/\x.p.d=true:=by
 obtain⟨x,hx,hp⟩:=c.one;cases hd:x.p.d
 .obtain⟨a,b,rfl⟩:=List.append_of_mem hx;have c2:=c.kh;obtain⟨s,h⟩:=c2.path;obtain⟨rfl,h⟩:=h;obtain⟨e1,e2⟩:=(c.ok x af).pb hp;rw[hd] at e1 e2;obtain⟨y,hy,e⟩:=aqb (fun y hy=>c.ok y (by
   rcases eF.1 hy with hy|hy
   .simp[hy]
   simp[hy])) h e1 e2
  refine⟨y,?_,e⟩;rcases eF.1 hy with hy|hy
  .simp[hy]
  simp[hy]
 exact⟨x,hx,hp,hd⟩
theorem QK{l:List Pc}{f:Nat}(hf:f<=l.length):vt l f l.length=(l.drop f++l.take f).map Pc.l:=by
 apply vF;intro i;by_cases hi:i<l.length
 .have h1:(vt l f l.length)[i]?=some (l.getD ((f+i)%l.length) ⟨j9,false⟩).l:=by
   simp[vt,hi]
  rw[h1,fR];by_cases h2:f+i<l.length
  .rw[pS (by simp;omega),r9,gD h2];simp[h2]
  rw[mQ (by simp;omega),iC];have h3:(f+i)%l.length=i-(l.length-f):=by rw[Nat.mod_eq_sub_mod aa,gD aa];omega
  have h4:i-(l.length-f)<l.length:=aa;rw[h3,jt,if_pos aa];simp[h4]
 have h1:(vt l f l.length).length=l.length:=by simp[vt]
 rw[lS (by rw[h1];omega),lS (by simp;omega)]
theorem Cert.fin{l:List Pc}(c:Cert F l):∃z T B S x r,z=x::r/\x.k.aA=true/\x.p.d=true/\aO z=mw l/\z.length=l.length/\Cz F z T B S:=by
 obtain⟨z,T,B,S,h,c⟩:=c;subst h;obtain⟨x,hx,hp,hd⟩:=c.down;have hP:∀y:aN,y.k.aA=(y.p.l.kind==1):=fun y=>rfl;obtain⟨j,hj⟩:=jD hx;have mF:=(aS.1 hj).1;have zA:(z.map aN.p)[j]?=some x.p:=by rw[fR,hj];rfl
 obtain⟨f,hf⟩:∃f,qM (z.map aN.p)=some f:=by
  cases h:qM (z.map aN.p) with
  |some f=>exact⟨f,rfl⟩
  |none=>have:=Hh.1 h j (by simpa using mF);rw[Ns zA] at this;unfold C0 at this;rw[hP] at hp;simp[hp,hd] at this
 have h1:=Kr hf;have h2:f<z.length:=by
  have:=Fi hf
  simpa using this
 obtain⟨y,hy⟩:=aS.2 ⟨h2,rfl⟩ |> fun h=>(⟨_,h⟩:∃y,z[f]?=some y)
 have hyp:(z.map aN.p)[f]?=some y.p:=by rw[fR,hy];rfl
 rw[Ns hyp] at h1;unfold C0 at h1;rw[cH] at h1;have hz:z=z.take f++y::z.drop (f+1):=by obtain⟨hl,e⟩:=aS.1 hy;rw[<- e,tg,kG]
 have zq:z.drop f=y::z.drop (f+1):=by obtain⟨hl,e⟩:=aS.1 hy;rw[<- e,tg]
 refine⟨y::z.drop (f+1)++z.take f,T,B,S,y,z.drop (f+1)++z.take f,rfl,h1.1,h1.2,?_,?_,?_⟩
 .unfold mw;rw[hf,mS,QK (by rw[cF];omega),<- zq];simp only[km,List.map_drop,Hj,ti];rfl
 .rw[<- zq,dX,iC,eQ,cF];omega
 rw[hz] at c;exact c.kh
theorem aj3{ls:List Let}(he:ay Let.aC ls%2=0)(hi:VS ls)(hp:GK ls):kW ls=true:=by
 rw[SQ he (Hc.2 ⟨hi,hp⟩)];have MO:=Xf ls;have hle:∀id∈eE ls ls.length,ay (uC id) ls<=2:=fun id _=>by rw[PK id];have:=Ax hp id true;have:=Ax hp id false;omega
 have h1:=agR (f:=fun id=>ay (uC id) ls) _ hle;have h2:(eE ls ls.length).length<=ay Let.aC ls/2:=by
  have hr:∀id∈eE ls ls.length,1<=id/\id<=((ay Let.aC ls/2:Nat):Int):=fun id hid=>by obtain⟨j,o,hj,hh⟩:=(Gv (aX _)).1 hid;obtain⟨m,hm,mc,mi,_⟩:=Ay hh;rw[<- mi];exact hi m (aU hm) mc
  have:=JV ((eE ls ls.length).map Int.toNat) (List.range' 1 (ay Let.aC ls/2)) ?_ ?_
  .rwa[cF,List.length_range'] at this
  .refine yG.2 (List.Pairwise.imp_of_mem (fun {a b} ha hb h e=>h ?_) (PB ls ls.length));have:=hr a ha;have:=hr b hb;omega
  intro x hx;obtain⟨id,hid,rfl⟩:=dq.1 hx;have:=hr id hid;rw[List.mem_range'_1];omega
 simp only[beq_iff_eq];omega
theorem Nr{s t:dS}{z:List aN}{x:aN}(h:jE s z t)(hx:z[0]?=some x):x.i=s:=by
 cases z with
 |nil=>cases hx
 |cons y z=>cases hx;exact h.1
theorem afj:∀ {z:List aN} {s t:dS} {i:Nat} {x y:aN},jE s z t->z[i]?=some x->z[i+1]?=some y->x.o=y.i:=by
 intro z
 induction z with
 |nil=>intro s t i x y _ hx;cases hx
 |cons a z ih=>
  intro s t i x y h hx hy;cases i with
  |zero=>cases hx;exact(Nr h.2 hy).symm
  |succ i=>exact ih h.2 hx hy
theorem afh:∀ {z:List aN} {s t:dS} {x:aN},jE s z t->z[z.length-1]?=some x->x.o=t:=by
 intro z
 induction z with
 |nil=>intro s t x _ hx;cases hx
 |cons a z ih=>
  intro s t x h hx;cases z with
  |nil=>cases hx;exact h.2
  |cons b z=>exact ih h.2 hx
theorem afg{z:List aN}{s:dS}{j:Nat}{x y:aN}(h:jE s z s)(hx:z[j]?=some x)(hy:z[(j+1)%z.length]?=some y):x.o=y.i:=by
 have hj:=(aS.1 hx).1;by_cases c:j+1<z.length
 .rw[gD c] at hy;exact afj h hx hy
 have:j+1=z.length:=aa;rw[this,yH] at hy;rw[afh h (by rw[<- this];exact hx),Nr h hy]
theorem A6{z:List aN}{i:Nat}{x:aN}(h:z[i]?=some x):(aO z)[i]?=some x.k:=by rw[fR,h];rfl
theorem CV{z:List aN}{i:Nat}{l:Let}(h:(aO z)[i]?=some l):∃x,z[i]?=some x/\x.k=l:=by rw[fR,dC] at h;exact h
theorem Ww{z:List aN}{s t:dS}(ok:∀x∈z,yq F x)(h:jE s z t)(hs:s.b=false):∀i x,z[i]?=some x->x.i.b= !dn (aO z) i/\x.o.b= !dn (aO z) (i+1):=by
 have step:∀i x,z[i]?=some x->x.i.b=(!dn (aO z) i)->x.o.b= !dn (aO z) (i+1):=fun i x hx hb=>by
  have ox:=ok x (aU hx);rcases vQ ox.bad with hp|hc
  .rw[KV (A6 hx) hp,Bool.not_not,(ox.pb hp).1];have:=(ox.pb hp).2;rw[hb] at this;revert this;cases dn (aO z) i<;>cases x.p.d<;>simp
  rw[KW (A6 hx) (by
   cases hp:x.k.aA
   .rfl
   rw[n9 hp] at hc;cases hc),<- hb,ox.cb hc]
 intro i
 induction i with
 |zero=>
  intro x hx;have:x.i.b= !dn (aO z) 0:=by rw[Nr h hx,hs];rfl
  exact⟨this,step 0 x hx this⟩
 |succ i ih=>intro y hy;obtain⟨x,hx⟩:=aK (ls:=z) (k:=i) (by have:=(aS.1 hy).1;omega);have e:=(ih x hx).2;rw[afj h hx hy] at e;exact⟨e,step (i+1) y hy e⟩
theorem afo{ls:List Let}{f:Nat->Nat->Nat}(hf:∀g,g<F->f g (cg ls g)=f (g+1) 0):∀(d g k g' k':Nat),g'=g+d->g'<=F->k<=cg ls g->k'<=cg ls g'->fv ls g+k=fv ls g'+k'->f g k=f g' k':=by
 intro d
 induction d with
 |zero=>intro g k g' k' e _ _ _ h;rw[se] at e;subst e;rw[show k=k' by omega]
 |succ d ih=>intro g k g' k' e hF hk qT h;have hm:=Aj (ls:=ls) (show g+1<=g' by omega);have hs:=tC ls g;have:k=cg ls g:=aa;subst this;rw[hf g aa];exact ih (g+1) 0 g' k' aa hF (bd _) qT aa
theorem WB{ls:List Let}{f:Nat->Nat->Nat}(hf:∀g,g<F->f g (cg ls g)=f (g+1) 0){g k g' k':Nat}(hg:g<=F)(Cw:g'<=F)(hk:k<=cg ls g)(qT:k'<=cg ls g')(h:fv ls g+k=fv ls g'+k'):f g k=f g' k':=by
 rcases Nat.le_total g g' with c|c
 .exact afo hf (g'-g) g k g' k' aa Cw hk qT h
 exact(afo hf (g-g') g' k' g k aa hg qT hk h.symm).symm
def noE:aN:=⟨⟨j9,false⟩,⟨0,0,false⟩,⟨0,0,false⟩⟩
def nW(z:List aN)(x:Nat):Nat:=
 if x<2*z.length then (if x%2=0 then (z.getD (x/2) noE).o.l else (z.getD (x/2) noE).o.r)
 else if x%2=0 then (z.getD ((aE (aO z)).getD ((x-2*z.length)/2) 0) noE).up.l else (z.getD ((aE (aO z)).getD ((x-2*z.length)/2) 0) noE).lo.l
theorem DY{z:List aN}{i:Nat}{x:aN}(h:z[i]?=some x):z.getD i noE=x:=by rw[de,h];rfl
section
variable {F:Nat} {z:List aN} {s:dS}
theorem V9(h:jE s z s){v:Nat}{x:aN}(hx:z[v]?=some x)(g:Bool):nW z (dD z.length v g)=if g then x.o.l else x.i.r:=by
 have hv:=(aS.1 hx).1;cases g with
 |true=>show nW z (2*v)=_;unfold nW;rw[if_pos aa,if_pos aa,show 2*v/2=v by omega,DY hx];rfl
 |false=>show nW z (2*((v+z.length-1)%z.length)+1)=_;have hm:=dQ (v+z.length-1) (show 0<z.length by omega);obtain⟨y,hy⟩:=aK (ls:=z) hm;have e:=afg h hy (by rw[wP hv];exact hx);unfold nW;rw[if_pos aa,if_neg aa,show(2*((v+z.length-1)%z.length)+1)/2=(v+z.length-1)%z.length by omega,DY hy,e];rfl
theorem aou(h:jE s z s){v:Nat}{x:aN}(hx:z[v]?=some x)(g:Bool):nW z (iX z.length v g)=if g then x.i.l else x.o.r:=by
 have hv:=(aS.1 hx).1;cases g with
 |false=>show nW z (2*v+1)=_;unfold nW;rw[if_pos aa,if_neg aa,show(2*v+1)/2=v by omega,DY hx];rfl
 |true=>show nW z (2*((v+z.length-1)%z.length))=_;have hm:=dQ (v+z.length-1) (show 0<z.length by omega);obtain⟨y,hy⟩:=aK (ls:=z) hm;have e:=afg h hy (by rw[wP hv];exact hx);unfold nW;rw[if_pos aa,if_pos aa,show(2*((v+z.length-1)%z.length))/2=(v+z.length-1)%z.length by omega,DY hy,e];rfl
theorem adX{k v:Nat}{x:aN}(ha:(aE (aO z)).getD k 0=v)(hx:z[v]?=some x):nW z (2*z.length+2*k)=x.up.l:=by unfold nW;rw[if_neg aa,if_pos aa,show(2*z.length+2*k-2*z.length)/2=k by omega,ha,DY hx]
theorem adW{k v:Nat}{x:aN}(ha:(aE (aO z)).getD k 0=v)(hx:z[v]?=some x):nW z (2*z.length+2*k+1)=x.lo.l:=by unfold nW;rw[if_neg aa,if_neg aa,show(2*z.length+2*k+1-2*z.length)/2=k by omega,ha,DY hx]
theorem Cz.Qp{T B:Nat->Nat->Nat}{S:List Nat}(c:Cz F z T B S){i j:Nat}{x y:aN}(hx:z[i]?=some x)(hy:z[j]?=some y)(fL:i≠j):Xr x y/\Dr x y:=by
 obtain⟨hi,ex⟩:=aS.1 hx;obtain⟨hj,ey⟩:=aS.1 hy;subst ex ey;rcases Nat.lt_or_gt_of_ne fL with h|h
 .exact⟨NX.1 c.cr i j hi hj h,NX.1 c.rk i j hi hj h⟩
 exact⟨(NX.1 c.cr j i hj hi h).symm,(NX.1 c.rk j i hj hi h).symm⟩
theorem Cz.eU{T B:Nat->Nat->Nat}{S:List Nat}(c:Cz F z T B S){x:aN}(hx:x∈z)(hp:x.k.aA=true):uw F (aO z) x.k:=by obtain⟨⟨⟨⟨g0,g1⟩,_⟩,_⟩,_⟩:=(r4 hp).1 (c.ok x hx).bad;obtain⟨r0,r1⟩:=c.rr x hx hp;exact⟨g0,g1,r0,r1⟩
theorem Cz.dg{T B:Nat->Nat->Nat}{S:List Nat}(c:Cz F z T B S)(hl:z.length<=1000000):eS F (aO z):=by
 refine⟨by rw[cF];exact hl,⟨fun l hl hp=>?_,fun i j l m hi hj pl pm e=>?_⟩,aj3 c.ev (fun l hl hc=>?_) (fun i j l m hi hj cl cm e fL=>?_),fun l hl=>?_⟩
 .obtain⟨x,hx,rfl⟩:=dq.1 hl;exact c.eU hx hp
 .obtain⟨x,hx,rfl⟩:=CV hi;obtain⟨y,hy,rfl⟩:=CV hj;refine Decidable.byContradiction fun fL=>?_;obtain⟨h1,h2⟩:=(GO (c.eU (aU hx) pl) (c.eU (aU hy) pm)).1 e;exact(c.Qp hx hy fL).2 pl pm h1 h2
 .obtain⟨x,hx,rfl⟩:=dq.1 hl;exact c.ids x hx hc
 .obtain⟨x,hx,rfl⟩:=CV hi;obtain⟨y,hy,rfl⟩:=CV hj;have:=(c.Qp hx hy fL).1 cl cm e;refine⟨?_,this.sg⟩;rw[this.ov];cases y.k.over<;>simp
 obtain⟨x,hx,rfl⟩:=dq.1 hl;exact vQ (c.ok x hx).bad
theorem Cz.qe{T B:Nat->Nat->Nat}{S:List Nat}(c:Cz F z T B S):qe F (aO z):=fun l hl hp=>by obtain⟨x,hx,rfl⟩:=dq.1 hl;exact((r4 hp).1 (c.ok x hx).bad).1.1.1
theorem Cz.Og{T B:Nat->Nat->Nat}{S:List Nat}(c:Cz F z T B S)(hl:z.length<=1000000){k u v:Nat}{x y:aN}(hu:(aE (aO z))[k]?=some u)(hv:(aE (aO z))[(k+1)%(aE (aO z)).length]?=some v)(hx:z[u]?=some x)(hy:z[v]?=some y):x.up.l=y.up.r/\x.lo.l=y.lo.r:=by
 have ok:=c.dg hl;have hk:=(aS.1 hu).1;obtain⟨l,l1,l2,l3⟩:=BQ ok.ax hu;obtain⟨m,m1,m2,m3⟩:=BQ ok.ax hv;rw[A6 hx] at l1;cases l1;rw[A6 hy] at m1;cases m1;have gx:=c.eU (aU hx) l2;have gy:=c.eU (aU hy) m2;have px:=c.pl x (aU hx) l2;have py:=c.pl y (aU hy) m2;obtain⟨x1,x2,x3,x4⟩:=gx;obtain⟨y1,y2,y3,y4⟩:=gy;have key:∀f:Nat->Nat->Nat,(∀g,g<F->f g (cg (aO z) g)=f (g+1) 0)->f F (cg (aO z) F)=f 0 0->f x.k.gate.toNat x.k.aB.toNat=f y.k.gate.toNat (y.k.aB.toNat-1):=by
  intro f hf hz;unfold dM at l3 m3;by_cases c1:k+1<(aE (aO z)).length
  .rw[gD c1] at m3;exact WB hf aa aa aa aa aa
  have hT:=Fs c.qe;have hs:=tC (aO z) F;have:k+1=(aE (aO z)).length:=aa;rw[this,yH] at m3;rw[WB hf (g:=x.k.gate.toNat) (k:=x.k.aB.toNat) (g':=F) (k':=cg (aO z) F) aa (aX _) aa (aX _) aa,hz];exact WB hf (bd _) aa (bd _) aa (by show 0+0=_;omega)
 exact⟨by rw[px.et,py.wt];exact key T (fun g hg=>(c.gt g hg).1) c.gz.1,by rw[px.eb,py.wb];exact key B (fun g hg=>(c.gt g hg).2) c.gz.2⟩
theorem Cz.walk{T B:Nat->Nat->Nat}{S:List Nat}(c:Cz F z T B S)(hl:z.length<=1000000)(h:jE s z s)(hs:s.b=false)(hx:x<nD (aO z)):nW z (aT (aO z) x)=nW z x:=by
 have ok:=c.dg hl;have hn:(aO z).length=z.length:=cF ..;have hN:nD (aO z)=2*z.length+2*(aE (aO z)).length:=by unfold nD;rw[hn]
 have fy:=Ww c.ok h hs;by_cases c1:x<2*z.length
 .obtain⟨v,fw,hv,rfl⟩:∃v fw,v<z.length/\x=iX z.length v fw:=⟨_,_,by
   split
   .exact dQ _ aa
   omega,Of c1⟩
  obtain⟨e,he⟩:=aK (ls:=z) hv;have hle:=A6 he;have oe:=c.ok e (aU he);rw[aou h he];rcases vQ oe.bad with hp|hc
  .have hd:dn (aO z) v=e.p.d:=by
    have:=(fy v e he).1;rw[(oe.pb hp).2] at this;revert this;cases e.p.d<;>cases dn (aO z) v<;>simp
   obtain⟨a1,a2⟩:=KB ok hle hp;have t:=NI hle hp fw;rw[hn] at t;rw[t,hd];by_cases c2:(e.p.d==fw)=true
   .rw[if_pos c2,adX a2 he];unfold aN.up;have:=eq_of_beq c2;subst this;cases e.p.d<;>rfl
   rw[if_neg c2];have hm:=dQ ((aE (aO z)).idxOf v+(aE (aO z)).length-1) (show 0<(aE (aO z)).length by omega);obtain⟨u,hu⟩:=aK hm;obtain⟨l,u1,u2⟩:=uS.1 (aU hu);obtain⟨y,hy,rfl⟩:=CV u1;have hv':(aE (aO z))[(aE (aO z)).idxOf v]?=some v:=by obtain⟨q,hq⟩:=aK a1;rw[de,hq] at a2;rw[hq];exact congrArg some a2
   have:=(c.Og hl hu (by rw[wP a1];exact hv') hy he).2;rw[adW (by rw[de,hu];rfl) hy,this];unfold aN.lo;revert c2;cases e.p.d<;>cases fw<;>simp[iF]
  obtain⟨b1,m,hm,mc,mi,mo,ms⟩:=rl ok.cr hle hc;obtain⟨y,hy,rfl⟩:=CV hm;have aF:v≠ib (aO z) v:=by intro ee;rw[<- ee,hle] at hm;have:=qF hm;rw[<- this] at mo;revert mo;cases e.k.over<;>simp
  obtain⟨_,_,xa,xb,xc,xd⟩:=(c.Qp he hy aF).1 hc mc mi.symm;have t:=Br hle hc fw;rw[hn] at t;rw[t,V9 h hy];unfold gX at xa xb;cases hg:(e.k.over==(e.k.sign==1))<;>rw[hg] at xa xb<;>simp only[dx,if_false,if_true] at xa xb<;>cases fw<;>simp_all
 have hk:(x-2*z.length)/2<(aE (aO z)).length:=aa;obtain⟨u,hu⟩:=aK hk;obtain⟨l,u1,u2⟩:=uS.1 (aU hu);obtain⟨e,he,rfl⟩:=CV u1;have hgu:(aE (aO z)).getD ((x-2*z.length)/2) 0=u:=by rw[de,hu];rfl
 rcases xf x with zL|zL
 .have ex:x=2*z.length+2*((x-2*z.length)/2):=aa;have hm:=dQ ((x-2*z.length)/2+1) (show 0<(aE (aO z)).length by omega);obtain⟨w,hw⟩:=aK hm;obtain⟨l,w1,w2⟩:=uS.1 (aU hw);obtain⟨y,hy,rfl⟩:=CV w1;have hgw:(aE (aO z)).getD (((x-2*z.length)/2+1)%(aE (aO z)).length) 0=w:=by rw[de,hw];rfl
  have oy:=c.ok y (aU hy);have hd:dn (aO z) w=y.p.d:=by have:=(fy w y hy).1;rw[(oy.pb w2).2] at this;revert this;cases y.p.d<;>cases dn (aO z) w<;>simp
  have t:=Kb (ls:=aO z) ((x-2*z.length)/2);rw[hn,<- ex] at t;rw[t,hgw,V9 h hy,hd];have a:=(c.Og hl hu hw he hy).1;have r:=adX hgu he;rw[<- ex] at r;rw[r,a];unfold aN.up;cases y.p.d<;>simp[iF]
 have ex:x=2*z.length+2*((x-2*z.length)/2)+1:=aa;have oy:=c.ok e (aU he);have hd:dn (aO z) u=e.p.d:=by have:=(fy u e he).1;rw[(oy.pb u2).2] at this;revert this;cases e.p.d<;>cases dn (aO z) u<;>simp
 have t:=Ka (ls:=aO z) ((x-2*z.length)/2);rw[hn,<- ex] at t;rw[t,hgu,V9 h he,hd];have r:=adW hgu he;rw[<- ex] at r;rw[r];unfold aN.lo;cases e.p.d<;>simp[iF]
theorem Cz.check{T B:Nat->Nat->Nat}{S:List Nat}(c:Cz F z T B S){x:aN}{r:List aN}(hz:z=x::r)(hp:x.k.aA=true)(hd:x.p.d=true)(hl:z.length<=400)(eV:ay Let.aC (aO z)<=200)(hF:F<=40):cN F (aO z)=0:=by
 have ok:=c.dg aa;have hn:(aO z).length=z.length:=cF ..;obtain⟨s,h⟩:=c.path;have nv:z[0]?=some x:=by rw[hz];rfl
 have hs:s.b=false:=by rw[<- Nr h nv,((c.ok x (aU nv)).pb hp).2,hd];rfl
 have fA:0<z.length:=by rw[hz];simp
 have fy:=Ww c.ok h hs;have dL:ay Let.aA (aO z)%2=0:=by
  obtain⟨y,hy⟩:=aK (ls:=z) (k:=z.length-1) aa;have:=(fy _ y hy).2;rw[afh h hy,hs,show z.length-1+1=(aO z).length by rw[hn];omega] at this;unfold dn at this;rw[jh] at this
  simpa using this
 have hnw:mh (aO z)=ay Let.aA (aO z)+ay Let.aC (aO z)/2+2:=by
  obtain⟨b1,b2⟩:=alg ok;have key:∀a∈S,∃d,nW z d=a/\d<2*z.length:=fun a ha=>by
   obtain⟨y,hy,e⟩:=c.wit a ha;obtain⟨j,hj⟩:=jD hy;have mF:=(aS.1 hj).1;rcases e with e|e
   .exact⟨2*j,by unfold nW;rw[if_pos aa,if_pos aa,show 2*j/2=j by omega,DY hj,e],aa⟩
   exact⟨2*j+1,by unfold nW;rw[if_pos aa,if_neg aa,show(2*j+1)/2=j by omega,DY hj,e],aa⟩
  obtain⟨M,m1,m2⟩:=ad8 (P:=fun a d=>nW z d=a/\d<2*z.length) (f:=nW z) (fun a d h=>h.1) key;have hN:nD (aO z)=2*z.length+2*(aE (aO z)).length:=by unfold nD;rw[hn]
  have:=auF (maps ok) (φ:=nW z) (fun y hy=>c.walk aa h hs hy) (reps:=M) (fun d hd=>by obtain⟨_,_,h⟩:=m2 d hd;omega) (by rw[m1];exact c.nd)
  have hM:M.length=S.length:=by rw[<- m1,cF]
  have hnum:=c.num;have:M.length<=mh (aO z):=this;omega
 have aF:aO z≠[]:=by intro e;rw[e] at hn;simp at hn;omega
 unfold cN;rw[if_neg (by rw[hn];omega),if_neg aa,if_neg aF,if_pos];unfold uh;have kz:=(GQ c.qe).2 ⟨ok.ax.eU,ok.ax.inj⟩;have amt:(aO z).any (dj F)=false:=Dt.2 fun l hl=>by obtain⟨y,hy,rfl⟩:=dq.1 hl;rw[(c.ok y hy).bad];decide
 rw[A6 nv,M7.2 ⟨amt,kz,ok.cr⟩,hnw,dL];have hk:(x.k.kind==1)=true:=hp;simp only[hk,beq_self_eq_true,wY]
theorem Cert.check{l:List Pc}(c:Cert F l)(hl:l.length<=400)(eV:ay Let.aC (l.map Pc.l)<=200)(hF:F<=40):cN F (mw l)=0:=by
 obtain⟨w,T,B,S,x,r,hz,hp,hd,AO,hlen,cz⟩:=c.fin;have nu:ay Let.aC (aO w)=ay Let.aC (l.map Pc.l):=by
  rw[AO];have hf:(qM l).getD 0<=l.length:=by
   cases h:qM l with
   |none=>exact bd _
   |some f=>have:=Fi h;simp at this;simp only[mS];omega
  unfold mw;rw[QK hf];show List.countP _ _=List.countP _ _;rw[km,vE,Fk,<- vE,<- km,kG]
 rw[<- AO];exact cz.check hz hp hd aa aa hF
end
def wS(ls:List Let)(x:Nat):Nat:=Dp (js (aT ls) (nD ls)) x
def qC(ls:List Let)(i:Nat):dS:=⟨wS ls (2*i),wS ls (2*i+1),!dn ls (i+1)⟩
def dI(ls:List Let)(i:Nat):aN:=⟨⟨ls.getD i j9,im ls i⟩,qC ls ((i+ls.length-1)%ls.length),qC ls i⟩
def zF (ls:List Let):List aN:=(List.range ls.length).map (dI ls)
def TF (ls:List Let)(g k:Nat):Nat:=wS ls (2*ls.length+2*((fv ls g+k+(aE ls).length-1)%(aE ls).length))
def BF (ls:List Let)(g k:Nat):Nat:=wS ls (2*ls.length+2*((fv ls g+k+(aE ls).length-1)%(aE ls).length)+1)
theorem Dq(ls:List Let):(zF ls).map aN.p=pieces ls:=by unfold zF pieces;rw[ti];rfl
theorem kU(ls:List Let):aO (zF ls)=ls:=by
 have h:aO (zF ls)=(pieces ls).map Pc.l:=by rw[<- Dq,ti];rfl
 rw[h];apply vF;intro i;rw[fR];by_cases hi:i<ls.length
 .obtain⟨l,hl⟩:=aK hi;rw[pL hl,hl];rfl
 rw[lS (by rw[fi];omega),lS aa];rfl
theorem Ko(ls:List Let):(zF ls).length=ls.length:=by simp[zF]
theorem Fg{ls:List Let}{i:Nat}(h:i<ls.length):(zF ls)[i]?=some (dI ls i):=by simp[zF,h]
theorem dU{ls:List Let}{i:Nat}{l:Let}(h:ls[i]?=some l):(dI ls i).k=l:=by show ls.getD i j9=l;rw[de,h];rfl
theorem afi(f:Nat->aN)(e:Nat->dS):∀k a,(∀i,a<=i->i<a+k->(f i).i=e i/\(f i).o=e (i+1))->jE (e a) ((List.range' a k).map f) (e (a+k)):=by
 intro k
 induction k with
 |zero=>intro a _;rfl
 |succ k ih=>intro a h;rw[List.range'_succ,dG];obtain⟨h1,h2⟩:=h a (aX _) aa;refine⟨h1,?_⟩;rw[h2,show a+(k+1)=a+1+k by omega];exact ih (a+1) fun i hi hk=>h i aa aa
theorem Qo{R:aN->aN->Prop}{f:Nat->aN}{n:Nat}(h:∀i j,i<n->j<n->i≠j->R (f i) (f j)):((List.range n).map f).Pairwise R:=yG.2 (List.Pairwise.imp_of_mem (fun {a b} ha hb iR=>h a b (fm.1 ha) (fm.1 hb) iR) (Fj (n:=n)))
section
variable {F:Nat} {ls:List Let}
theorem Wz(g:dr F ls){i:Nat}{w:List Nat}(hi:(js (aT ls) (nD ls))[i]?=some w)(hx:x∈w):wS ls x=i:=NO (Kh _ _).1 hi hx
theorem aqk(g:dr F ls)(hx:x<nD ls):∃w,(js (aT ls) (nD ls))[wS ls x]?=some w/\x∈w:=by obtain⟨u,hu,hxu⟩:=Hm.1 ((Kh (aT ls) (nD ls)).2 x hx);obtain⟨i,hi⟩:=jD hu;rw[Wz g hi hxu];exact⟨u,hi,hxu⟩
theorem ES(g:dr F ls)(hx:x<nD ls):wS ls (aT ls x)=wS ls x:=by obtain⟨w,hw,EC⟩:=aqk g hx;exact Wz g hw (Fe (maps g.ok) (aU hw) EC)
theorem Wy(g:dr F ls){v:Nat}(hv:v<ls.length)(fw:Bool):wS ls (iX ls.length v fw)=if fw then (dI ls v).i.l else (dI ls v).o.r:=by cases fw<;>rfl
theorem Qt{v:Nat}(fw:Bool):wS ls (dD ls.length v fw)=if fw then (dI ls v).o.l else (dI ls v).i.r:=by cases fw<;>rfl
theorem ZG(g:dr F ls):dn ls ls.length=true:=by unfold dn;rw[jh];have:=g.even;simp[this]
theorem VU(g:dr F ls){i:Nat}(hi:i<ls.length):(dI ls i).i.b= !dn ls i:=by
 show(!dn ls ((i+ls.length-1)%ls.length+1))=_;by_cases h:i=0
 .subst h;rw[iD,gD aa,show ls.length-1+1=ls.length by omega,ZG g];rfl
 rw[show i+ls.length-1=(i-1)+ls.length by omega,w9,gD aa,show i-1+1=i by omega]
theorem Hz{v:Nat}(hv:v<ls.length)(fw:Bool):iX ls.length v fw<nD ls:=by have:=BM hv fw;unfold nD;omega
theorem Oz(g:dr F ls){v:Nat}{l:Let}(hl:ls[v]?=some l)(hp:l.aA=true):(dI ls v).p.d=dn ls v:=by show im ls v=_;simp[im,hl,hp]
theorem DR(g:dr F ls){i:Nat}(hi:i<ls.length):yq F (dI ls i):=by
 obtain⟨l,hl⟩:=aK hi;have hk:=dU hl;refine⟨by rw[hk];exact g.bad l (aU hl),fun hc=>?_,fun hp=>?_⟩
 .rw[hk] at hc;rw[VU g hi];show _= !dn ls (i+1);rw[KW hl (by
   cases hp:l.aA
   .rfl
   rw[n9 hp] at hc;cases hc)]
 rw[hk] at hp;rw[VU g hi,Oz g hl hp];refine⟨?_,rfl⟩;show(!dn ls (i+1))=_;rw[KV hl hp,Bool.not_not]
theorem K0(g:dr F ls){i j:Nat}(hi:i<ls.length)(hj:j<ls.length)(fL:i≠j):Xr (dI ls i) (dI ls j):=by
 obtain⟨l,hl⟩:=aK hi;obtain⟨m,hm⟩:=aK hj;intro hc mc e;rw[dU hl] at hc e;rw[dU hm] at mc e;obtain⟨_,hp⟩:=g.ids;obtain⟨d1,d2⟩:=hp i j l m hl hm hc mc e fL;obtain⟨b1,w,hw,wc,wi,wo,ws⟩:=rl g.ok.cr hl hc;have hoj:ib ls i=j:=by refine Classical.byContradiction fun aF=>?_;have d3:=(hp _ _ w m hw hm wc mc (by rw[wi,e]) aF).1;rw[wo] at d3;revert d1 d3;cases l.over<;>cases m.over<;>simp
 refine⟨?_,by rw[dU hl,dU hm];exact d2,?_⟩
 .rw[dU hl,dU hm];revert d1;cases l.over<;>cases m.over<;>simp
 rw[dU hl];have t1:=ES g (Hz hi true);have t2:=ES g (Hz hi false);have t3:=ES g (Hz hj true);have t4:=ES g (Hz hj false);rw[Br hl hc,hoj,Qt,Wy g hi] at t1 t2;rw[Br hm mc,<- hoj,b1,hoj,Qt,Wy g hj] at t3 t4;have hg:(m.over==(m.sign==1))= !gX l:=by unfold gX;rw[<- d2];revert d1;cases l.over<;>cases m.over<;>cases (l.sign==1)<;>simp
 rw[hg] at t3 t4;have Cw:(l.over==(l.sign==1))=gX l:=rfl;rw[Cw] at t1 t2;cases wy:gX l<;>rw[wy] at t1 t2 t3 t4<;>simp at t1 t2 t3 t4<;>constructor<;>simp[t1,t2,t3,t4]
theorem OA(g:dr F ls){v:Nat}{l:Let}(hl:ls[v]?=some l)(hp:l.aA=true):GM (TF ls) (BF ls) (dI ls v):=by
 have hv:=(aS.1 hl).1;have ok:=g.ok;have gd:=ok.ax.eU l (aU hl) hp;obtain⟨g0,g1,r0,r1⟩:=gd;obtain⟨a1,a2⟩:=KB ok hl hp;have Vo:=HC ok.ax hl hp;have hP:fv ls l.gate.toNat+l.aB.toNat=(aE ls).idxOf v+1:=by rw[Vo];unfold dM;omega
 have hPm:fv ls l.gate.toNat+(l.aB.toNat-1)=(aE ls).idxOf v:=aa;have eR:(fv ls l.gate.toNat+l.aB.toNat+(aE ls).length-1)%(aE ls).length=(aE ls).idxOf v:=by rw[hP,show(aE ls).idxOf v+1+(aE ls).length-1=(aE ls).idxOf v+(aE ls).length by omega,w9,gD a1]
 have hk:=dU hl;have hd:=Oz g hl hp;have nR:∀k,k<(aE ls).length->2*ls.length+2*k<nD ls/\2*ls.length+2*k+1<nD ls:=fun k hk=>by unfold nD;omega
 have hm:=dQ ((aE ls).idxOf v+(aE ls).length-1) (show 0<(aE ls).length by omega);have q1:=ES g (Hz hv (dn ls v));have q2:=ES g (Hz hv (!dn ls v));have q3:=ES g (nR _ a1).2;have q4:=ES g (nR _ hm).1;rw[NI hl hp,Wy g hv] at q1 q2;rw[Ka,a2,Qt] at q3;rw[Kb,wP a1,a2,Qt] at q4;constructor
 .rw[hk];unfold TF;rw[hPm];unfold aN.up;rw[hd];cases fy:dn ls v<;>rw[fy] at q4<;>exact q4
 .rw[hk];unfold TF;rw[eR];unfold aN.up;rw[hd];cases fy:dn ls v<;>rw[fy] at q1<;>exact q1.symm
 .rw[hk];unfold BF;rw[hPm];unfold aN.lo;rw[hd];cases fy:dn ls v<;>rw[fy] at q2<;>exact q2.symm
 rw[hk];unfold BF;rw[eR];unfold aN.lo;rw[hd];cases fy:dn ls v<;>rw[fy] at q3<;>exact q3
theorem dr.cz(g:dr F ls):Cz F (zF ls) (TF ls) (BF ls) (List.range (mh ls)):=by
 have hn:0<ls.length:=gV.2 g.ne;have mem:∀x∈zF ls,∃i,i<ls.length/\x=dI ls i:=fun x hx=>by obtain⟨i,hi,rfl⟩:=dq.1 hx;exact⟨i,fm.1 hi,rfl⟩
 have hT:fv ls (F+1)=(aE ls).length:=Fs fun l hl hp=>((r4 hp).1 (g.bad l hl)).1.1.1;have hs:=tC ls F;have hm:0<(aE ls).length:=by obtain⟨l,h1,h2⟩:=g.first;exact NU (uS.2 ⟨l,h1,h2⟩)
 have eV:=g.ok.cr;unfold kW at eV;simp only[cH,beq_iff_eq] at eV;refine⟨⟨qC ls (ls.length-1),?_⟩,fun x hx=>?_,Qo fun i j hi hj fL=>K0 g hi hj fL,by rw[kU];exact eV.1.1,fun x hx hc=>?_,Qo fun i j hi hj fL=>?_,fun x hx hp=>?_,fun x hx hp=>?_,
  fun k hk=>?_,?_,?_,Fj,fun s hs=>?_,?_⟩
 .have:=afi (dI ls) (fun i=>qC ls ((i+ls.length-1)%ls.length)) ls.length 0 fun i _ hi=>⟨rfl,?_⟩
  .simp only[iD] at this;rw[gD aa,show ls.length+ls.length-1=(ls.length-1)+ls.length by omega,w9,gD aa,<- List.range_eq_range'] at this;exact this
  show qC ls i=qC ls ((i+1+ls.length-1)%ls.length);rw[show i+1+ls.length-1=i+ls.length by omega,w9,gD aa]
 .obtain⟨i,hi,rfl⟩:=mem x hx;exact DR g hi
 .obtain⟨i,hi,rfl⟩:=mem x hx;obtain⟨l,hl⟩:=aK hi;rw[dU hl] at hc ⊢;rw[kU];exact g.ids.1 l (aU hl) hc
 .obtain⟨l,hl⟩:=aK hi;obtain⟨m,hm⟩:=aK hj;intro pl pm e1 e2;rw[dU hl] at pl e1 e2;rw[dU hm] at pm e1 e2;exact fL (g.ok.ax.inj i j l m hl hm pl pm ((GO (g.ok.ax.eU l (aU hl) pl) (g.ok.ax.eU m (aU hm) pm)).2 ⟨e1,e2⟩))
 .obtain⟨i,hi,rfl⟩:=mem x hx;obtain⟨l,hl⟩:=aK hi;rw[dU hl] at hp ⊢;rw[kU];obtain⟨_,_,r0,r1⟩:=g.ok.ax.eU l (aU hl) hp;exact⟨r0,r1⟩
 .obtain⟨i,hi,rfl⟩:=mem x hx;obtain⟨l,hl⟩:=aK hi;rw[dU hl] at hp;exact OA g hl hp
 .rw[kU];unfold TF BF;rw[tC ls k,se];exact⟨rfl,rfl⟩
 .rw[kU];unfold TF BF;have e1:fv ls F+cg ls F=(aE ls).length:=aa;have e0:fv ls 0=0:=rfl;rw[e1,e0,iD,show(aE ls).length+(aE ls).length-1=((aE ls).length-1)+(aE ls).length by omega,w9];exact⟨rfl,rfl⟩
 .obtain⟨l,h1,h2⟩:=g.first;exact⟨dI ls 0,aU (Fg hn),by rw[dU h1];exact h2⟩
 .obtain⟨w,hw⟩:=aK (fm.1 hs);obtain⟨⟨d,t,e,hd⟩,_⟩:=NN g.ok w (aU hw);have hp:wS ls d=s:=Wz g hw (by rw[e];simp);refine⟨dI ls (d/2),aU (Fg aa),?_⟩;rcases xf d with h|h
  .refine .inl ?_;show s=wS ls (2*(d/2));rw[show 2*(d/2)=d by omega,hp]
  refine .inr ?_;show s=wS ls (2*(d/2)+1);rw[show 2*(d/2)+1=d by omega,hp]
 rw[kU,Dx,g.nw];omega
end
structure Cq (F:Nat) (z:List aN) (T B:Nat->Nat->Nat):Prop where
 ok:∀x∈z,yq F x
 cr:z.Pairwise Xr
 ev:ay Let.aC (aO z)%2=0
 ids:∀x∈z,x.k.aC=true->1<=x.k.id/\x.k.id<=((ay Let.aC (aO z)/2:Nat):Int)
 rk:z.Pairwise Dr
 rr:∀x∈z,x.k.aA=true->1<=x.k.aB/\x.k.aB<=(cg (aO z) x.k.gate.toNat:Int)
 pl:∀x∈z,x.k.aA=true->GM T B x
 gt:∀g,g<F->T g (cg (aO z) g)=T (g+1) 0/\B g (cg (aO z) g)=B (g+1) 0
 gz:T F (cg (aO z) F)=T 0 0/\B F (cg (aO z) F)=B 0 0
def dS.mp(ψ:Nat->Nat)(s:dS):dS:=⟨ψ s.l,ψ s.r,s.b⟩
def aN.mp(ψ:Nat->Nat)(h:Let->Let)(x:aN):aN:=⟨⟨h x.p.l,x.p.d⟩,x.i.mp ψ,x.o.mp ψ⟩
theorem X4.mp{g:Bool}{i o j q:dS}(h:X4 g i o j q)(ψ:Nat->Nat):X4 g (i.mp ψ) (o.mp ψ) (j.mp ψ) (q.mp ψ):=by obtain⟨a,b,c,d⟩:=h;cases g<;>simp only[dx,if_false,if_true] at a b c d<;>constructor<;>simp[dS.mp,a,b,c,d]
theorem aeD(ψ:Nat->Nat)(h:Let->Let)(x:aN):(x.mp ψ h).up=x.up.mp ψ:=by unfold aN.up aN.mp;cases x.p.d<;>rfl
theorem aeC(ψ:Nat->Nat)(h:Let->Let)(x:aN):(x.mp ψ h).lo=x.lo.mp ψ:=by unfold aN.lo aN.mp;cases x.p.d<;>rfl
theorem Qr{ψ:Nat->Nat}{h:Let->Let}:∀ {z:List aN} {s t:dS},jE s z t->jE (s.mp ψ) (z.map (aN.mp ψ h)) (t.mp ψ):=by
 intro z
 induction z with
 |nil=>intro s t e;cases e;rfl
 |cons x z ih=>intro s t e;obtain⟨rfl,e⟩:=e;exact⟨rfl,ih e⟩
theorem abb{S L:List Nat}(hn:S.Nodup):S.length<=(S.filter fun s=> !L.contains s).length+L.length:=by
 have h1:S.length=(S.filter fun s=> !L.contains s).length+(S.filter fun s=>L.contains s).length:=by have:=List.length_eq_countP_add_countP (fun s=> !L.contains s) (l:=S);rw[Kp,Kp] at this;rw[this];congr 2;apply List.filter_congr;intro x _;simp
 have h2:=JV (S.filter fun s=>L.contains s) L (hn.filter _) fun x hx=>by simpa using (uM.1 hx).2
 omega
structure Ac (h:Let->Let):Prop where
 kind:∀l,(h l).kind=l.kind
 over:∀l,(h l).over=l.over
 sign:∀l,(h l).sign=l.sign
theorem Ac.aA{h:Let->Let}(s:Ac h)(l:Let):(h l).aA=l.aA:=by unfold Let.aA;rw[s.kind]
theorem Ac.aC{h:Let->Let}(s:Ac h)(l:Let):(h l).aC=l.aC:=by unfold Let.aC;rw[s.kind]
theorem Ac.id:Ac id:=⟨fun _=>rfl,fun _=>rfl,fun _=>rfl⟩
section
variable {F:Nat} {X r X':List aN} {T B T' B':Nat->Nat->Nat} {S:List Nat} {ψ:Nat->Nat} {h:Let->Let}
theorem Cz.q{z:List aN}(c:Cz F z T B S):Cq F z T B:=⟨c.ok,c.cr,c.ev,c.ids,c.rk,c.rr,c.pl,c.gt,c.gz⟩
theorem Cq.perm{z z':List aN}(c:Cq F z T B)(hh:z.Perm z'):Cq F z' T B:=by
 have hm:∀ {x},x∈z'↔x∈z:=fun {x}=>hh.symm.mem_iff;have e:∀p,ay p (aO z')=ay p (aO z):=fun p=>(B0 hh).symm;have eg:∀g,cg (aO z') g=cg (aO z) g:=fun g=>e _;exact⟨fun x hx=>c.ok x (hm.1 hx),(hh.pairwise_iff fun {x y}=>Xr.symm).1 c.cr,by rw[e];exact c.ev,fun x hx=>by rw[e];exact c.ids x (hm.1 hx),(hh.pairwise_iff fun {x y}=>Dr.symm).1 c.rk,
  fun x hx=>by rw[eg];exact c.rr x (hm.1 hx),fun x hx=>c.pl x (hm.1 hx),fun g hg=>by rw[eg];exact c.gt g hg,by rw[eg];exact c.gz⟩
theorem yq.mp{x:aN}(o:yq F x)(s:Ac h)(hb:dj F (h x.k)=false):yq F (x.mp ψ h):=by
 refine⟨hb,fun hc=>?_,fun hp=>?_⟩
 .exact o.cb (by rw[<- s.aC];exact hc)
 exact o.pb (by rw[<- s.aA];exact hp)
theorem Cq.edit(q:Cq F (X++r) T B)(s:Ac h)(hb:∀x∈r,dj F (h x.k)=false)
  (hid:∀x∈r,∀y∈r,x.k.aC=true->y.k.aC=true->(h x.k).id=(h y.k).id->x.k.id=y.k.id)
  (kz:∀x∈r,∀y∈r,x.k.aA=true->y.k.aA=true->(h x.k).gate=(h y.k).gate->(h x.k).aB=(h y.k).aB->x.k.gate=y.k.gate/\x.k.aB=y.k.aB)
  (n1:∀x∈X',yq F x) (n2:X'.Pairwise Xr) (n3:X'.Pairwise Dr) (n4:∀x∈X',∀y∈r,Xr x (y.mp ψ h)) (n5:∀x∈X',∀y∈r,Dr x (y.mp ψ h))
  (ev:ay Let.aC (aO (X'++r.map (aN.mp ψ h)))%2=0)
  (ids:∀x∈X',x.k.aC=true->1<=x.k.id/\x.k.id<=((ay Let.aC (aO (X'++r.map (aN.mp ψ h)))/2:Nat):Int))
  (anE:∀x∈r,x.k.aC=true->1<=(h x.k).id/\(h x.k).id<=((ay Let.aC (aO (X'++r.map (aN.mp ψ h)))/2:Nat):Int))
  (rr:∀x∈X',x.k.aA=true->1<=x.k.aB/\x.k.aB<=(cg (aO (X'++r.map (aN.mp ψ h))) x.k.gate.toNat:Int))
  (rr':∀x∈r,x.k.aA=true->1<=(h x.k).aB/\(h x.k).aB<=(cg (aO (X'++r.map (aN.mp ψ h))) (h x.k).gate.toNat:Int))
  (pl:∀x∈X',x.k.aA=true->GM T' B' x)
  (Ba:∀x∈r,x.k.aA=true->(ψ (T x.k.gate.toNat (x.k.aB.toNat-1))=T' (h x.k).gate.toNat ((h x.k).aB.toNat-1)/\ψ (B x.k.gate.toNat (x.k.aB.toNat-1))=B' (h x.k).gate.toNat ((h x.k).aB.toNat-1))/\ψ (T x.k.gate.toNat x.k.aB.toNat)=T' (h x.k).gate.toNat (h x.k).aB.toNat/\ψ (B x.k.gate.toNat x.k.aB.toNat)=B' (h x.k).gate.toNat (h x.k).aB.toNat)
  (gt:∀g,g<F->T' g (cg (aO (X'++r.map (aN.mp ψ h))) g)=T' (g+1) 0/\B' g (cg (aO (X'++r.map (aN.mp ψ h))) g)=B' (g+1) 0)
  (gz:T' F (cg (aO (X'++r.map (aN.mp ψ h))) F)=T' 0 0/\B' F (cg (aO (X'++r.map (aN.mp ψ h))) F)=B' 0 0):Cq F (X'++r.map (aN.mp ψ h)) T' B':=by
 have crr:=(NW.1 q.cr).2.1;have rkr:=(NW.1 q.rk).2.1;have mem:∀x∈X'++r.map (aN.mp ψ h),x∈X'\/ ∃y∈r,x=y.mp ψ h:=fun x hx=>by
  rcases eF.1 hx with hx|hx
  .exact .inl hx
  obtain⟨y,hy,rfl⟩:=dq.1 hx;exact .inr ⟨y,hy,rfl⟩
 have in':∀y∈r,y∈X++r:=fun y hy=>Hk _ hy;refine⟨fun x hx=>?_,?_,ev,fun x hx hc=>?_,?_,fun x hx hp=>?_,fun x hx hp=>?_,gt,gz⟩
 .rcases mem x hx with hx|⟨y,hy,rfl⟩
  .exact n1 x hx
  exact(q.ok y (in' y hy)).mp s (hb y hy)
 .refine NW.2 ⟨n2,yG.2 (crr.imp_of_mem fun {x y} hx hy hU hc hd e=>?_),fun x hx y hy=>?_⟩
  .have hc:x.k.aC=true:=by rw[<- s.aC];exact hc
   have hd:y.k.aC=true:=by rw[<- s.aC];exact hd
   obtain⟨h1,h2,h3⟩:=hU hc hd (hid x hx y hy hc hd e);refine⟨?_,?_,?_⟩
   .show(h x.k).over= !(h y.k).over;rw[s.over,s.over];exact h1
   .show(h x.k).sign=(h y.k).sign;rw[s.sign,s.sign];exact h2
   have:gX (x.mp ψ h).k=gX x.k:=by show((h x.k).over==((h x.k).sign==1))=_;rw[s.over,s.sign];rfl
   rw[this];exact h3.mp ψ
  obtain⟨w,hw,rfl⟩:=dq.1 hy;exact n4 x hx w hw
 .rcases mem x hx with hx|⟨y,hy,rfl⟩
  .exact ids x hx hc
  exact anE y hy (by rw[<- s.aC];exact hc)
 .refine NW.2 ⟨n3,yG.2 (rkr.imp_of_mem fun {x y} hx hy hU hc hd e1 e2=>?_),fun x hx y hy=>?_⟩
  .have hc:x.k.aA=true:=by rw[<- s.aA];exact hc
   have hd:y.k.aA=true:=by rw[<- s.aA];exact hd
   obtain⟨f1,f2⟩:=kz x hx y hy hc hd e1 e2;exact hU hc hd f1 f2
  obtain⟨w,hw,rfl⟩:=dq.1 hy;exact n5 x hx w hw
 .rcases mem x hx with hx|⟨y,hy,rfl⟩
  .exact rr x hx hp
  exact rr' y hy (by rw[<- s.aA];exact hp)
 rcases mem x hx with hx|⟨y,hy,rfl⟩
 .exact pl x hx hp
 have hp:y.k.aA=true:=by rw[<- s.aA];exact hp
 obtain⟨p1,p2,p3,p4⟩:=q.pl y (in' y hy) hp;obtain⟨⟨a1,a2⟩,a3,a4⟩:=Ba y hy hp;constructor
 .rw[aeD];show ψ y.up.r=_;rw[p1];exact a1
 .rw[aeD];show ψ y.up.l=_;rw[p2];exact a3
 .rw[aeC];show ψ y.lo.r=_;rw[p3];exact a2
 rw[aeC];show ψ y.lo.l=_;rw[p4];exact a4
theorem Cq.done{l:List Pc}{z':List aN}{L N:List Nat}{V:Nat}(q:Cq F (X'++r.map (aN.mp ψ h)) T' B')(iS:S.Nodup)(wit:∀s∈S,∃x∈X++r,s=x.o.l\/s=x.o.r)
  (nu:z'.Perm (X'++r.map (aN.mp ψ h))) (VG:∃s,jE s z' s) (hl:z'.map aN.p=l) (one:∃x∈X'++r.map (aN.mp ψ h),x.k.aA=true)
  (hψ:∀s∈S,s∉L->ψ s=s) (hX:∀x∈X,∀s∈S,(s=x.o.l\/s=x.o.r)->s∉L->∃y∈X'++r.map (aN.mp ψ h),s=y.o.l\/s=y.o.r)
  (hN:N.Nodup) (hNS:∀s∈N,s∉S) (hNw:∀s∈N,∃y∈X'++r.map (aN.mp ψ h),s=y.o.l\/s=y.o.r)
  (hS:V<=S.length) (num:ay Let.aA (aO (X'++r.map (aN.mp ψ h)))+ay Let.aC (aO (X'++r.map (aN.mp ψ h)))/2+1+L.length<=V+N.length):Cert F l:=by
 have qz:=q.perm nu.symm;have hm:∀ {x},x∈z'↔x∈X'++r.map (aN.mp ψ h):=fun {x}=>nu.mem_iff;refine⟨z',T',B',N++S.filter (fun s=> !L.contains s),hl,⟨VG,qz.ok,qz.cr,qz.ev,qz.ids,qz.rk,qz.rr,qz.pl,qz.gt,qz.gz,?_,?_,fun s hs=>?_,?_⟩⟩
 .obtain⟨x,hx,e⟩:=one;exact⟨x,hm.2 hx,e⟩
 .refine Hn.2 ⟨hN,iS.filter _,fun a ha b hb e=>?_⟩;subst e;exact hNS a ha (uM.1 hb).1
 .have key:∃y∈X'++r.map (aN.mp ψ h),s=y.o.l\/s=y.o.r:=by
   rcases eF.1 hs with hs|hs
   .exact hNw s hs
   obtain⟨h1,h2⟩:=uM.1 hs;have h2:s∉L:=by simpa using h2
   obtain⟨x,hx,e⟩:=wit s h1;rcases eF.1 hx with hx|hx
   .exact hX x hx s h1 e h2
   refine⟨x.mp ψ h,Hk _ (dq.2 ⟨x,hx,rfl⟩),?_⟩;have hp:=hψ s h1 h2;rcases e with e|e
   .left;show s=ψ x.o.l;rw[<- e,hp]
   right;show s=ψ x.o.r;rw[<- e,hp]
  obtain⟨y,hy,e⟩:=key;exact⟨y,hm.2 hy,e⟩
 have e:∀p,ay p (aO z')=ay p (aO (X'++r.map (aN.mp ψ h))):=fun p=>B0 nu;rw[e,e,dX];have:=abb (L:=L) iS;omega
end
theorem Sv(p:Let->Bool)(a b:List aN):ay p (aO (a++b))=ay p (aO a)+ay p (aO b):=by show List.countP p (List.map _ _)=List.countP p (List.map _ _)+List.countP p (List.map _ _);rw[km,vE]
theorem lB(p:Let->Bool)(x:aN)(b:List aN):ay p (aO (x::b))=(if p x.k then 1 else 0)+ay p (aO b):=by show List.countP p (List.map _ _)=_+List.countP p (List.map _ _);rw[dG,wZ,Fk]
theorem Sw(p:Let->Bool):ay p (aO [])=0:=rfl
theorem BZ{p:Let->Bool}{ψ:Nat->Nat}{h:Let->Let}(hp:∀l,p (h l)=p l)(r:List aN):ay p (aO (r.map (aN.mp ψ h)))=ay p (aO r):=by
 induction r with
 |nil=>rfl
 |cons x r ih=>rw[dG,lB,lB,ih];show(if p (h x.k) then 1 else 0)+_=_;rw[hp]
theorem HA{l:Let}(g:Nat)(h:l.aC=true):mU g l=false:=by
 unfold mU;cases hp:l.aA
 .rfl
 rw[n9 hp] at h;cases h
theorem lJ{l:Let}(h:l.aC=true):l.aA=false:=by
 cases hp:l.aA
 .rfl
 rw[n9 hp] at h;cases h
theorem alM{α:Type}{z:List α}{a:Nat}(ha:a<z.length)(h2:2<=z.length):∃x y r,z.drop a++z.take a=x::y::r/\z[a]?=some x/\z[(a+1)%z.length]?=some y:=by
 obtain⟨x,hx⟩:=aK ha;obtain⟨hl,e⟩:=aS.1 hx;have hd:z.drop a=x::z.drop (a+1):=by rw[<- e,tg]
 by_cases c:a+1<z.length
 .obtain⟨y,hy⟩:=aK c;obtain⟨mH,e2⟩:=aS.1 hy;have xN:z.drop (a+1)=y::z.drop (a+1+1):=by rw[<- e2,tg]
  exact⟨x,y,z.drop (a+1+1)++z.take a,by rw[hd,xN];rfl,hx,by rw[gD c];exact hy⟩
 have ea:a+1=z.length:=aa;obtain⟨y,hy⟩:=aK (ls:=z) (k:=0) aa;have xN:z.drop (a+1)=[]:=List.drop_eq_nil_of_le aa;have ht:z.take a=y::(z.take a).drop 1:=by
  have h0:(z.take a)[0]?=some y:=by rw[jt,if_pos aa];exact hy
  obtain⟨hl3,e3⟩:=aS.1 h0;have:=tg (h:=hl3);rw[e3,List.drop_zero] at this;exact this.symm
 refine⟨x,y,(z.take a).drop 1,?_,hx,by rw[ea,yH];exact hy⟩;rw[hd,xN]
 conv=>lhs;rw[ht]
 rfl
section
variable {F:Nat} {ls:List Let}
theorem ya{l:Let}(h:l.aC=true):(if Let.aC l=true then 1 else 0)=1/\(if Let.aA l=true then 1 else 0)=0:=by simp[h,lJ h]
theorem ifP{l:Let}(h:l.aA=true):(if Let.aC l=true then 1 else 0)=0/\(if Let.aA l=true then 1 else 0)=1:=by simp[h,n9 h]
end
def gR(ids:List Int)(l:Let):Let:=if l.kind==2 then {l with id:=l.id-((ids.take ids.length).countP (fun i=>decide (i<l.id)):Nat)} else l
theorem A5(ids:List Int):Ac (gR ids):=by refine⟨fun l=>?_,fun l=>?_,fun l=>?_⟩<;>unfold gR<;>split<;>rfl
theorem ael(ids:List Int)(p:Pc):pI ids p=⟨gR ids p.l,p.d⟩:=by unfold pI gR jz;split<;>rfl
theorem A4{ids:List Int}{l:Let}(h:l.aA=true):gR ids l=l:=by unfold gR;have:=n9 h;unfold Let.aC at this;rw[if_neg (by rw[this];decide)]
theorem aei{ids:List Int}{l:Let}(h:dj F l=false):dj F (gR ids l)=false:=by
 rcases vQ h with hp|hc
 .rw[A4 hp];exact h
 have jU:(gR ids l).aC=true:=by rw[(A5 ids).aC];exact hc
 rw[Qg hc] at h;rw[Qg jU];unfold gR;split<;>exact h
theorem aeh(ids:List Int)(g:Nat)(l:Let):mU g (gR ids l)=mU g l:=by
 cases hp:l.aA
 .unfold mU;rw[(A5 ids).aA,hp];rfl
 rw[A4 hp]
theorem aej{ids:List Int}{l:Let}(h:l.aC=true):(gR ids l).id=l.id-((ids.countP fun i=>decide (i<l.id):Nat):Int):=by unfold gR;unfold Let.aC at h;rw[if_pos h,jh]
theorem adL{l:List Pc}{drop:Nat->Pc->Bool}{d:Pc->Bool}(h:∀i p,drop i p=d p):k9 l drop=l.filter fun p=> !d p:=by
 have key:∀k,k<=l.length->ny l drop k=(l.take k).filter fun p=> !d p:=by
  intro k
  induction k with
  |zero=>intro _;rfl
  |succ k ih=>
   intro hk;obtain⟨p,hp⟩:=aK (ls:=l) (k:=k) aa;rw[kn,hp,NT,<- ih aa];cases hd:d p
   .rw[AZ hp (by rw[h];exact hd)];simp[hd]
   rw[uD hp (by rw[h];exact hd)];simp[hd]
 unfold k9;rw[key _ (aX _),jh]
theorem Qq:∀ {z:List aN} {s t:dS},jE s z t->z≠[]->∃w∈z,w.o=t:=by
 intro z
 induction z with
 |nil=>intro s t _ h;exact absurd rfl h
 |cons x z ih=>
  intro s t h _;obtain⟨_,h⟩:=h;cases z with
  |nil=>cases h;exact⟨x,af,rfl⟩
  |cons y z=>obtain⟨w,hw,e⟩:=ih h af;exact⟨w,w6 _ hw,e⟩
section
variable {F:Nat} {ls:List Let}
theorem apI{x y:aN}{r:List aN}{T B:Nat->Nat->Nat}(q:Cq F (x::y::r) T B)(cx:x.k.aC=true)(cy:y.k.aC=true)(e:x.k.id=y.k.id):∀w∈r,w.k.aC=true->w.k.id≠x.k.id:=by intro w hw cw ew;obtain⟨p1,p2⟩:=ui.1 q.cr;obtain⟨p3,_⟩:=ui.1 p2;have a:=(p1 y af cx cy e).ov;have b:=(p1 w (by simp[hw]) cx cw ew.symm).ov;have d:=(p3 w hw cy cw (by rw[<- e,ew])).ov;rw[b] at a;rw[d] at a;revert a;cases w.k.over<;>simp
theorem XD(g:dr F ls){a:Nat}(ha:a<ls.length):∃x y r s,(zF ls).drop a++(zF ls).take a=x::y::r/\(pieces ls)[a]?=some x.p/\(pieces ls)[nx ls a]?=some y.p/\
  Cz F (x::y::r) (TF ls) (BF ls) (List.range (mh ls))/\jE s (x::y::r) s/\(pieces ls).drop a++(pieces ls).take a=(x::y::r).map aN.p/\(zF ls)[a]?=some x/\(zF ls)[nx ls a]?=some y/\(x::y::r).Perm (zF ls):=by
 have h2:2<=ls.length:=by obtain⟨l,h1,hp⟩:=g.first;have:=g.even;have:0<ay Let.aA ls:=Bz.2 ⟨l,aU h1,hp⟩;have:=xx Let.aA ls;omega
 have hl:=Ko ls;obtain⟨x,y,r,e,hx,hy⟩:=alM (z:=zF ls) (a:=a) aa aa;rw[hl] at hy;have c:Cz F ((zF ls).drop a++(zF ls).take a) (TF ls) (BF ls) (List.range (mh ls)):=by refine Cz.kh ?_;rw[kG];exact g.cz
 rw[e] at c;obtain⟨s,hs⟩:=c.path;refine⟨x,y,r,s,e,?_,?_,c,hs,?_,hx,hy,?_⟩
 .rw[<- Dq,fR,hx];rfl
 .rw[<- Dq,fR,hy];rfl
 .rw[<- e,km,List.map_drop,Hj,Dq]
 rw[<- e];exact List.perm_append_comm.trans (by rw[kG])
theorem ZK{a:Nat}{d:Pc->Bool}{f:Pc->Pc}(c:Cert F ((((pieces ls).drop a++(pieces ls).take a).filter d).map f)):Cert F (((pieces ls).filter d).map f):=by rw[NT,km] at c;have:=c.kh;rwa[<- km,<- NT,kG] at this
theorem acU{l:Let}:l.aC=(l.kind==2):=rfl
theorem filter_all{α:Type}{l:List α}{p:α->Bool}(h:∀x∈l,p x=true):l.filter p=l:=List.filter_eq_self.2 h
theorem YM(g:dr F ls){a:Nat}(ha:a<ls.length){L:List Pc}(h:yg ls a=some L):Cert F L:=by
 obtain⟨x,y,r,s,e,hx,hy,c,hp,IW,_,_,nu⟩:=XD g ha;have q:=c.q;unfold yg at h;have e1:(pieces ls).getD a ⟨j9,false⟩=x.p:=by rw[de,hx];rfl
 have e2:(pieces ls).getD ((a+1)%ls.length) ⟨j9,false⟩=y.p:=by rw[de,hy];rfl
 simp only[e1,e2] at h;split at h
 case isFalse=>cases h
 rename_i hc;simp only[cH,beq_iff_eq] at hc;obtain⟨fH,qP,hid⟩:=hc;have cx:x.k.aC=true:=by rw[acU];simp[fH]
 have cy:y.k.aC=true:=by rw[acU];simp[qP]
 have tK:x.k.id=y.k.id:=hid;cases h;have Pz:=apI q cx cy tK;have hU:Xc x y:=(ui.1 q.cr).1 y af cx cy tK;obtain⟨gQ,eh,tO⟩:=hp
 -- both ends of the kink look alike
 have ix:=(q.ok x af).cb cx;have iy:=(q.ok y af).cb cy;have hk:=hU.x4;rw[gQ,eh] at hk;rw[gQ] at ix;rw[eh] at iy;have hyo:y.o=s:=by
  obtain⟨k1,k2,k3,k4⟩:=hk;have hb:y.o.b=s.b:=by rw[<- iy,<- ix]
  cases y with
  |mk yp yi yo=>
  cases yo with
  |mk l r b=>
  cases s with
  |mk sl sr sb=>
  cases hg:gX x.k<;>rw[hg] at k1 k2 k3 k4<;>simp only[dx,if_false,if_true] at k1 k2 k3 k4 hb<;>simp_all
 rw[hyo] at tO;have Vt:∃b,(s.r=b\/s.l=b)/\ ∀t,(t=x.o.l\/t=x.o.r)->t=s.l\/t=s.r\/t=(if gX x.k then x.o.r else x.o.l):=by
  obtain⟨k1,k2,k3,k4⟩:=hk;refine⟨s.r,.inl rfl,?_⟩;cases hg:gX x.k<;>rw[hg] at k1 k2 k3 k4<;>simp only[dx,if_false,if_true] at k1 k2 k3 k4 ⊢
  .rintro t (rfl|rfl)
   .exact .inr (.inr rfl)
   exact .inl k1.symm
  rintro t (rfl|rfl)
  .exact .inr (.inl k3)
  exact .inr (.inr rfl)
 obtain⟨_,_,Vt⟩:=Vt;have dL:=q.ev;have zk:∀z:List aN,ay Let.aC (aO (x::y::z))=ay Let.aC (aO z)+2:=fun z=>by rw[lB,lB,(ya cx).1,(ya cy).1];omega
 have F6:∀z:List aN,ay Let.aA (aO (x::y::z))=ay Let.aA (aO z):=fun z=>by rw[lB,lB,(ya cx).2,(ya cy).2];omega
 have xK:∀(z:List aN) k,cg (aO (x::y::z)) k=cg (aO z) k:=fun z k=>by show ay _ _=ay _ _;rw[lB,lB,HA k cx,HA k cy];simp
 have mC:ay Let.aC (aO (r.map (aN.mp id (gR [x.k.id]))))=ay Let.aC (aO r):=BZ (fun l=>(A5 _).aC l) r;have mP:ay Let.aA (aO (r.map (aN.mp id (gR [x.k.id]))))=ay Let.aA (aO r):=BZ (fun l=>(A5 _).aA l) r;have mG:∀k,cg (aO (r.map (aN.mp id (gR [x.k.id])))) k=cg (aO r) k:=fun k=>BZ (fun l=>aeh _ k l) r;have lowid:∀w∈r,w.k.aC=true->(gR [x.k.id] w.k).id=if x.k.id<w.k.id then w.k.id-1 else w.k.id:=fun w hw hc=>by
  rw[aej hc];by_cases c:x.k.id<w.k.id
  .simp[c]
  simp[c]
 have II:∀w∈x::y::r,w.k.aC=true->1<=w.k.id/\w.k.id<=((ay Let.aC (aO r)/2:Nat):Int)+1:=fun w hw hc=>by have:=q.ids w hw hc;rw[zk] at this;omega
 have hr:r≠[]:=by
  obtain⟨w,hw,qu⟩:=c.one;rintro rfl
  simp only[cM,iO,or_false] at hw;rcases hw with rfl|rfl
  .rw[lJ cx] at qu;cases qu
  rw[lJ cy] at qu;cases qu
 have inr:∀w∈r,w∈x::y::r:=fun w hw=>by simp[hw]
 have qn:Cq F ([]++r.map (aN.mp id (gR [x.k.id]))) (TF ls) (BF ls):=by
  refine Cq.edit (X:=[x,y]) (r:=r) q (A5 _) (fun w hw=>aei (q.ok w (inr w hw)).bad) (fun u hu v hv cu cv e=>?_) (fun u hu v hv pu pv e1 e2=>?_) (fun _ h=>by cases h) List.Pairwise.nil List.Pairwise.nil (fun _ h=>by cases h) (fun _ h=>by cases h) ?_ (fun _ h=>by cases h) (fun u hu cu=>?_) (fun _ h=>by cases h) (fun u hu pu=>?_) (fun _ h=>by cases h) (fun u hu pu=>?_) (fun k hk=>?_) ?_
  .have h1:=Pz u hu cu;have h2:=Pz v hv cv;rw[lowid u hu cu,lowid v hv cv] at e;split at e<;>split at e<;>omega
  .rw[A4 pu,A4 pv] at e1 e2;exact⟨e1,e2⟩
  .rw[fp,mC];rw[zk] at dL;omega
  .rw[fp,mC,lowid u hu cu];have h1:=II u (inr u hu) cu;have h2:=Pz u hu cu;have h3:=II x af cx;split<;>omega
  .rw[fp,A4 pu,mG,<- xK r];exact q.rr u (inr u hu) pu
  .rw[A4 pu];exact⟨⟨rfl,rfl⟩,rfl,rfl⟩
  .rw[fp,mG,<- xK r];exact q.gt k hk
  rw[fp,mG,<- xK r];exact q.gz
 have LY:Cert F (r.map fun w=>pI [x.k.id] w.p):=by
  refine Cq.done (X:=[x,y]) (r:=r) (X':=[]) (L:=[if gX x.k then x.o.r else x.o.l]) (N:=[]) (V:=mh ls) (z':=r.map (aN.mp id (gR [x.k.id]))) qn c.nd (fun t ht=>c.wit t ht) (List.Perm.refl _) ⟨s,Qr (ψ:=id) tO⟩ ?_ ?_ (fun _ _ _=>rfl) (fun w hw t ht ew hL=>?_) w7 (fun t ht=>by cases ht) (fun t ht=>by cases ht) (by rw[Dx];exact aX _) ?_
  .rw[ti];refine vH fun w _=>?_;rw[ael];rfl
  .obtain⟨w,hw,qu⟩:=c.one;simp only[cM] at hw;rcases hw with rfl|rfl|hw
   .rw[lJ cx] at qu;cases qu
   .rw[lJ cy] at qu;cases qu
   refine⟨w.mp id (gR [x.k.id]),?_,?_⟩
   .rw[fp];exact dq.2 ⟨w,hw,rfl⟩
   show(gR [x.k.id] w.k).aA=true;rw[(A5 _).aA];exact qu
  .obtain⟨v,hv,hvo⟩:=Qq tO hr;have key:t=s.l\/t=s.r:=by
    simp only[cM,iO,or_false] at hw hL;rcases hw with rfl|rfl
    .rcases Vt t ew with h|h|h
     .exact .inl h
     .exact .inr h
     exact absurd h hL
    rw[hyo] at ew;exact ew
   refine⟨v.mp id (gR [x.k.id]),by rw[fp];exact dq.2 ⟨v,hv,rfl⟩,?_⟩;show t=id v.o.l\/t=id v.o.r;rw[hvo];exact key
  rw[fp,mC,mP];have h1:=g.nw;have h2:ay Let.aC (aO (x::y::r))=ay Let.aC ls:=by rw[B0 nu,kU]
  have h3:ay Let.aA (aO (x::y::r))=ay Let.aA ls:=by rw[B0 nu,kU]
  rw[zk] at h2;rw[F6] at h3;simp only[dN,cq];omega
 show Cert F ((k9 (pieces ls) (sD [x.k.id])).map (pI [x.k.id]));rw[adL (l:=pieces ls) (drop:=sD [x.k.id]) (d:=fun p=>(p.l.kind==2)&&[x.k.id].contains p.l.id) fun _ _=>rfl];refine ZK (a:=a) ?_;rw[IW];have hf:((x::y::r).map aN.p).filter (fun p=> !((p.l.kind==2)&&[x.k.id].contains p.l.id))=r.map aN.p:=by
  rw[dG,dG,List.filter_cons_of_neg (by simp[fH]),List.filter_cons_of_neg (by simp[qP,hid])];refine filter_all fun p hp=>?_;obtain⟨w,hw,rfl⟩:=dq.1 hp;cases hk:(w.p.l.kind==2)
  .rfl
  have:=Pz w hw hk;simp[this]
 rw[hf,ti];exact LY
end
end
end Go.Abs
