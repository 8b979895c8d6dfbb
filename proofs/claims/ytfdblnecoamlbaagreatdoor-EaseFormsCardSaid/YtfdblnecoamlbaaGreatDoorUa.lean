/-
  Certificates: names of faces at each letter show that a code is valid.
-/
import Derived.Test.YtfdblnecoamlbaaGreatDoorVe
set_option linter.all false
set_option maxHeartbeats 16000000
namespace Go.Abs
section
variable{F x:Nat}
def Zp{R:Nat->Nat->Prop}{n:Nat}{L:a_}(h:∀x,x<n->∃r∈L,bt R x r):K (bt R) n<=L.length:=by
 have key:∀M:a_,M.Nodup->(∀x∈M,x<n/\ld (bt R) x)->∃N:a_,N.length=M.length/\N.Nodup/\ ∀r∈N,r∈L/\ ∃x∈M,bt R x r:=by
  intro M
  induction M with
  |nil=>intro _ _;exact⟨[],rfl,xl,af⟩
  |cons a M ih=>
   intro hn hm;obtain⟨n1,n2⟩:=qU.1 hn;obtain⟨N,l1,l2,l3⟩:=ih n2 fun x hx=>hm x (by simp[hx]);obtain⟨ha,la⟩:=hm a af;obtain⟨r,hr,e⟩:=h a ha;refine⟨r::N,by simp[l1],qU.2 ⟨fun hN=>?_,l2⟩,fun q hq=>?_⟩
   .obtain⟨_,x,hx,ex⟩:=l3 r hN;have e1:=la x (e.trans ex.symm);have e2:=(hm x (by simp[hx])).2 a (ex.trans e.symm);have:a=x:=aa;exact n1 (this▸hx)
   rcases cD.1 hq with rfl|hq
   .exact⟨hr,a,af,e⟩
   obtain⟨q1,x,hx,ex⟩:=l3 q hq;exact⟨q1,x,by simp[hx],ex⟩
 obtain⟨N,l1,l2,l3⟩:=key ((List.range n).filter (BT (bt R))) (Gg.filter _) fun x hx=>by obtain⟨h1,h2⟩:=u7.1 hx;exact⟨gV.1 h1,KA.1 h2⟩
 unfold K;rw[List.countP_eq_length_filter,<- l1];exact Lg _ _ l2 fun r hr=>(l3 r hr).1
def QW(p:Nat->Nat)(x:Nat):∀i j,it p (i+j) x=it p i (it p j x):=by
 intro i j
 induction i with
 |zero=>rw[js];rfl
 |succ i ih=>rw[show i+1+j=(i+j)+1 by omega];show p (it p (i+j) x)=p (it p i (it p j x));rw[ih]
def apw{p:Nat->Nat}{m:Nat}(h:it p m x=x):∀k,it p (k*m) x=x:=by
 intro k
 induction k with
 |zero=>rw[Bf];rfl
 |succ k ih=>rw[Nat.succ_mul,QW,h,ih]
def arq{n:Nat}{p:Nat->Nat}(h:Perm n p){a b:Nat}(e:bt (gr n p) a b):a=b\/(a<n/\b<n/\ ∃k,it p k a=b):=by
 induction e with
 | @rel a b r=>obtain⟨ha,rfl⟩:=r;exact .inr ⟨ha,h.lt _ ha,1,rfl⟩
 |refl _=>exact .inl rfl
 | @symm a b _ ih=>
  rcases ih with rfl|⟨ha,hb,k,hk⟩
  .exact .inl rfl
  obtain⟨m,hm⟩:=h.aa7 ha;refine .inr ⟨hb,ha,k*m,?_⟩;rw[<- hk,<- QW,show k*m+k=k*(m+1) by rw[Nat.mul_succ]];exact apw hm k
 |trans _ _ i1 i2=>
  rcases i1 with rfl|⟨ha,hb,k,hk⟩
  .exact i2
  rcases i2 with rfl|⟨_,hc,j,hj⟩
  .exact .inr ⟨ha,hb,k,hk⟩
  exact .inr ⟨ha,hc,j+k,by rw[QW,hk,hj]⟩
def avq{n:Nat}{p:Nat->Nat}(h:Perm n p){a b:Nat}(ef:a≠b)(e:bt (gr n p) a b):¬bt (gr n (tr p (a,b))) a b:=by
 rcases arq h e with he|⟨ha,hb,k0,BE⟩
 .exact absurd he ef
 obtain⟨k,hk,Qz⟩:=exists_least (p:=fun k=>it p k a=b) k0 BE;have k1:1<=k:=by
  rcases Nat.eq_zero_or_pos k with rfl|h
  .exact absurd hk ef
  exact h
 have na:∀j,1<=j->j<=k->it p j a≠a:=fun j j1 j2 ej=>by
  rcases Nat.lt_or_eq_of_le j2 with c|rfl
  .have:it p (k-j) a=b:=by
    rw[<- hk,show k=(k-j)+j by omega,QW,ej];congr 1;omega
   have:=Qz _ this;omega
  exact ef (ej.symm.trans hk)
 have nb:∀j,j<k->it p j a≠b:=fun j j1 ej=>by have:=Qz j ej;omega
 intro e2;have inv:∀x y,gr n (tr p (a,b)) x y->(∃j,1<=j/\j<=k/\x=it p j a)=(∃j,1<=j/\j<=k/\y=it p j a):=by
  rintro x y ⟨hx,rfl⟩
  apply propext;unfold tr;simp only;constructor
  .rintro ⟨j,j1,j2,rfl⟩
   rw[ay (na j j1 j2)];by_cases c:it p j a=b
   .rw[aD c];exact⟨1,aa,k1,rfl⟩
   rw[ay c];refine⟨j+1,aa,?_,rfl⟩;rcases Nat.lt_or_eq_of_le j2 with d|rfl
   .exact d
   exact absurd hk c
  by_cases c:x=a
  .rw[aD c];rintro ⟨j,j1,j2,ej⟩
   exfalso;have:=h.inj _ _ hb (h.HP ha (j-1)) (by rw[ej,show j=(j-1)+1 by omega];rfl);by_cases d:j=1
   .subst d;exact ef this.symm
   exact nb (j-1) aa this.symm
  rw[ay c];by_cases d:x=b
  .subst d;intro _;exact⟨k,k1,bR _,hk.symm⟩
  rw[ay d];rintro ⟨j,j1,j2,ej⟩
  have:=h.inj _ _ hx (h.HP ha (j-1)) (by rw[ej,show j=(j-1)+1 by omega];rfl);by_cases f:j=1
  .subst f;exact absurd this c
  exact⟨j-1,aa,aa,this⟩
 have:=e2.inv inv;have wB:∃j,1<=j/\j<=k/\b=it p j a:=⟨k,k1,bR _,hk.symm⟩;rw[<- this] at wB;obtain⟨j,j1,j2,ej⟩:=wB;exact na j j1 j2 ej.symm
def K_tr{n:Nat}{p:Nat->Nat}(h:Perm n p){a b:Nat}(ha:a<n)(hb:b<n)(ef:a≠b):(K (bt (gr n (tr p (a,b)))) n+K (bt (gr n p)) n)%2=1:=by
 have one:∀x y,bt (rQ (gr n (tr p (a,b))) a b) x y↔bt (rQ (gr n p) a b) x y:=fun x y=>by have h:=S6 (p:=p) (S:=fun _ _=>False) ha hb (x:=x) (y:=y);have e:∀q:Nat->Nat,(fun x y=>gr n q x y\/False)=gr n q:=fun q=>funext fun x=>funext fun y=>propext af;rw[e,e] at h;exact h
 have kj:K (bt (rQ (gr n (tr p (a,b))) a b)) n=K (bt (rQ (gr n p) a b)) n:=IL one n;rcases Classical.em (bt (gr n p) a b) with c|c
 .have k1:=SR c n;have k2:=SQ ha hb (avq h ef c);omega
 have k1:=SQ ha hb c;have k2:=SR (aiq h ha hb c) n;omega
def aiU{n:Nat}:∀(ts:v_) (p:Nat->Nat),Perm n p->(∀t∈ts,t.1<n/\t.2<n/\t.1≠t.2)->(K (bt (gr n (ts.foldl tr p))) n+K (bt (gr n p)) n+ts.length)%2=0:=by
 intro ts
 induction ts with
 |nil=>intro p _ _;simp only[List.foldl_nil,fe];omega
 |cons t ts ih=>
  intro p hp ht;obtain⟨a,b⟩:=t;obtain⟨ha,hb,ef⟩:=ht (a,b) af
  replace ha:a<n:=ha
  replace hb:b<n:=hb
  replace ef:a≠b:=ef
  have e1:=ih (tr p (a,b)) (hp.tr ha hb) fun t h=>ht t (by simp[h]);have e2:(K (bt (gr n (tr p (a,b)))) n+K (bt (gr n p)) n)%2=1:=K_tr hp ha hb ef;simp only[Bc,dC];omega
def lM(ls:ai)(x:Nat):Nat:=aW ls (rv x)
def xe(k:Nat):v_:=(List.range k).map fun e=>(2*e,2*e+1)
def avx(q:Nat->Nat):∀k y,(xe k).foldl tr q y=if y<2*k then q (rv y) else q y:=by
 intro k
 induction k with
 |zero=>intro y;rw[ay aa];rfl
 |succ k ih=>
  intro y;have e:xe (k+1)=xe k++[(2*k,2*k+1)]:=by unfold xe;rw[yn,kZ];rfl
  rw[e,IF,Bc,List.foldl_nil,SA];by_cases c1:y=2*k
  .subst c1;rw[aD rfl,ih,ay aa,aD aa,wZ]
  rw[ay c1];by_cases c2:y=2*k+1
  .subst c2;rw[aD rfl,ih,ay aa,aD aa,Cl]
  rw[ay c2,ih];by_cases c3:y<2*k
  .rw[aD c3,aD aa]
  rw[ay c3,ay aa]
def bt.push{R R':Nat->Nat->Prop}{f:Nat->Nat}(h:∀a b,R a b->bt R' (f a) (f b)){y:Nat}(e:bt R x y):bt R' (f x) (f y):=by
 induction e with
 |rel r=>exact h _ _ r
 |refl a=>exact .refl _
 |symm _ ih=>exact ih.symm
 |trans _ _ i1 i2=>exact i1.trans i2
section
variable {F:Nat} {ls:ai}
def YB(ok:fA F ls):Perm (nD ls) (lM ls):=by
 have m:=maps ok;have hN:=HY ls;have hr:∀y,y<nD ls->rv y<nD ls:=fun y hy=>by rw[hN] at hy |-;exact A2 hy
 refine⟨fun y hy=>m.lt _ (hr y hy),fun x y hx hy e=>?_⟩;have:=m.inj _ _ (hr x hx) (hr y hy) e;rw[<- A3 x,this,A3]
abbrev E2(ls:ai):Nat:=ls.length+(aG ls).length
def ahq{y:Nat}(hy:y<nD ls):(xe (E2 ls)).foldl tr (lM ls) y=aW ls y:=by rw[avx,aD (by rw[HY] at hy;exact hy)];unfold lM;rw[A3]
def anJ(x y:Nat):bt (gr (nD ls) ((xe (E2 ls)).foldl tr (lM ls))) x y↔bt (gr (nD ls) (aW ls)) x y:=
 ⟨bt.mono fun a b r=>by obtain⟨h,rfl⟩:=r;exact .rel ⟨h,ahq h⟩,bt.mono fun a b r=>by obtain⟨h,rfl⟩:=r;exact .rel ⟨h,(ahq h).symm⟩⟩
def ais{k:Nat}:∀t∈xe k,t.1<2*k/\t.2<2*k/\t.1≠t.2:=by intro t ht;obtain⟨e,he,rfl⟩:=dh.1 ht;have:=gV.1 he;refine⟨?_,?_,?_⟩<;>simp only<;>omega
def aiR(ok:fA F ls):K (bt (gr (nD ls) (aW ls))) (nD ls)=mT ls:=by
 obtain⟨iw,adR⟩:=Cv (aW ls) (nD ls);have sW:∀w∈gU (aW ls) (nD ls),w≠[]:=fun w hw=>by obtain⟨⟨d,t,e,_⟩,_⟩:=OS ok w hw;rw[e];simp
 have hlen:((gU (aW ls) (nD ls)).map (·.headD 0)).length=mT ls:=by rw[cM];rfl
 refine Nat.le_antisymm ?_ ?_
 .rw[<- hlen];refine Zp fun x hx=>?_;obtain⟨w,hw,FD⟩:=Ge.1 (adR x hx);obtain⟨⟨d,t,e,_⟩,_⟩:=OS ok w hw;refine⟨w.headD 0,dh.2 ⟨w,hw,rfl⟩,?_⟩;exact Ze (maps ok) (R:=gr (nD ls) (aW ls)) (fun y hy=>.rel ⟨hy,rfl⟩) hw FD (by rw[e];simp)
 rw[<- hlen];refine Zo (f:=Ee (gU (aW ls) (nD ls))) ?_ (fun x hx=>?_) ?_
 .rintro a b ⟨ha,rfl⟩
  obtain⟨u,hu,hau⟩:=Ge.1 (adR a ha);obtain⟨i,hi⟩:=iJ hu;rw[OT iw hi hau,OT iw hi (Cu (maps ok) hu hau)]
 .obtain⟨w,hw,rfl⟩:=dh.1 hx;obtain⟨⟨d,t,e,hd⟩,_⟩:=OS ok w hw;rw[e];simp only[List.headD_cons];have:nD ls=2*ls.length+2*(aG ls).length:=rfl;omega
 rw[apd iw sW];exact Gg
abbrev FZ(ls:ai):Nat->Nat->Prop:=gr (nD ls) (lM ls)
def S9{v:Nat}(hv:v<ls.length)(g:Bool):dF ls.length v g<nD ls:=by have h:=yv hv (!g);rw[<- A1] at h;have:=A2 h;rw[A3] at this;have:nD ls=2*ls.length+2*(aG ls).length:=rfl;omega
def ahp(v:Nat)(g:Bool):lM ls (dF ls.length v g)=aW ls (gE ls.length v (!g)):=by unfold lM;rw[A1]
def ate(ok:fA F ls){v:Nat}(hv:v<ls.length):bt (FZ ls) (dF ls.length v true) (dF ls.length v false):=by
 obtain⟨l,hl⟩:=aM hv;have st:=aid ok hv false;have:lM ls (lM ls (dF ls.length v true))=dF ls.length v false:=by rw[ahp];exact st
 have p:=YB ok;rw[<- this];exact(bt.rel ⟨S9 hv true,rfl⟩).trans (.rel ⟨p.lt _ (S9 hv true),rfl⟩)
def Sb(ok:fA F ls){v:Nat}(hv:v<ls.length)(g h:Bool):bt (FZ ls) (dF ls.length v g) (dF ls.length v h):=by
 have e:=ate ok hv;cases g<;>cases h
 .exact .refl _
 .exact e.symm
 .exact e
 exact .refl _
def atf(ok:fA F ls){v:Nat}{l:Let}(hl:ls[v]?=some l)(hc:l.aA=true):bt (FZ ls) (dF ls.length v true) (dF ls.length (fJ ls v) true):=by
 obtain⟨h1,m,hm,mc,mi,mo,ms⟩:=sC ok.cr hl hc;have hv:=(aT.1 hl).1;have hw:=(aT.1 hm).1;have:lM ls (dF ls.length v true)=dF ls.length (fJ ls v) (false==(l.over==(l.sign==1))):=by rw[ahp,zA hl hc];rfl
 exact(bt.rel ⟨S9 hv true,this.symm⟩).trans (Sb ok hw _ _)
def atd(ok:fA F ls){k:Nat}(hk:k<(aG ls).length):bt (FZ ls) (2*ls.length+2*k) (dF ls.length ((aG ls).getD k 0) true):=by
 have aw:2*ls.length+2*k<nD ls:=by unfold nD;omega
 obtain⟨l,h1,h2⟩:=Gw hk;have hv:=(aT.1 h1).1;have:lM ls (2*ls.length+2*k)=dF ls.length ((aG ls).getD k 0) (dn ls ((aG ls).getD k 0)):=by unfold lM;rw[show 2*ls.length+2*k=2*(ls.length+k) by omega,wZ,show 2*(ls.length+k)+1=2*ls.length+2*k+1 by omega,F8]
 exact(bt.rel ⟨aw,this.symm⟩).trans (Sb ok hv _ _)
def atc(ok:fA F ls){k:Nat}(hk:k<(aG ls).length):bt (FZ ls) (2*ls.length+2*k+1) (dF ls.length ((aG ls).getD ((k+1)%(aG ls).length) 0) true):=by
 have aw:2*ls.length+2*k+1<nD ls:=by unfold nD;omega
 obtain⟨l,h1,h2⟩:=Gw (dr (k+1) (show 0<(aG ls).length by omega));have hv:=(aT.1 h1).1;have:lM ls (2*ls.length+2*k+1)=dF ls.length ((aG ls).getD ((k+1)%(aG ls).length) 0) (!dn ls ((aG ls).getD ((k+1)%(aG ls).length) 0)):=by unfold lM;rw[show 2*ls.length+2*k+1=2*(ls.length+k)+1 by omega,Cl,show 2*(ls.length+k)=2*ls.length+2*k by omega,F9]
 exact(bt.rel ⟨aw,this.symm⟩).trans (Sb ok hv _ _)
def ath(ok:fA F ls)(hx:x<nD ls):∃v,v<ls.length/\bt (FZ ls) x (dF ls.length v true):=by
 by_cases c:x<2*ls.length
 .have hy:rv x<2*ls.length:=A2 c;obtain⟨v,fw,hv,e⟩:∃v fw,v<ls.length/\rv x=gE ls.length v fw:=⟨_,_,by
   split
   .exact dr _ aa
   omega,Ph hy⟩
  have:x=dF ls.length v (!fw):=by rw[<- ato,<- e,A3]
  exact⟨v,hv,by rw[this];exact Sb ok hv _ _⟩
 have hN:nD ls=2*ls.length+2*(aG ls).length:=rfl;have hk:(x-2*ls.length)/2<(aG ls).length:=aa;rcases xn x with h|h
 .obtain⟨l,h1,h2⟩:=Gw hk;refine⟨_,(aT.1 h1).1,?_⟩;have:=atd ok hk;rwa[show 2*ls.length+2*((x-2*ls.length)/2)=x by omega] at this
 obtain⟨l,h1,h2⟩:=Gw (dr ((x-2*ls.length)/2+1) (show 0<(aG ls).length by omega));refine⟨_,(aT.1 h1).1,?_⟩;have:=atc ok hk;rwa[show 2*ls.length+2*((x-2*ls.length)/2)+1=x by omega] at this
def avF(ok:fA F ls):∃L:a_,L.length=aq Let.aE ls+aq Let.aA ls/2/\(∀j∈L,j<ls.length)/\(L.map (mh ls)).Nodup/\ ∀v,v<ls.length->∃j∈L,mh ls j=mh ls v:=by
 have hc:=ok.cr;unfold mO at hc;simp only[cU,dk] at hc;obtain⟨L,l1,l2,l3⟩:=avE ok;refine⟨L,l1,l2,l3,fun v hv=>?_⟩
 -- all the names there are
 let A:u_:=(aG ls).map (fun i:Nat=>((0:Int),(i:Int)))++(fi ls ls.length).map fun id=>((1:Int),id)
 have hA:A.length=aq Let.aE ls+aq Let.aA ls/2:=by simp only[A,fS,cM,Gx,hc.2]
 have jS:∀v,v<ls.length->mh ls v∈A:=fun v hv=>by
  obtain⟨l,hl⟩:=aM hv;unfold mh;rw[hl];rcases ok.kinds l (aV hl) with hp|eV
  .simp only[qN hp,dN,if_false];exact Gc _ (dh.2 ⟨v,ui.2 ⟨l,hl,hp⟩,rfl⟩)
  simp only[eV,if_true];refine El _ (dh.2 ⟨l.id,?_,rfl⟩);exact(HM (bR _)).2 ⟨v,l.over,hv,by rw[Ka hl eV];simp⟩
 refine Classical.byContradiction fun dM=>?_;have hn:mh ls v∉L.map (mh ls):=fun h=>by obtain⟨j,hj,e⟩:=dh.1 h;exact dM ⟨j,hj,e⟩
 have QJ:∀(X Y:u_),X.Nodup->(∀x∈X,x∈Y)->X.length<=Y.length:=by
  intro X
  induction X with
  |nil=>intro Y _ _;exact bG _
  |cons a X ih=>intro Y hn hs;obtain⟨h1,h2⟩:=qU.1 hn;have ha:=hs a af;have:=ih (Y.erase a) h2 fun x hx=>(List.mem_erase_of_ne (by rintro rfl;exact h1 hx)).2 (hs x (by simp[hx]));rw[SN ha] at this;have:0<Y.length:=LH ha;simp only[dC];omega
 have:=QJ (mh ls v::L.map (mh ls)) A (qU.2 ⟨hn,l3⟩) fun x hx=>by
  rcases cD.1 hx with rfl|hx
  .exact jS v hv
  obtain⟨j,hj,rfl⟩:=dh.1 hx;exact jS j (l2 j hj)
 rw[dC,cM,l1,hA] at this;omega
def avH(ok:fA F ls){u v:Nat}(hu:u<ls.length)(hv:v<ls.length)(e:mh ls u=mh ls v):bt (FZ ls) (dF ls.length v true) (dF ls.length u true):=by
 obtain⟨l,hl⟩:=aM hu;obtain⟨m,hm⟩:=aM hv;unfold mh at e;rw[hl,hm] at e;simp only at e;cases cl:l.aA<;>cases cm:m.aA
 .simp only[cl,cm,dN,if_false,lR,true_and] at e;have:u=v:=aa;subst this;exact .refl _
 .simp[cl,cm] at e
 .simp[cl,cm] at e
 simp only[cl,cm,if_true,lR,true_and] at e;have eV:=ok.cr;have hp:Ib ls:=by unfold mO at eV;simp only[cU,dk,gO,gV] at eV;exact(Ix.1 eV.1.2).2
 by_cases HH:u=v
 .subst HH;exact .refl _
 obtain⟨h1,w,hw,wc,wi,wo,ws⟩:=sC ok.cr hm cm;have:fJ ls v=u:=by refine Classical.byContradiction fun aI=>?_;have d1:=(hp _ _ w l hw hl wc cl (by rw[wi,e]) aI).1;have d2:=(hp _ _ l m hl hm cl cm e HH).1;rw[wo] at d1;revert d1 d2;cases l.over<;>cases m.over<;>simp
 have:=atf ok hm cm;rwa[‹fJ ls v=u›] at this
def aiT(ok:fA F ls):K (bt (FZ ls)) (nD ls)=aq Let.aE ls+aq Let.aA ls/2:=by
 obtain⟨L,l1,l2,l3,l4⟩:=avF ok;have hN:=HY ls;have hN':nD ls=2*ls.length+2*(aG ls).length:=rfl;have Ki:∀y,y<nD ls->rv y<nD ls:=fun y hy=>by rw[hN] at hy |-;exact A2 hy
 have hlen:(L.map (2* ·)).length=aq Let.aE ls+aq Let.aA ls/2:=by rw[cM,l1]
 refine Nat.le_antisymm ?_ ?_
 .rw[<- hlen];refine Zp fun x hx=>?_;obtain⟨v,hv,e⟩:=ath ok hx;obtain⟨j,hj,ej⟩:=l4 v hv;exact⟨2*j,dh.2 ⟨j,hj,rfl⟩,e.trans (avH ok (l2 j hj) hv ej)⟩
 rw[<- hlen];refine Zo (f:=fun x=>mh ls (yR ls (rv x))) ?_ (fun x hx=>?_) ?_
 .rintro a b ⟨ha,rfl⟩
  exact(avz ok (Ki a ha)).1.symm
 .obtain⟨j,hj,rfl⟩:=dh.1 hx;have:=l2 j hj;omega
 rw[ue];have:L.map ((fun x=>mh ls (yR ls (rv x))) ∘ (2* ·))=L.map (mh ls):=Bd fun j hj=>by have:=Nd (ls:=ls) (l2 j hj) false;simp only[Function.comp_apply,wZ];rw[show 2*j+1=gE ls.length j false from rfl,this]
 rw[this];exact l3
def arj(ok:fA F ls):K (bt (yD (nD ls) (lM ls) (xe (E2 ls)))) (nD ls)<=1:=by
 refine aiS fun x hx=>?_;obtain⟨b,hb⟩:=anz (p:=fun _=>false) (fun _=>rfl) ok hx;have h:=hb 0 ae;have:=h.push (R':=yD (nD ls) (lM ls) (xe (E2 ls))) (f:=fun y=>y/2) ?_
 .have hf:fx b 0<2:=Qc ae;rw[show(2*x+0)/2=x by omega,show fx b 0/2=0 by omega] at this;exact this
 intro u v r;rcases r with ⟨hu,rfl⟩|r
 .refine .rel (.inl ⟨aa,?_⟩);unfold sgC lM fx;simp only[dN,if_false];omega
 refine .rel (.inr ?_);obtain⟨e,he,hm⟩:=Gd.1 r;have oz:(2*e,2*e+1)∈xe (E2 ls):=dh.2 ⟨e,he,rfl⟩;simp only[cD,fq,or_false,lR] at hm;rcases hm with ⟨rfl,rfl⟩|⟨rfl,rfl⟩
 .rw[S7];simp only[dN,if_false];rw[show 4*e/2=2*e by omega,show(4*e+2)/2=2*e+1 by omega];exact oz
 rw[S8];simp only[dN,if_false];rw[show(4*e+1)/2=2*e by omega,show(4*e+3)/2=2*e+1 by omega];exact oz
def amM(ok:fA F ls):mT ls<=aq Let.aE ls+aq Let.aA ls/2+2/\(mT ls+(aq Let.aE ls+aq Let.aA ls/2))%2=0:=by
 have hN:=HY ls;have e1:=aml (xe (E2 ls)) (lM ls) (YB ok) fun t ht=>by have:=ais t ht;rw[hN];exact⟨this.1,this.2.1⟩
 have e2:=aiU (xe (E2 ls)) (lM ls) (YB ok) fun t ht=>by have:=ais t ht;rw[hN];exact this
 have hl:(xe (E2 ls)).length=ls.length+(aG ls).length:=by simp[xe]
 rw[IL anJ,aiR ok,show K (bt (gr (nD ls) (lM ls))) (nD ls)=_ from aiT ok,hl] at e1 e2;have h1:=arj ok;have hPC:=afI ok;have kQ:=Gx (ls:=ls);have eV:=ok.cr;unfold mO at eV;simp only[cU,dk] at eV;have eD:=eV.1.1;omega
end
structure eG where
 l:Nat
 r:Nat
 b:Bool
structure aQ where
 p:Pc
 i:eG
 o:eG
abbrev l_:=List aQ
abbrev aQ.k(x:aQ):Let:=x.p.l
def kN:eG->l_->eG->Prop
 |s,[],t=>s=t
 |s,x::r,t=>x.i=s/\kN x.o r t
def Ox{s t:eG}{a b:l_}:kN s (a++b) t↔ ∃m,kN s a m/\kN m b t:=by
 induction a generalizing s with
 |nil=>exact⟨fun h=>⟨s,rfl,h⟩,fun⟨m,h1,h2⟩=>by cases h1;exact h2⟩
 |cons x a ih=>show(x.i=s/\kN x.o (a++b) t)↔_;rw[ih];exact⟨fun⟨h,m,h1,h2⟩=>⟨m,⟨h,h1⟩,h2⟩,fun⟨m,⟨h,h1⟩,h2⟩=>⟨h,m,h1,h2⟩⟩
def arG{s:eG}{a b:l_}(h:kN s (a++b) s):∃m,kN m (b++a) m:=by obtain⟨m,h1,h2⟩:=Ox.1 h;exact⟨m,Ox.2 ⟨s,h2,h1⟩⟩
structure X4 (g:Bool) (i o j q:eG):Prop where
 a:if g then i.l=q.l else i.l=j.r
 b:if g then o.r=j.r else o.r=q.l
 c:if g then j.l=i.r else j.l=o.l
 d:if g then q.r=o.l else q.r=i.r
def gX (l:Let):Bool:=l.over==(l.sign==1)
structure Xc (x y:aQ):Prop where
 ov:x.k.over= !y.k.over
 sg:x.k.sign=y.k.sign
 x4:X4 (gX x.k) x.i x.o y.i y.o
def Xc.symm{x y:aQ}(h:Xc x y):Xc y x:=by
 obtain⟨h1,h2,a,b,c,d⟩:=h;have e:gX y.k= !gX x.k:=by unfold gX;rw[h1,h2];cases y.k.over<;>cases (y.k.sign==1)<;>rfl
 refine⟨by rw[h1];simp,h2.symm,?_⟩;rw[e];cases hg:gX x.k
 .rw[hg] at a b c d;simp only[dN,if_false] at a b c d;constructor<;>simp only[Bool.not_false,if_true]
  .exact c
  .exact d
  .exact a
  exact b
 rw[hg] at a b c d;simp only[if_true] at a b c d;constructor<;>simp only[Cx,dN,if_false]
 .exact c
 .exact d
 .exact a
 exact b
def jh(s:eG):eG:=⟨s.r,s.l,s.b⟩
def aQ.up(x:aQ):eG:=if x.p.d then x.i else jh x.o
def aQ.lo(x:aQ):eG:=if x.p.d then x.o else jh x.i
structure AU (F:Nat) (x:aQ):Prop where
 bad:dL F x.k=false
 cb:x.k.aA=true->x.i.b=x.o.b
 pb:x.k.aE=true->x.o.b=x.p.d/\x.i.b= !x.p.d
def Xr (x y:aQ):Prop:=x.k.aA=true->y.k.aA=true->x.k.id=y.k.id->Xc x y
def Xr.symm{x y:aQ}(h:Xr x y):Xr y x:=fun a b c=>(h b a c.symm).symm
def Dr (x y:aQ):Prop:=x.k.aE=true->y.k.aE=true->x.k.gate=y.k.gate->x.k.aC≠y.k.aC
def Dr.symm{x y:aQ}(h:Dr x y):Dr y x:=fun a b c d=>h b a c.symm d.symm
structure Ie (T B:Nat->Nat->Nat) (x:aQ):Prop where
 wt:x.up.r=T x.k.gate.toNat (x.k.aC.toNat-1)
 et:x.up.l=T x.k.gate.toNat x.k.aC.toNat
 wb:x.lo.r=B x.k.gate.toNat (x.k.aC.toNat-1)
 eb:x.lo.l=B x.k.gate.toNat x.k.aC.toNat
abbrev aR(z:l_):ai:=z.map aQ.k
structure Cz (F:Nat) (z:l_) (T B:Nat->Nat->Nat) (S:a_):Prop where
 path:∃s,kN s z s
 ok:∀x∈z,AU F x
 cr:z.Pairwise Xr
 ev:aq Let.aA (aR z)%2=0
 ids:∀x∈z,x.k.aA=true->1<=x.k.id/\x.k.id<=((aq Let.aA (aR z)/2:Nat):Int)
 rk:z.Pairwise Dr
 rr:∀x∈z,x.k.aE=true->1<=x.k.aC/\x.k.aC<=(cg (aR z) x.k.gate.toNat:Int)
 pl:∀x∈z,x.k.aE=true->Ie T B x
 gt:∀g,g<F->T g (cg (aR z) g)=T (g+1) 0/\B g (cg (aR z) g)=B (g+1) 0
 gz:T F (cg (aR z) F)=T 0 0/\B F (cg (aR z) F)=B 0 0
 one:∃x∈z,x.k.aE=true
 nd:S.Nodup
 wit:∀s∈S,∃x∈z,s=x.o.l\/s=x.o.r
 num:aq Let.aE (aR z)+aq Let.aA (aR z)/2+1<=S.length
def Cert(F:Nat)(l:c_):Prop:= ∃z T B S,z.map aQ.p=l/\Cz F z T B S
def CW{p:Let->Bool}{z z':l_}(h:z.Perm z'):aq p (aR z)=aq p (aR z'):=(h.map aQ.k).countP_eq p
def Cz.perm{z z':l_}{T B:Nat->Nat->Nat}{S:a_}(c:Cz F z T B S)(h:z.Perm z')(hp:∃s,kN s z' s):Cz F z' T B S:=by
 have hm:∀ {x},x∈z'↔x∈z:=fun {x}=>h.symm.mem_iff;have e:∀p,aq p (aR z')=aq p (aR z):=fun p=>(CW h).symm;have eg:∀g,cg (aR z') g=cg (aR z) g:=fun g=>e _;refine⟨hp,fun x hx=>c.ok x (hm.1 hx),(h.pairwise_iff fun {x y}=>Xr.symm).1 c.cr,by rw[e];exact c.ev,fun x hx=>by rw[e];exact c.ids x (hm.1 hx),(h.pairwise_iff fun {x y}=>Dr.symm).1 c.rk,
  fun x hx=>by rw[eg];exact c.rr x (hm.1 hx),fun x hx=>c.pl x (hm.1 hx),fun g hg=>by rw[eg];exact c.gt g hg,by rw[eg];exact c.gz,?_,c.nd,fun s hs=>?_,by rw[e,e];exact c.num⟩
 .obtain⟨x,hx,h1⟩:=c.one;exact⟨x,hm.2 hx,h1⟩
 obtain⟨x,hx,h1⟩:=c.wit s hs;exact⟨x,hm.2 hx,h1⟩
def Cz.lM{a b:l_}{T B:Nat->Nat->Nat}{S:a_}(c:Cz F (a++b) T B S):Cz F (b++a) T B S:=by obtain⟨s,h⟩:=c.path;exact c.perm (List.perm_append_comm) (arG h)
def Cert.lM{a b:c_}(c:Cert F (a++b)):Cert F (b++a):=by obtain⟨z,T,B,S,h,c⟩:=c;obtain⟨x,y,rfl,rfl,rfl⟩:=List.map_eq_append_iff.1 h;exact⟨y++x,T,B,S,by rw[kZ],c.lM⟩
def arE:∀ {z:l_} {s t:eG},(∀x∈z,AU F x)->kN s z t->s.b=false->t.b=true->∃x∈z,x.k.aE=true/\x.p.d=true:=by
 intro z
 induction z with
 |nil=>intro s t _ h h1 h2;cases h;rw[h1] at h2;cases h2
 |cons x z ih=>
  intro s t ok h h1 h2;obtain⟨rfl,h⟩:=h;have ox:=ok x af;by_cases hd:x.k.aE=true/\x.p.d=true
  .exact⟨x,af,hd⟩
  have hb:x.o.b=false:=by
   rcases v7 ox.bad with hp|hc
   .rw[(ox.pb hp).1];cases Hl:x.p.d
    .rfl
    exact absurd ⟨hp,Hl⟩ hd
   rw[<- ox.cb hc];exact h1
  obtain⟨y,hy,e⟩:=ih (fun x hx=>ok x (by simp[hx])) h hb h2;exact⟨y,by simp[hy],e⟩
def Cz.down{z:l_}{T B:Nat->Nat->Nat}{S:a_}(c:Cz F z T B S):∃x∈z,x.k.aE=true/\x.p.d=true:=by
 obtain⟨x,hx,hp⟩:=c.one;cases hd:x.p.d
 .obtain⟨a,b,rfl⟩:=List.append_of_mem hx;have c2:=c.lM;obtain⟨s,h⟩:=c2.path;obtain⟨rfl,h⟩:=h;obtain⟨e1,e2⟩:=(c.ok x af).pb hp;rw[hd] at e1 e2;obtain⟨y,hy,e⟩:=arE (fun y hy=>c.ok y (by
   rcases eK.1 hy with hy|hy
   .simp[hy]
   simp[hy])) h e1 e2
  refine⟨y,?_,e⟩;rcases eK.1 hy with hy|hy
  .simp[hy]
  simp[hy]
 exact⟨x,hx,hp,hd⟩
def Sd{l:c_}{f:Nat}(hf:f<=l.length):wY l f l.length=(l.drop f++l.take f).map Pc.l:=by
 apply Bb;intro i;by_cases hi:i<l.length
 .have h1:(wY l f l.length)[i]?=some (l.getD ((f+i)%l.length) ⟨lX,false⟩).l:=by
   simp[wY,hi]
  rw[h1,fG];by_cases h2:f+i<l.length
  .rw[xh (by simp;omega),zJ,gY h2];simp[h2]
  rw[zI (by simp;omega),lO];have h3:(f+i)%l.length=i-(l.length-f):=by rw[Nat.mod_eq_sub_mod aa,gY aa];omega
  have h4:i-(l.length-f)<l.length:=aa;rw[h3,mI,aD aa];simp[h4]
 have h1:(wY l f l.length).length=l.length:=by simp[wY]
 rw[qp (by rw[h1];omega),qp (by simp;omega)]
def Cert.fin{l:c_}(c:Cert F l):∃z T B S x r,z=x::r/\x.k.aE=true/\x.p.d=true/\aR z=eL l/\z.length=l.length/\Cz F z T B S:=by
 obtain⟨z,T,B,S,h,c⟩:=c;subst h;obtain⟨x,hx,hp,hd⟩:=c.down;have hP:∀y:aQ,y.k.aE=(y.p.l.kind==1):=fun y=>rfl;obtain⟨j,hj⟩:=iJ hx;have ow:=(aT.1 hj).1;have Aw:(z.map aQ.p)[j]?=some x.p:=by rw[fG,hj];rfl
 obtain⟨f,hf⟩:∃f,sQ (z.map aQ.p)=some f:=by
  cases h:sQ (z.map aQ.p) with
  |some f=>exact⟨f,rfl⟩
  |none=>have:=ID.1 h j (by simpa using ow);rw[Oy Aw] at this;unfold DR at this;rw[hP] at hp;simp[hp,hd] at this
 have h1:=Lz hf;have h2:f<z.length:=by
  have:=IH hf
  simpa using this
 obtain⟨y,hy⟩:=aT.2 ⟨h2,rfl⟩ |> fun h=>(⟨_,h⟩:∃y,z[f]?=some y)
 have hyp:(z.map aQ.p)[f]?=some y.p:=by rw[fG,hy];rfl
 rw[Oy hyp] at h1;unfold DR at h1;rw[cU] at h1;have hz:z=z.take f++y::z.drop (f+1):=by obtain⟨hl,e⟩:=aT.1 hy;rw[<- e,uc,mJ]
 have An:z.drop f=y::z.drop (f+1):=by obtain⟨hl,e⟩:=aT.1 hy;rw[<- e,uc]
 refine⟨y::z.drop (f+1)++z.take f,T,B,S,y,z.drop (f+1)++z.take f,rfl,h1.1,h1.2,?_,?_,?_⟩
 .unfold eL;rw[hf,nO,Sd (by rw[cM];omega),<- An];simp only[kZ,List.map_drop,IG,ue];rfl
 .rw[<- An,fS,lO,iK,cM];omega
 rw[hz] at c;exact c.lM
def alx{ls:ai}(he:aq Let.aA ls%2=0)(hi:Xl ls)(hp:Ib ls):mO ls=true:=by
 rw[T0 he (Ix.2 ⟨hi,hp⟩)];have NV:=YO ls;have hle:∀id∈fi ls ls.length,aq (mz id) ls<=2:=fun id _=>by rw[QV id];have:=BA hp id true;have:=BA hp id false;omega
 have h1:=aie (f:=fun id=>aq (mz id) ls) _ hle;have h2:(fi ls ls.length).length<=aq Let.aA ls/2:=by
  have hr:∀id∈fi ls ls.length,1<=id/\id<=((aq Let.aA ls/2:Nat):Int):=fun id hid=>by obtain⟨j,o,hj,hh⟩:=(HM (bR _)).1 hid;obtain⟨m,hm,mc,mi,_⟩:=BB hh;rw[<- mi];exact hi m (aV hm) mc
  have:=Lg ((fi ls ls.length).map Int.toNat) (List.range' 1 (aq Let.aA ls/2)) ?_ ?_
  .rwa[cM,List.length_range'] at this
  .refine ym.2 (List.Pairwise.imp_of_mem (fun {a b} ha hb h e=>h ?_) (QN ls ls.length));have:=hr a ha;have:=hr b hb;omega
  intro x hx;obtain⟨id,hid,rfl⟩:=dh.1 hx;have:=hr id hid;rw[List.mem_range'_1];omega
 simp only[dk];omega
def KV{s t:eG}{z:l_}{x:aQ}(h:kN s z t)(hx:z[0]?=some x):x.i=s:=by
 cases z with
 |nil=>cases hx
 |cons y z=>cases hx;exact h.1
def agO:∀ {z:l_} {s t:eG} {i:Nat} {x y:aQ},kN s z t->z[i]?=some x->z[i+1]?=some y->x.o=y.i:=by
 intro z
 induction z with
 |nil=>intro s t i x y _ hx;cases hx
 |cons a z ih=>
  intro s t i x y h hx hy;cases i with
  |zero=>cases hx;exact(KV h.2 hy).symm
  |succ i=>exact ih h.2 hx hy
def agM:∀ {z:l_} {s t:eG} {x:aQ},kN s z t->z[z.length-1]?=some x->x.o=t:=by
 intro z
 induction z with
 |nil=>intro s t x _ hx;cases hx
 |cons a z ih=>
  intro s t x h hx;cases z with
  |nil=>cases hx;exact h.2
  |cons b z=>exact ih h.2 hx
def agL{z:l_}{s:eG}{j:Nat}{x y:aQ}(h:kN s z s)(hx:z[j]?=some x)(hy:z[(j+1)%z.length]?=some y):x.o=y.i:=by
 have hj:=(aT.1 hx).1;by_cases c:j+1<z.length
 .rw[gY c] at hy;exact agO h hx hy
 have:j+1=z.length:=aa;rw[this,En] at hy;rw[agM h (by rw[<- this];exact hx),KV h hy]
def BZ{z:l_}{i:Nat}{x:aQ}(h:z[i]?=some x):(aR z)[i]?=some x.k:=by rw[fG,h];rfl
def DL{z:l_}{i:Nat}{l:Let}(h:(aR z)[i]?=some l):∃x,z[i]?=some x/\x.k=l:=by rw[fG,dS] at h;exact h
def Ru{z:l_}{s t:eG}(ok:∀x∈z,AU F x)(h:kN s z t)(hs:s.b=false):∀i x,z[i]?=some x->x.i.b= !dn (aR z) i/\x.o.b= !dn (aR z) (i+1):=by
 have step:∀i x,z[i]?=some x->x.i.b=(!dn (aR z) i)->x.o.b= !dn (aR z) (i+1):=fun i x hx hb=>by
  have ox:=ok x (aV hx);rcases v7 ox.bad with hp|hc
  .rw[Mi (BZ hx) hp,Bool.not_not,(ox.pb hp).1];have:=(ox.pb hp).2;rw[hb] at this;revert this;cases dn (aR z) i<;>cases x.p.d<;>simp
  rw[Mj (BZ hx) (by
   cases hp:x.k.aE
   .rfl
   rw[qN hp] at hc;cases hc),<- hb,ox.cb hc]
 intro i
 induction i with
 |zero=>
  intro x hx;have:x.i.b= !dn (aR z) 0:=by rw[KV h hx,hs];rfl
  exact⟨this,step 0 x hx this⟩
 |succ i ih=>intro y hy;obtain⟨x,hx⟩:=aM (ls:=z) (k:=i) (by have:=(aT.1 hy).1;omega);have e:=(ih x hx).2;rw[agO h hx hy] at e;exact⟨e,step (i+1) y hy e⟩
def agU{ls:ai}{f:Nat->Nat->Nat}(hf:∀g,g<F->f g (cg ls g)=f (g+1) 0):∀(d g k g' k':Nat),g'=g+d->g'<=F->k<=cg ls g->k'<=cg ls g'->fL ls g+k=fL ls g'+k'->f g k=f g' k':=by
 intro d
 induction d with
 |zero=>intro g k g' k' e _ _ _ h;rw[u9] at e;subst e;rw[show k=k' by omega]
 |succ d ih=>intro g k g' k' e hF hk kS h;have hm:=Br (ls:=ls) (show g+1<=g' by omega);have hs:=uv ls g;have:k=cg ls g:=aa;subst this;rw[hf g aa];exact ih (g+1) 0 g' k' aa hF (bG _) kS aa
def Yj{ls:ai}{f:Nat->Nat->Nat}(hf:∀g,g<F->f g (cg ls g)=f (g+1) 0){g k g' k':Nat}(hg:g<=F)(Ds:g'<=F)(hk:k<=cg ls g)(kS:k'<=cg ls g')(h:fL ls g+k=fL ls g'+k'):f g k=f g' k':=by
 rcases Nat.le_total g g' with c|c
 .exact agU hf (g'-g) g k g' k' aa Ds hk kS h
 exact(agU hf (g-g') g' k' g k aa hg kS hk h.symm).symm
def noE:aQ:=⟨⟨lX,false⟩,⟨0,0,false⟩,⟨0,0,false⟩⟩
def qh(z:l_)(x:Nat):Nat:=
 if x<2*z.length then (if x%2=0 then (z.getD (x/2) noE).o.l else (z.getD (x/2) noE).o.r)
 else if x%2=0 then (z.getD ((aG (aR z)).getD ((x-2*z.length)/2) 0) noE).up.l else (z.getD ((aG (aR z)).getD ((x-2*z.length)/2) 0) noE).lo.l
def EX{z:l_}{i:Nat}{x:aQ}(h:z[i]?=some x):z.getD i noE=x:=by rw[dA,h];rfl
section
variable {F:Nat} {z:l_} {s:eG}
def XE(h:kN s z s){v:Nat}{x:aQ}(hx:z[v]?=some x)(g:Bool):qh z (dF z.length v g)=if g then x.o.l else x.i.r:=by
 have hv:=(aT.1 hx).1;cases g with
 |true=>show qh z (2*v)=_;unfold qh;rw[aD aa,aD aa,show 2*v/2=v by omega,EX hx];rfl
 |false=>show qh z (2*((v+z.length-1)%z.length)+1)=_;have hm:=dr (v+z.length-1) (show 0<z.length by omega);obtain⟨y,hy⟩:=aM (ls:=z) hm;have e:=agL h hy (by rw[vH hv];exact hx);unfold qh;rw[aD aa,ay aa,show(2*((v+z.length-1)%z.length)+1)/2=(v+z.length-1)%z.length by omega,EX hy,e];rfl
def apT(h:kN s z s){v:Nat}{x:aQ}(hx:z[v]?=some x)(g:Bool):qh z (gE z.length v g)=if g then x.i.l else x.o.r:=by
 have hv:=(aT.1 hx).1;cases g with
 |false=>show qh z (2*v+1)=_;unfold qh;rw[aD aa,ay aa,show(2*v+1)/2=v by omega,EX hx];rfl
 |true=>show qh z (2*((v+z.length-1)%z.length))=_;have hm:=dr (v+z.length-1) (show 0<z.length by omega);obtain⟨y,hy⟩:=aM (ls:=z) hm;have e:=agL h hy (by rw[vH hv];exact hx);unfold qh;rw[aD aa,aD aa,show(2*((v+z.length-1)%z.length))/2=(v+z.length-1)%z.length by omega,EX hy,e];rfl
def afD{k v:Nat}{x:aQ}(ha:(aG (aR z)).getD k 0=v)(hx:z[v]?=some x):qh z (2*z.length+2*k)=x.up.l:=by unfold qh;rw[ay aa,aD aa,show(2*z.length+2*k-2*z.length)/2=k by omega,ha,EX hx]
def afC{k v:Nat}{x:aQ}(ha:(aG (aR z)).getD k 0=v)(hx:z[v]?=some x):qh z (2*z.length+2*k+1)=x.lo.l:=by unfold qh;rw[ay aa,ay aa,show(2*z.length+2*k+1-2*z.length)/2=k by omega,ha,EX hx]
def Cz.Rs{T B:Nat->Nat->Nat}{S:a_}(c:Cz F z T B S){i j:Nat}{x y:aQ}(hx:z[i]?=some x)(hy:z[j]?=some y)(iv:i≠j):Xr x y/\Dr x y:=by
 obtain⟨hi,ex⟩:=aT.1 hx;obtain⟨hj,ey⟩:=aT.1 hy;subst ex ey;rcases Nat.lt_or_gt_of_ne iv with h|h
 .exact⟨SO.1 c.cr i j hi hj h,SO.1 c.rk i j hi hj h⟩
 exact⟨(SO.1 c.cr j i hj hi h).symm,(SO.1 c.rk j i hj hi h).symm⟩
def Cz.fy{T B:Nat->Nat->Nat}{S:a_}(c:Cz F z T B S){x:aQ}(hx:x∈z)(hp:x.k.aE=true):vr F (aR z) x.k:=by obtain⟨⟨⟨⟨g0,g1⟩,_⟩,_⟩,_⟩:=(sB hp).1 (c.ok x hx).bad;obtain⟨r0,r1⟩:=c.rr x hx hp;exact⟨g0,g1,r0,r1⟩
def Cz.dg{T B:Nat->Nat->Nat}{S:a_}(c:Cz F z T B S)(hl:z.length<=1000000):fA F (aR z):=by
 refine⟨by rw[cM];exact hl,⟨fun l hl hp=>?_,fun i j l m hi hj pl pm e=>?_⟩,alx c.ev (fun l hl hc=>?_) (fun i j l m hi hj cl cm e iv=>?_),fun l hl=>?_⟩
 .obtain⟨x,hx,rfl⟩:=dh.1 hl;exact c.fy hx hp
 .obtain⟨x,hx,rfl⟩:=DL hi;obtain⟨y,hy,rfl⟩:=DL hj;refine Decidable.byContradiction fun iv=>?_;obtain⟨h1,h2⟩:=(Ih (c.fy (aV hx) pl) (c.fy (aV hy) pm)).1 e;exact(c.Rs hx hy iv).2 pl pm h1 h2
 .obtain⟨x,hx,rfl⟩:=dh.1 hl;exact c.ids x hx hc
 .obtain⟨x,hx,rfl⟩:=DL hi;obtain⟨y,hy,rfl⟩:=DL hj;have:=(c.Rs hx hy iv).1 cl cm e;refine⟨?_,this.sg⟩;rw[this.ov];cases y.k.over<;>simp
 obtain⟨x,hx,rfl⟩:=dh.1 hl;exact v7 (c.ok x hx).bad
def Cz.rY{T B:Nat->Nat->Nat}{S:a_}(c:Cz F z T B S):rY F (aR z):=fun l hl hp=>by obtain⟨x,hx,rfl⟩:=dh.1 hl;exact((sB hp).1 (c.ok x hx).bad).1.1.1
def Cz.Pj{T B:Nat->Nat->Nat}{S:a_}(c:Cz F z T B S)(hl:z.length<=1000000){k u v:Nat}{x y:aQ}(hu:(aG (aR z))[k]?=some u)(hv:(aG (aR z))[(k+1)%(aG (aR z)).length]?=some v)(hx:z[u]?=some x)(hy:z[v]?=some y):x.up.l=y.up.r/\x.lo.l=y.lo.r:=by
 have ok:=c.dg hl;have hk:=(aT.1 hu).1;obtain⟨l,l1,l2,l3⟩:=Bk ok.ax hu;obtain⟨m,m1,m2,m3⟩:=Bk ok.ax hv;rw[BZ hx] at l1;cases l1;rw[BZ hy] at m1;cases m1;have gx:=c.fy (aV hx) l2;have gy:=c.fy (aV hy) m2;have px:=c.pl x (aV hx) l2;have py:=c.pl y (aV hy) m2;obtain⟨x1,x2,x3,x4⟩:=gx;obtain⟨y1,y2,y3,y4⟩:=gy;have key:∀f:Nat->Nat->Nat,(∀g,g<F->f g (cg (aR z) g)=f (g+1) 0)->f F (cg (aR z) F)=f 0 0->f x.k.gate.toNat x.k.aC.toNat=f y.k.gate.toNat (y.k.aC.toNat-1):=by
  intro f hf hz;unfold eB at l3 m3;by_cases c1:k+1<(aG (aR z)).length
  .rw[gY c1] at m3;exact Yj hf aa aa aa aa aa
  have hT:=Gn c.rY;have hs:=uv (aR z) F;have:k+1=(aG (aR z)).length:=aa;rw[this,En] at m3;rw[Yj hf (g:=x.k.gate.toNat) (k:=x.k.aC.toNat) (g':=F) (k':=cg (aR z) F) aa (bR _) aa (bR _) aa,hz];exact Yj hf (bG _) aa (bG _) aa (by show 0+0=_;omega)
 exact⟨by rw[px.et,py.wt];exact key T (fun g hg=>(c.gt g hg).1) c.gz.1,by rw[px.eb,py.wb];exact key B (fun g hg=>(c.gt g hg).2) c.gz.2⟩
def Cz.walk{T B:Nat->Nat->Nat}{S:a_}(c:Cz F z T B S)(hl:z.length<=1000000)(h:kN s z s)(hs:s.b=false)(hx:x<nD (aR z)):qh z (aW (aR z) x)=qh z x:=by
 have ok:=c.dg hl;have hn:(aR z).length=z.length:=cM ..;have hN:nD (aR z)=2*z.length+2*(aG (aR z)).length:=by unfold nD;rw[hn]
 have fg:=Ru c.ok h hs;by_cases c1:x<2*z.length
 .obtain⟨v,fw,hv,rfl⟩:∃v fw,v<z.length/\x=gE z.length v fw:=⟨_,_,by
   split
   .exact dr _ aa
   omega,Ph c1⟩
  obtain⟨e,he⟩:=aM (ls:=z) hv;have hle:=BZ he;have oe:=c.ok e (aV he);rw[apT h he];rcases v7 oe.bad with hp|hc
  .have hd:dn (aR z) v=e.p.d:=by
    have:=(fg v e he).1;rw[(oe.pb hp).2] at this;revert this;cases e.p.d<;>cases dn (aR z) v<;>simp
   obtain⟨a1,a2⟩:=LV ok hle hp;have t:=Ip hle hp fw;rw[hn] at t;rw[t,hd];by_cases c2:(e.p.d==fw)=true
   .rw[aD c2,afD a2 he];unfold aQ.up;have:=eq_of_beq c2;subst this;cases e.p.d<;>rfl
   rw[ay c2];have hm:=dr ((aG (aR z)).idxOf v+(aG (aR z)).length-1) (show 0<(aG (aR z)).length by omega);obtain⟨u,hu⟩:=aM hm;obtain⟨l,u1,u2⟩:=ui.1 (aV hu);obtain⟨y,hy,rfl⟩:=DL u1;have hv':(aG (aR z))[(aG (aR z)).idxOf v]?=some v:=by obtain⟨q,hq⟩:=aM a1;rw[dA,hq] at a2;rw[hq];exact congrArg some a2
   have:=(c.Pj hl hu (by rw[vH a1];exact hv') hy he).2;rw[afC (by rw[dA,hu];rfl) hy,this];unfold aQ.lo;revert c2;cases e.p.d<;>cases fw<;>simp[jh]
  obtain⟨b1,m,hm,mc,mi,mo,ms⟩:=sC ok.cr hle hc;obtain⟨y,hy,rfl⟩:=DL hm;have aI:v≠fJ (aR z) v:=by intro ee;rw[<- ee,hle] at hm;have:=qt hm;rw[<- this] at mo;revert mo;cases e.k.over<;>simp
  obtain⟨_,_,xa,xb,xc,xd⟩:=(c.Rs he hy aI).1 hc mc mi.symm;have t:=zA hle hc fw;rw[hn] at t;rw[t,XE h hy];unfold gX at xa xb;cases hg:(e.k.over==(e.k.sign==1))<;>rw[hg] at xa xb<;>simp only[dN,if_false,if_true] at xa xb<;>cases fw<;>simp_all
 have hk:(x-2*z.length)/2<(aG (aR z)).length:=aa;obtain⟨u,hu⟩:=aM hk;obtain⟨l,u1,u2⟩:=ui.1 (aV hu);obtain⟨e,he,rfl⟩:=DL u1;have hgu:(aG (aR z)).getD ((x-2*z.length)/2) 0=u:=by rw[dA,hu];rfl
 rcases xn x with AP|AP
 .have ex:x=2*z.length+2*((x-2*z.length)/2):=aa;have hm:=dr ((x-2*z.length)/2+1) (show 0<(aG (aR z)).length by omega);obtain⟨w,hw⟩:=aM hm;obtain⟨l,w1,w2⟩:=ui.1 (aV hw);obtain⟨y,hy,rfl⟩:=DL w1;have hgw:(aG (aR z)).getD (((x-2*z.length)/2+1)%(aG (aR z)).length) 0=w:=by rw[dA,hw];rfl
  have oy:=c.ok y (aV hy);have hd:dn (aR z) w=y.p.d:=by have:=(fg w y hy).1;rw[(oy.pb w2).2] at this;revert this;cases y.p.d<;>cases dn (aR z) w<;>simp
  have t:=F9 (ls:=aR z) ((x-2*z.length)/2);rw[hn,<- ex] at t;rw[t,hgw,XE h hy,hd];have a:=(c.Pj hl hu hw he hy).1;have r:=afD hgu he;rw[<- ex] at r;rw[r,a];unfold aQ.up;cases y.p.d<;>simp[jh]
 have ex:x=2*z.length+2*((x-2*z.length)/2)+1:=aa;have oy:=c.ok e (aV he);have hd:dn (aR z) u=e.p.d:=by have:=(fg u e he).1;rw[(oy.pb u2).2] at this;revert this;cases e.p.d<;>cases dn (aR z) u<;>simp
 have t:=F8 (ls:=aR z) ((x-2*z.length)/2);rw[hn,<- ex] at t;rw[t,hgu,XE h he,hd];have r:=afC hgu he;rw[<- ex] at r;rw[r];unfold aQ.lo;cases e.p.d<;>simp[jh]
def Cz.check{T B:Nat->Nat->Nat}{S:a_}(c:Cz F z T B S){x:aQ}{r:l_}(hz:z=x::r)(hp:x.k.aE=true)(hd:x.p.d=true)(hl:z.length<=400)(eV:aq Let.aA (aR z)<=200)(hF:F<=40):bQ F (aR z)=0:=by
 have ok:=c.dg aa;have hn:(aR z).length=z.length:=cM ..;obtain⟨s,h⟩:=c.path;have pJ:z[0]?=some x:=by rw[hz];rfl
 have hs:s.b=false:=by rw[<- KV h pJ,((c.ok x (aV pJ)).pb hp).2,hd];rfl
 have jU:0<z.length:=by rw[hz];simp
 have fg:=Ru c.ok h hs;have eD:aq Let.aE (aR z)%2=0:=by
  obtain⟨y,hy⟩:=aM (ls:=z) (k:=z.length-1) aa;have:=(fg _ y hy).2;rw[agM h hy,hs,show z.length-1+1=(aR z).length by rw[hn];omega] at this;unfold dn at this;rw[lf] at this
  simpa using this
 have NF:mT (aR z)=aq Let.aE (aR z)+aq Let.aA (aR z)/2+2:=by
  obtain⟨b1,b2⟩:=amM ok;have key:∀a∈S,∃d,qh z d=a/\d<2*z.length:=fun a ha=>by
   obtain⟨y,hy,e⟩:=c.wit a ha;obtain⟨j,hj⟩:=iJ hy;have ow:=(aT.1 hj).1;rcases e with e|e
   .exact⟨2*j,by unfold qh;rw[aD aa,aD aa,show 2*j/2=j by omega,EX hj,e],aa⟩
   exact⟨2*j+1,by unfold qh;rw[aD aa,ay aa,show(2*j+1)/2=j by omega,EX hj,e],aa⟩
  obtain⟨M,m1,m2⟩:=afL (P:=fun a d=>qh z d=a/\d<2*z.length) (f:=qh z) (fun a d h=>h.1) key;have hN:nD (aR z)=2*z.length+2*(aG (aR z)).length:=by unfold nD;rw[hn]
  have:=avS (maps ok) (φ:=qh z) (fun y hy=>c.walk aa h hs hy) (reps:=M) (fun d hd=>by obtain⟨_,_,h⟩:=m2 d hd;omega) (by rw[m1];exact c.nd)
  have hM:M.length=S.length:=by rw[<- m1,cM]
  have hnum:=c.num;have:M.length<=mT (aR z):=this;omega
 have aI:aR z≠[]:=by intro e;rw[e] at hn;simp at hn;omega
 unfold bQ;rw[ay (by rw[hn];omega),ay aa,ay aI,aD];unfold mE;have my:=(OD c.rY).2 ⟨ok.ax.fy,ok.ax.inj⟩;have Wv:(aR z).any (dL F)=false:=IA.2 fun l hl=>by obtain⟨y,hy,rfl⟩:=dh.1 hl;rw[(c.ok y hy).bad];decide
 rw[BZ pJ,XK.2 ⟨Wv,my,ok.cr⟩,NF,eD];have hk:(x.k.kind==1)=true:=hp;simp only[hk,Cy,yg]
def Cert.check{l:c_}(c:Cert F l)(hl:l.length<=400)(eV:aq Let.aA (l.map Pc.l)<=200)(hF:F<=40):bQ F (eL l)=0:=by
 obtain⟨w,T,B,S,x,r,hz,hp,hd,yY,hlen,cz⟩:=c.fin;have pI:aq Let.aA (aR w)=aq Let.aA (l.map Pc.l):=by
  rw[yY];have hf:(sQ l).getD 0<=l.length:=by
   cases h:sQ l with
   |none=>exact bG _
   |some f=>have:=IH h;simp at this;simp only[nO];omega
  unfold eL;rw[Sd hf];show List.countP _ _=List.countP _ _;rw[kZ,xf,Nat.add_comm,<- xf,<- kZ,mJ]
 rw[<- yY];exact cz.check hz hp hd aa aa hF
end
def xZ(ls:ai)(x:Nat):Nat:=Ee (gU (aW ls) (nD ls)) x
def rJ(ls:ai)(i:Nat):eG:=⟨xZ ls (2*i),xZ ls (2*i+1),!dn ls (i+1)⟩
def ek(ls:ai)(i:Nat):aQ:=⟨⟨ls.getD i lX,iT ls i⟩,rJ ls ((i+ls.length-1)%ls.length),rJ ls i⟩
def zF (ls:ai):l_:=(List.range ls.length).map (ek ls)
def TF (ls:ai)(g k:Nat):Nat:=xZ ls (2*ls.length+2*((fL ls g+k+(aG ls).length-1)%(aG ls).length))
def BF (ls:ai)(g k:Nat):Nat:=xZ ls (2*ls.length+2*((fL ls g+k+(aG ls).length-1)%(aG ls).length)+1)
def Iz(ls:ai):(zF ls).map aQ.p=pieces ls:=by unfold zF pieces;rw[ue];rfl
def mF(ls:ai):aR (zF ls)=ls:=by
 have h:aR (zF ls)=(pieces ls).map Pc.l:=by rw[<- Iz,ue];rfl
 rw[h];apply Bb;intro i;rw[fG];by_cases hi:i<ls.length
 .obtain⟨l,hl⟩:=aM hi;rw[qP hl,hl];rfl
 rw[qp (by rw[fK];omega),qp aa];rfl
def Lv(ls:ai):(zF ls).length=ls.length:=by simp[zF]
def Gb{ls:ai}{i:Nat}(h:i<ls.length):(zF ls)[i]?=some (ek ls i):=by simp[zF,h]
def eE{ls:ai}{i:Nat}{l:Let}(h:ls[i]?=some l):(ek ls i).k=l:=by show ls.getD i lX=l;rw[dA,h];rfl
def agN(f:Nat->aQ)(e:Nat->eG):∀k a,(∀i,a<=i->i<a+k->(f i).i=e i/\(f i).o=e (i+1))->kN (e a) ((List.range' a k).map f) (e (a+k)):=by
 intro k
 induction k with
 |zero=>intro a _;rfl
 |succ k ih=>intro a h;rw[List.range'_succ,eh];obtain⟨h1,h2⟩:=h a (bR _) aa;refine⟨h1,?_⟩;rw[h2,show a+(k+1)=a+1+k by omega];exact ih (a+1) fun i hi hk=>h i aa aa
def Rr{R:aQ->aQ->Prop}{f:Nat->aQ}{n:Nat}(h:∀i j,i<n->j<n->i≠j->R (f i) (f j)):((List.range n).map f).Pairwise R:=ym.2 (List.Pairwise.imp_of_mem (fun {a b} ha hb ef=>h a b (gV.1 ha) (gV.1 hb) ef) (Gg (n:=n)))
section
variable {F:Nat} {ls:ai}
def Yh(g:cX F ls){i:Nat}{w:a_}(hi:(gU (aW ls) (nD ls))[i]?=some w)(hx:x∈w):xZ ls x=i:=OT (Cv _ _).1 hi hx
def arM(g:cX F ls)(hx:x<nD ls):∃w,(gU (aW ls) (nD ls))[xZ ls x]?=some w/\x∈w:=by obtain⟨u,hu,HJ⟩:=Ge.1 ((Cv (aW ls) (nD ls)).2 x hx);obtain⟨i,hi⟩:=iJ hu;rw[Yh g hi HJ];exact⟨u,hi,HJ⟩
def FX(g:cX F ls)(hx:x<nD ls):xZ ls (aW ls x)=xZ ls x:=by obtain⟨w,hw,FD⟩:=arM g hx;exact Yh g hw (Cu (maps g.ok) (aV hw) FD)
def Yg(g:cX F ls){v:Nat}(hv:v<ls.length)(fw:Bool):xZ ls (gE ls.length v fw)=if fw then (ek ls v).i.l else (ek ls v).o.r:=by cases fw<;>rfl
def Rz{v:Nat}(fw:Bool):xZ ls (dF ls.length v fw)=if fw then (ek ls v).o.l else (ek ls v).i.r:=by cases fw<;>rfl
def abl(g:cX F ls):dn ls ls.length=true:=by unfold dn;rw[lf];have:=g.even;simp[this]
def Xo(g:cX F ls){i:Nat}(hi:i<ls.length):(ek ls i).i.b= !dn ls i:=by
 show(!dn ls ((i+ls.length-1)%ls.length+1))=_;by_cases h:i=0
 .subst h;rw[js,gY aa,show ls.length-1+1=ls.length by omega,abl g];rfl
 rw[show i+ls.length-1=(i-1)+ls.length by omega,qV,gY aa,show i-1+1=i by omega]
def IZ{v:Nat}(hv:v<ls.length)(fw:Bool):gE ls.length v fw<nD ls:=by have:=yv hv fw;unfold nD;omega
def PA(g:cX F ls){v:Nat}{l:Let}(hl:ls[v]?=some l)(hp:l.aE=true):(ek ls v).p.d=dn ls v:=by show iT ls v=_;simp[iT,hl,hp]
def ER(g:cX F ls){i:Nat}(hi:i<ls.length):AU F (ek ls i):=by
 obtain⟨l,hl⟩:=aM hi;have hk:=eE hl;refine⟨by rw[hk];exact g.bad l (aV hl),fun hc=>?_,fun hp=>?_⟩
 .rw[hk] at hc;rw[Xo g hi];show _= !dn ls (i+1);rw[Mj hl (by
   cases hp:l.aE
   .rfl
   rw[qN hp] at hc;cases hc)]
 rw[hk] at hp;rw[Xo g hi,PA g hl hp];refine⟨?_,rfl⟩;show(!dn ls (i+1))=_;rw[Mi hl hp,Bool.not_not]
def Mo(g:cX F ls){i j:Nat}(hi:i<ls.length)(hj:j<ls.length)(iv:i≠j):Xr (ek ls i) (ek ls j):=by
 obtain⟨l,hl⟩:=aM hi;obtain⟨m,hm⟩:=aM hj;intro hc mc e;rw[eE hl] at hc e;rw[eE hm] at mc e;obtain⟨_,hp⟩:=g.ids;obtain⟨d1,d2⟩:=hp i j l m hl hm hc mc e iv;obtain⟨b1,w,hw,wc,wi,wo,ws⟩:=sC g.ok.cr hl hc;have hoj:fJ ls i=j:=by refine Classical.byContradiction fun aI=>?_;have d3:=(hp _ _ w m hw hm wc mc (by rw[wi,e]) aI).1;rw[wo] at d3;revert d1 d3;cases l.over<;>cases m.over<;>simp
 refine⟨?_,by rw[eE hl,eE hm];exact d2,?_⟩
 .rw[eE hl,eE hm];revert d1;cases l.over<;>cases m.over<;>simp
 rw[eE hl];have t1:=FX g (IZ hi true);have t2:=FX g (IZ hi false);have t3:=FX g (IZ hj true);have t4:=FX g (IZ hj false);rw[zA hl hc,hoj,Rz,Yg g hi] at t1 t2;rw[zA hm mc,<- hoj,b1,hoj,Rz,Yg g hj] at t3 t4;have hg:(m.over==(m.sign==1))= !gX l:=by unfold gX;rw[<- d2];revert d1;cases l.over<;>cases m.over<;>cases (l.sign==1)<;>simp
 rw[hg] at t3 t4;have Ds:(l.over==(l.sign==1))=gX l:=rfl;rw[Ds] at t1 t2;cases Au:gX l<;>rw[Au] at t1 t2 t3 t4<;>simp at t1 t2 t3 t4<;>constructor<;>simp[t1,t2,t3,t4]
def PB(g:cX F ls){v:Nat}{l:Let}(hl:ls[v]?=some l)(hp:l.aE=true):Ie (TF ls) (BF ls) (ek ls v):=by
 have hv:=(aT.1 hl).1;have ok:=g.ok;have gd:=ok.ax.fy l (aV hl) hp;obtain⟨g0,g1,r0,r1⟩:=gd;obtain⟨a1,a2⟩:=LV ok hl hp;have WL:=Gy ok.ax hl hp;have hP:fL ls l.gate.toNat+l.aC.toNat=(aG ls).idxOf v+1:=by rw[WL];unfold eB;omega
 have hPm:fL ls l.gate.toNat+(l.aC.toNat-1)=(aG ls).idxOf v:=aa;have eR:(fL ls l.gate.toNat+l.aC.toNat+(aG ls).length-1)%(aG ls).length=(aG ls).idxOf v:=by rw[hP,show(aG ls).idxOf v+1+(aG ls).length-1=(aG ls).idxOf v+(aG ls).length by omega,qV,gY a1]
 have hk:=eE hl;have hd:=PA g hl hp;have nR:∀k,k<(aG ls).length->2*ls.length+2*k<nD ls/\2*ls.length+2*k+1<nD ls:=fun k hk=>by unfold nD;omega
 have hm:=dr ((aG ls).idxOf v+(aG ls).length-1) (show 0<(aG ls).length by omega);have q1:=FX g (IZ hv (dn ls v));have q2:=FX g (IZ hv (!dn ls v));have q3:=FX g (nR _ a1).2;have q4:=FX g (nR _ hm).1;rw[Ip hl hp,Yg g hv] at q1 q2;rw[F8,a2,Rz] at q3;rw[F9,vH a1,a2,Rz] at q4;constructor
 .rw[hk];unfold TF;rw[hPm];unfold aQ.up;rw[hd];cases fg:dn ls v<;>rw[fg] at q4<;>exact q4
 .rw[hk];unfold TF;rw[eR];unfold aQ.up;rw[hd];cases fg:dn ls v<;>rw[fg] at q1<;>exact q1.symm
 .rw[hk];unfold BF;rw[hPm];unfold aQ.lo;rw[hd];cases fg:dn ls v<;>rw[fg] at q2<;>exact q2.symm
 rw[hk];unfold BF;rw[eR];unfold aQ.lo;rw[hd];cases fg:dn ls v<;>rw[fg] at q3<;>exact q3
def cX.cz(g:cX F ls):Cz F (zF ls) (TF ls) (BF ls) (List.range (mT ls)):=by
 have hn:0<ls.length:=jl.2 g.ne;have mem:∀x∈zF ls,∃i,i<ls.length/\x=ek ls i:=fun x hx=>by obtain⟨i,hi,rfl⟩:=dh.1 hx;exact⟨i,gV.1 hi,rfl⟩
 have hT:fL ls (F+1)=(aG ls).length:=Gn fun l hl hp=>((sB hp).1 (g.bad l hl)).1.1.1;have hs:=uv ls F;have hm:0<(aG ls).length:=by obtain⟨l,h1,h2⟩:=g.first;exact LH (ui.2 ⟨l,h1,h2⟩)
 have eV:=g.ok.cr;unfold mO at eV;simp only[cU,dk] at eV;refine⟨⟨rJ ls (ls.length-1),?_⟩,fun x hx=>?_,Rr fun i j hi hj iv=>Mo g hi hj iv,by rw[mF];exact eV.1.1,fun x hx hc=>?_,Rr fun i j hi hj iv=>?_,fun x hx hp=>?_,fun x hx hp=>?_,
  fun k hk=>?_,?_,?_,Gg,fun s hs=>?_,?_⟩
 .have:=agN (ek ls) (fun i=>rJ ls ((i+ls.length-1)%ls.length)) ls.length 0 fun i _ hi=>⟨rfl,?_⟩
  .simp only[js] at this;rw[gY aa,show ls.length+ls.length-1=(ls.length-1)+ls.length by omega,qV,gY aa,<- List.range_eq_range'] at this;exact this
  show rJ ls i=rJ ls ((i+1+ls.length-1)%ls.length);rw[show i+1+ls.length-1=i+ls.length by omega,qV,gY aa]
 .obtain⟨i,hi,rfl⟩:=mem x hx;exact ER g hi
 .obtain⟨i,hi,rfl⟩:=mem x hx;obtain⟨l,hl⟩:=aM hi;rw[eE hl] at hc |-;rw[mF];exact g.ids.1 l (aV hl) hc
 .obtain⟨l,hl⟩:=aM hi;obtain⟨m,hm⟩:=aM hj;intro pl pm e1 e2;rw[eE hl] at pl e1 e2;rw[eE hm] at pm e1 e2;exact iv (g.ok.ax.inj i j l m hl hm pl pm ((Ih (g.ok.ax.fy l (aV hl) pl) (g.ok.ax.fy m (aV hm) pm)).2 ⟨e1,e2⟩))
 .obtain⟨i,hi,rfl⟩:=mem x hx;obtain⟨l,hl⟩:=aM hi;rw[eE hl] at hp |-;rw[mF];obtain⟨_,_,r0,r1⟩:=g.ok.ax.fy l (aV hl) hp;exact⟨r0,r1⟩
 .obtain⟨i,hi,rfl⟩:=mem x hx;obtain⟨l,hl⟩:=aM hi;rw[eE hl] at hp;exact PB g hl hp
 .rw[mF];unfold TF BF;rw[uv ls k,u9];exact⟨rfl,rfl⟩
 .rw[mF];unfold TF BF;have e1:fL ls F+cg ls F=(aG ls).length:=aa;have e0:fL ls 0=0:=rfl;rw[e1,e0,js,show(aG ls).length+(aG ls).length-1=((aG ls).length-1)+(aG ls).length by omega,qV];exact⟨rfl,rfl⟩
 .obtain⟨l,h1,h2⟩:=g.first;exact⟨ek ls 0,aV (Gb hn),by rw[eE h1];exact h2⟩
 .obtain⟨w,hw⟩:=aM (gV.1 hs);obtain⟨⟨d,t,e,hd⟩,_⟩:=OS g.ok w (aV hw);have hp:xZ ls d=s:=Yh g hw (by rw[e];simp);refine⟨ek ls (d/2),aV (Gb aa),?_⟩;rcases xn d with h|h
  .refine .inl ?_;show s=xZ ls (2*(d/2));rw[show 2*(d/2)=d by omega,hp]
  refine .inr ?_;show s=xZ ls (2*(d/2)+1);rw[show 2*(d/2)+1=d by omega,hp]
 rw[mF,Ek,g.nw];omega
end
structure Cq (F:Nat) (z:l_) (T B:Nat->Nat->Nat):Prop where
 ok:∀x∈z,AU F x
 cr:z.Pairwise Xr
 ev:aq Let.aA (aR z)%2=0
 ids:∀x∈z,x.k.aA=true->1<=x.k.id/\x.k.id<=((aq Let.aA (aR z)/2:Nat):Int)
 rk:z.Pairwise Dr
 rr:∀x∈z,x.k.aE=true->1<=x.k.aC/\x.k.aC<=(cg (aR z) x.k.gate.toNat:Int)
 pl:∀x∈z,x.k.aE=true->Ie T B x
 gt:∀g,g<F->T g (cg (aR z) g)=T (g+1) 0/\B g (cg (aR z) g)=B (g+1) 0
 gz:T F (cg (aR z) F)=T 0 0/\B F (cg (aR z) F)=B 0 0
def eG.mp(ψ:Nat->Nat)(s:eG):eG:=⟨ψ s.l,ψ s.r,s.b⟩
def aQ.mp(ψ:Nat->Nat)(h:Let->Let)(x:aQ):aQ:=⟨⟨h x.p.l,x.p.d⟩,x.i.mp ψ,x.o.mp ψ⟩
def X4.mp{g:Bool}{i o j q:eG}(h:X4 g i o j q)(ψ:Nat->Nat):X4 g (i.mp ψ) (o.mp ψ) (j.mp ψ) (q.mp ψ):=by obtain⟨a,b,c,d⟩:=h;cases g<;>simp only[dN,if_false,if_true] at a b c d<;>constructor<;>simp[eG.mp,a,b,c,d]
def aga(ψ:Nat->Nat)(h:Let->Let)(x:aQ):(x.mp ψ h).up=x.up.mp ψ:=by unfold aQ.up aQ.mp;cases x.p.d<;>rfl
def af9(ψ:Nat->Nat)(h:Let->Let)(x:aQ):(x.mp ψ h).lo=x.lo.mp ψ:=by unfold aQ.lo aQ.mp;cases x.p.d<;>rfl
def Rw{ψ:Nat->Nat}{h:Let->Let}:∀ {z:l_} {s t:eG},kN s z t->kN (s.mp ψ) (z.map (aQ.mp ψ h)) (t.mp ψ):=by
 intro z
 induction z with
 |nil=>intro s t e;cases e;rfl
 |cons x z ih=>intro s t e;obtain⟨rfl,e⟩:=e;exact⟨rfl,ih e⟩
def acV{S L:a_}(hn:S.Nodup):S.length<=(S.filter fun s=> !L.contains s).length+L.length:=by
 have h1:S.length=(S.filter fun s=> !L.contains s).length+(S.filter fun s=>L.contains s).length:=by have:=List.length_eq_countP_add_countP (fun s=> !L.contains s) (l:=S);rw[List.countP_eq_length_filter,List.countP_eq_length_filter] at this;rw[this];congr 2;apply List.filter_congr;intro x _;simp
 have h2:=Lg (S.filter fun s=>L.contains s) L (hn.filter _) fun x hx=>by simpa using (u7.1 hx).2
 omega
structure Bi (h:Let->Let):Prop where
 kind:∀l,(h l).kind=l.kind
 over:∀l,(h l).over=l.over
 sign:∀l,(h l).sign=l.sign
def Bi.aE{h:Let->Let}(s:Bi h)(l:Let):(h l).aE=l.aE:=by unfold Let.aE;rw[s.kind]
def Bi.aA{h:Let->Let}(s:Bi h)(l:Let):(h l).aA=l.aA:=by unfold Let.aA;rw[s.kind]
def Bi.id:Bi id:=⟨fun _=>rfl,fun _=>rfl,fun _=>rfl⟩
section
variable {F:Nat} {X r X':l_} {T B T' B':Nat->Nat->Nat} {S:a_} {ψ:Nat->Nat} {h:Let->Let}
def Cz.q{z:l_}(c:Cz F z T B S):Cq F z T B:=⟨c.ok,c.cr,c.ev,c.ids,c.rk,c.rr,c.pl,c.gt,c.gz⟩
def Cq.perm{z z':l_}(c:Cq F z T B)(hh:z.Perm z'):Cq F z' T B:=by
 have hm:∀ {x},x∈z'↔x∈z:=fun {x}=>hh.symm.mem_iff;have e:∀p,aq p (aR z')=aq p (aR z):=fun p=>(CW hh).symm;have eg:∀g,cg (aR z') g=cg (aR z) g:=fun g=>e _;exact⟨fun x hx=>c.ok x (hm.1 hx),(hh.pairwise_iff fun {x y}=>Xr.symm).1 c.cr,by rw[e];exact c.ev,fun x hx=>by rw[e];exact c.ids x (hm.1 hx),(hh.pairwise_iff fun {x y}=>Dr.symm).1 c.rk,
  fun x hx=>by rw[eg];exact c.rr x (hm.1 hx),fun x hx=>c.pl x (hm.1 hx),fun g hg=>by rw[eg];exact c.gt g hg,by rw[eg];exact c.gz⟩
def AU.mp{x:aQ}(o:AU F x)(s:Bi h)(hb:dL F (h x.k)=false):AU F (x.mp ψ h):=by
 refine⟨hb,fun hc=>?_,fun hp=>?_⟩
 .exact o.cb (by rw[<- s.aA];exact hc)
 exact o.pb (by rw[<- s.aE];exact hp)
def Cq.edit(q:Cq F (X++r) T B)(s:Bi h)(hb:∀x∈r,dL F (h x.k)=false)
  (hid:∀x∈r,∀y∈r,x.k.aA=true->y.k.aA=true->(h x.k).id=(h y.k).id->x.k.id=y.k.id)
  (my:∀x∈r,∀y∈r,x.k.aE=true->y.k.aE=true->(h x.k).gate=(h y.k).gate->(h x.k).aC=(h y.k).aC->x.k.gate=y.k.gate/\x.k.aC=y.k.aC)
  (n1:∀x∈X',AU F x) (n2:X'.Pairwise Xr) (n3:X'.Pairwise Dr) (n4:∀x∈X',∀y∈r,Xr x (y.mp ψ h)) (n5:∀x∈X',∀y∈r,Dr x (y.mp ψ h))
  (ev:aq Let.aA (aR (X'++r.map (aQ.mp ψ h)))%2=0)
  (ids:∀x∈X',x.k.aA=true->1<=x.k.id/\x.k.id<=((aq Let.aA (aR (X'++r.map (aQ.mp ψ h)))/2:Nat):Int))
  (apa:∀x∈r,x.k.aA=true->1<=(h x.k).id/\(h x.k).id<=((aq Let.aA (aR (X'++r.map (aQ.mp ψ h)))/2:Nat):Int))
  (rr:∀x∈X',x.k.aE=true->1<=x.k.aC/\x.k.aC<=(cg (aR (X'++r.map (aQ.mp ψ h))) x.k.gate.toNat:Int))
  (rr':∀x∈r,x.k.aE=true->1<=(h x.k).aC/\(h x.k).aC<=(cg (aR (X'++r.map (aQ.mp ψ h))) (h x.k).gate.toNat:Int))
  (pl:∀x∈X',x.k.aE=true->Ie T' B' x)
  (Cf:∀x∈r,x.k.aE=true->(ψ (T x.k.gate.toNat (x.k.aC.toNat-1))=T' (h x.k).gate.toNat ((h x.k).aC.toNat-1)/\ψ (B x.k.gate.toNat (x.k.aC.toNat-1))=B' (h x.k).gate.toNat ((h x.k).aC.toNat-1))/\ψ (T x.k.gate.toNat x.k.aC.toNat)=T' (h x.k).gate.toNat (h x.k).aC.toNat/\ψ (B x.k.gate.toNat x.k.aC.toNat)=B' (h x.k).gate.toNat (h x.k).aC.toNat)
  (gt:∀g,g<F->T' g (cg (aR (X'++r.map (aQ.mp ψ h))) g)=T' (g+1) 0/\B' g (cg (aR (X'++r.map (aQ.mp ψ h))) g)=B' (g+1) 0)
  (gz:T' F (cg (aR (X'++r.map (aQ.mp ψ h))) F)=T' 0 0/\B' F (cg (aR (X'++r.map (aQ.mp ψ h))) F)=B' 0 0):Cq F (X'++r.map (aQ.mp ψ h)) T' B':=by
 have crr:=(O2.1 q.cr).2.1;have rkr:=(O2.1 q.rk).2.1;have mem:∀x∈X'++r.map (aQ.mp ψ h),x∈X'\/ ∃y∈r,x=y.mp ψ h:=fun x hx=>by
  rcases eK.1 hx with hx|hx
  .exact .inl hx
  obtain⟨y,hy,rfl⟩:=dh.1 hx;exact .inr ⟨y,hy,rfl⟩
 have in':∀y∈r,y∈X++r:=fun y hy=>El _ hy;refine⟨fun x hx=>?_,?_,ev,fun x hx hc=>?_,?_,fun x hx hp=>?_,fun x hx hp=>?_,gt,gz⟩
 .rcases mem x hx with hx|⟨y,hy,rfl⟩
  .exact n1 x hx
  exact(q.ok y (in' y hy)).mp s (hb y hy)
 .refine O2.2 ⟨n2,ym.2 (crr.imp_of_mem fun {x y} hx hy j6 hc hd e=>?_),fun x hx y hy=>?_⟩
  .have hc:x.k.aA=true:=by rw[<- s.aA];exact hc
   have hd:y.k.aA=true:=by rw[<- s.aA];exact hd
   obtain⟨h1,h2,h3⟩:=j6 hc hd (hid x hx y hy hc hd e);refine⟨?_,?_,?_⟩
   .show(h x.k).over= !(h y.k).over;rw[s.over,s.over];exact h1
   .show(h x.k).sign=(h y.k).sign;rw[s.sign,s.sign];exact h2
   have:gX (x.mp ψ h).k=gX x.k:=by show((h x.k).over==((h x.k).sign==1))=_;rw[s.over,s.sign];rfl
   rw[this];exact h3.mp ψ
  obtain⟨w,hw,rfl⟩:=dh.1 hy;exact n4 x hx w hw
 .rcases mem x hx with hx|⟨y,hy,rfl⟩
  .exact ids x hx hc
  exact apa y hy (by rw[<- s.aA];exact hc)
 .refine O2.2 ⟨n3,ym.2 (rkr.imp_of_mem fun {x y} hx hy j6 hc hd e1 e2=>?_),fun x hx y hy=>?_⟩
  .have hc:x.k.aE=true:=by rw[<- s.aE];exact hc
   have hd:y.k.aE=true:=by rw[<- s.aE];exact hd
   obtain⟨f1,f2⟩:=my x hx y hy hc hd e1 e2;exact j6 hc hd f1 f2
  obtain⟨w,hw,rfl⟩:=dh.1 hy;exact n5 x hx w hw
 .rcases mem x hx with hx|⟨y,hy,rfl⟩
  .exact rr x hx hp
  exact rr' y hy (by rw[<- s.aE];exact hp)
 rcases mem x hx with hx|⟨y,hy,rfl⟩
 .exact pl x hx hp
 have hp:y.k.aE=true:=by rw[<- s.aE];exact hp
 obtain⟨p1,p2,p3,p4⟩:=q.pl y (in' y hy) hp;obtain⟨⟨a1,a2⟩,a3,a4⟩:=Cf y hy hp;constructor
 .rw[aga];show ψ y.up.r=_;rw[p1];exact a1
 .rw[aga];show ψ y.up.l=_;rw[p2];exact a3
 .rw[af9];show ψ y.lo.r=_;rw[p3];exact a2
 rw[af9];show ψ y.lo.l=_;rw[p4];exact a4
def Cq.done{l:c_}{z':l_}{L N:a_}{V:Nat}(q:Cq F (X'++r.map (aQ.mp ψ h)) T' B')(iw:S.Nodup)(wit:∀s∈S,∃x∈X++r,s=x.o.l\/s=x.o.r)
  (pI:z'.Perm (X'++r.map (aQ.mp ψ h))) (W6:∃s,kN s z' s) (hl:z'.map aQ.p=l) (one:∃x∈X'++r.map (aQ.mp ψ h),x.k.aE=true)
  (hψ:∀s∈S,s∉L->ψ s=s) (hX:∀x∈X,∀s∈S,(s=x.o.l\/s=x.o.r)->s∉L->∃y∈X'++r.map (aQ.mp ψ h),s=y.o.l\/s=y.o.r)
  (hN:N.Nodup) (hNS:∀s∈N,s∉S) (hNw:∀s∈N,∃y∈X'++r.map (aQ.mp ψ h),s=y.o.l\/s=y.o.r)
  (hS:V<=S.length) (num:aq Let.aE (aR (X'++r.map (aQ.mp ψ h)))+aq Let.aA (aR (X'++r.map (aQ.mp ψ h)))/2+1+L.length<=V+N.length):Cert F l:=by
 have qz:=q.perm pI.symm;have hm:∀ {x},x∈z'↔x∈X'++r.map (aQ.mp ψ h):=fun {x}=>pI.mem_iff;refine⟨z',T',B',N++S.filter (fun s=> !L.contains s),hl,⟨W6,qz.ok,qz.cr,qz.ev,qz.ids,qz.rk,qz.rr,qz.pl,qz.gt,qz.gz,?_,?_,fun s hs=>?_,?_⟩⟩
 .obtain⟨x,hx,e⟩:=one;exact⟨x,hm.2 hx,e⟩
 .refine Gf.2 ⟨hN,iw.filter _,fun a ha b hb e=>?_⟩;subst e;exact hNS a ha (u7.1 hb).1
 .have key:∃y∈X'++r.map (aQ.mp ψ h),s=y.o.l\/s=y.o.r:=by
   rcases eK.1 hs with hs|hs
   .exact hNw s hs
   obtain⟨h1,h2⟩:=u7.1 hs;have h2:s∉L:=by simpa using h2
   obtain⟨x,hx,e⟩:=wit s h1;rcases eK.1 hx with hx|hx
   .exact hX x hx s h1 e h2
   refine⟨x.mp ψ h,El _ (dh.2 ⟨x,hx,rfl⟩),?_⟩;have hp:=hψ s h1 h2;rcases e with e|e
   .left;show s=ψ x.o.l;rw[<- e,hp]
   right;show s=ψ x.o.r;rw[<- e,hp]
  obtain⟨y,hy,e⟩:=key;exact⟨y,hm.2 hy,e⟩
 have e:∀p,aq p (aR z')=aq p (aR (X'++r.map (aQ.mp ψ h))):=fun p=>CW pI;rw[e,e,fS];have:=acV (L:=L) iw;omega
end
def TH(p:Let->Bool)(a b:l_):aq p (aR (a++b))=aq p (aR a)+aq p (aR b):=by show List.countP p (List.map _ _)=List.countP p (List.map _ _)+List.countP p (List.map _ _);rw[kZ,xf]
def mL(p:Let->Bool)(x:aQ)(b:l_):aq p (aR (x::b))=(if p x.k then 1 else 0)+aq p (aR b):=by show List.countP p (List.map _ _)=_+List.countP p (List.map _ _);rw[eh,xg,Nat.add_comm]
def TI(p:Let->Bool):aq p (aR [])=0:=rfl
def CV{p:Let->Bool}{ψ:Nat->Nat}{h:Let->Let}(hp:∀l,p (h l)=p l)(r:l_):aq p (aR (r.map (aQ.mp ψ h)))=aq p (aR r):=by
 induction r with
 |nil=>rfl
 |cons x r ih=>rw[eh,mL,mL,ih];show(if p (h x.k) then 1 else 0)+_=_;rw[hp]
def I0{l:Let}(g:Nat)(h:l.aA=true):nV g l=false:=by
 unfold nV;cases hp:l.aE
 .rfl
 rw[qN hp] at h;cases h
def oG{l:Let}(h:l.aA=true):l.aE=false:=by
 cases hp:l.aE
 .rfl
 rw[qN hp] at h;cases h
def anf{α:Type}{z:List α}{a:Nat}(ha:a<z.length)(h2:2<=z.length):∃x y r,z.drop a++z.take a=x::y::r/\z[a]?=some x/\z[(a+1)%z.length]?=some y:=by
 obtain⟨x,hx⟩:=aM ha;obtain⟨hl,e⟩:=aT.1 hx;have hd:z.drop a=x::z.drop (a+1):=by rw[<- e,uc]
 by_cases c:a+1<z.length
 .obtain⟨y,hy⟩:=aM c;obtain⟨r8,e2⟩:=aT.1 hy;have yP:z.drop (a+1)=y::z.drop (a+1+1):=by rw[<- e2,uc]
  exact⟨x,y,z.drop (a+1+1)++z.take a,by rw[hd,yP];rfl,hx,by rw[gY c];exact hy⟩
 have ea:a+1=z.length:=aa;obtain⟨y,hy⟩:=aM (ls:=z) (k:=0) aa;have yP:z.drop (a+1)=[]:=List.drop_eq_nil_of_le aa;have ht:z.take a=y::(z.take a).drop 1:=by
  have h0:(z.take a)[0]?=some y:=by rw[mI,aD aa];exact hy
  obtain⟨hl3,e3⟩:=aT.1 h0;have:=uc (h:=hl3);rw[e3,List.drop_zero] at this;exact this.symm
 refine⟨x,y,(z.take a).drop 1,?_,hx,by rw[ea,En];exact hy⟩;rw[hd,yP]
 conv=>lhs;rw[ht]
 rfl
section
variable {F:Nat} {ls:ai}
def zc{l:Let}(h:l.aA=true):(if Let.aA l=true then 1 else 0)=1/\(if Let.aE l=true then 1 else 0)=0:=by simp[h,oG h]
def ifP{l:Let}(h:l.aE=true):(if Let.aA l=true then 1 else 0)=0/\(if Let.aE l=true then 1 else 0)=1:=by simp[h,qN h]
end
def iH(ids:d_)(l:Let):Let:=if l.kind==2 then {l with id:=l.id-((ids.take ids.length).countP (fun i=>decide (i<l.id)):Nat)} else l
def BY(ids:d_):Bi (iH ids):=by refine⟨fun l=>?_,fun l=>?_,fun l=>?_⟩<;>unfold iH<;>split<;>rfl
def afW(ids:d_)(p:Pc):tj ids p=⟨iH ids p.l,p.d⟩:=by unfold tj iH kD;split<;>rfl
def BX{ids:d_}{l:Let}(h:l.aE=true):iH ids l=l:=by unfold iH;have:=qN h;unfold Let.aA at this;rw[ay (by rw[this];decide)]
def afT{ids:d_}{l:Let}(h:dL F l=false):dL F (iH ids l)=false:=by
 rcases v7 h with hp|hc
 .rw[BX hp];exact h
 have jw:(iH ids l).aA=true:=by rw[(BY ids).aA];exact hc
 rw[Om hc] at h;rw[Om jw];unfold iH;split<;>exact h
def afS(ids:d_)(g:Nat)(l:Let):nV g (iH ids l)=nV g l:=by
 cases hp:l.aE
 .unfold nV;rw[(BY ids).aE,hp];rfl
 rw[BX hp]
def afU{ids:d_}{l:Let}(h:l.aA=true):(iH ids l).id=l.id-((ids.countP fun i=>decide (i<l.id):Nat):Int):=by unfold iH;unfold Let.aA at h;rw[aD h,lf]
def afs{l:c_}{drop:Nat->Pc->Bool}{d:Pc->Bool}(h:∀i p,drop i p=d p):qK l drop=l.filter fun p=> !d p:=by
 have key:∀k,k<=l.length->uL l drop k=(l.take k).filter fun p=> !d p:=by
  intro k
  induction k with
  |zero=>intro _;rfl
  |succ k ih=>
   intro hk;obtain⟨p,hp⟩:=aM (ls:=l) (k:=k) aa;rw[qq,hp,List.filter_append,<- ih aa];cases hd:d p
   .rw[Kv hp (by rw[h];exact hd)];simp[hd]
   rw[BS hp (by rw[h];exact hd)];simp[hd]
 unfold qK;rw[key _ (bR _),lf]
def Rv:∀ {z:l_} {s t:eG},kN s z t->z≠[]->∃w∈z,w.o=t:=by
 intro z
 induction z with
 |nil=>intro s t _ h;exact absurd rfl h
 |cons x z ih=>
  intro s t h _;obtain⟨_,h⟩:=h;cases z with
  |nil=>cases h;exact⟨x,af,rfl⟩
  |cons y z=>obtain⟨w,hw,e⟩:=ih h af;exact⟨w,u6 _ hw,e⟩
section
variable {F:Nat} {ls:ai}
def aq9{x y:aQ}{r:l_}{T B:Nat->Nat->Nat}(q:Cq F (x::y::r) T B)(cx:x.k.aA=true)(cy:y.k.aA=true)(e:x.k.id=y.k.id):∀w∈r,w.k.aA=true->w.k.id≠x.k.id:=by intro w hw cw ew;obtain⟨p1,p2⟩:=rM.1 q.cr;obtain⟨p3,_⟩:=rM.1 p2;have a:=(p1 y af cx cy e).ov;have b:=(p1 w (by simp[hw]) cx cw ew.symm).ov;have d:=(p3 w hw cy cw (by rw[<- e,ew])).ov;rw[b] at a;rw[d] at a;revert a;cases w.k.over<;>simp
def Zj(g:cX F ls){a:Nat}(ha:a<ls.length):∃x y r s,(zF ls).drop a++(zF ls).take a=x::y::r/\(pieces ls)[a]?=some x.p/\(pieces ls)[nx ls a]?=some y.p/\
  Cz F (x::y::r) (TF ls) (BF ls) (List.range (mT ls))/\kN s (x::y::r) s/\(pieces ls).drop a++(pieces ls).take a=(x::y::r).map aQ.p/\(zF ls)[a]?=some x/\(zF ls)[nx ls a]?=some y/\(x::y::r).Perm (zF ls):=by
 have h2:2<=ls.length:=by obtain⟨l,h1,hp⟩:=g.first;have:=g.even;have:0<aq Let.aE ls:=zH.2 ⟨l,aV h1,hp⟩;have:=sL Let.aE ls;omega
 have hl:=Lv ls;obtain⟨x,y,r,e,hx,hy⟩:=anf (z:=zF ls) (a:=a) aa aa;rw[hl] at hy;have c:Cz F ((zF ls).drop a++(zF ls).take a) (TF ls) (BF ls) (List.range (mT ls)):=by refine Cz.lM ?_;rw[mJ];exact g.cz
 rw[e] at c;obtain⟨s,hs⟩:=c.path;refine⟨x,y,r,s,e,?_,?_,c,hs,?_,hx,hy,?_⟩
 .rw[<- Iz,fG,hx];rfl
 .rw[<- Iz,fG,hy];rfl
 .rw[<- e,kZ,List.map_drop,IG,Iz]
 rw[<- e];exact List.perm_append_comm.trans (by rw[mJ])
def abu{a:Nat}{d:Pc->Bool}{f:Pc->Pc}(c:Cert F ((((pieces ls).drop a++(pieces ls).take a).filter d).map f)):Cert F (((pieces ls).filter d).map f):=by rw[List.filter_append,kZ] at c;have:=c.lM;rwa[<- kZ,<- List.filter_append,mJ] at this
def aeD{l:Let}:l.aA=(l.kind==2):=rfl
def filter_all{α:Type}{l:List α}{p:α->Bool}(h:∀x∈l,p x=true):l.filter p=l:=List.filter_eq_self.2 h
def akQ(g:cX F ls){a:Nat}(ha:a<ls.length){L:c_}(h:uM ls a=some L):Cert F L:=by
 obtain⟨x,y,r,s,e,hx,hy,c,hp,Kh,_,_,pI⟩:=Zj g ha;have q:=c.q;unfold uM at h;have e1:(pieces ls).getD a ⟨lX,false⟩=x.p:=by rw[dA,hx];rfl
 have e2:(pieces ls).getD ((a+1)%ls.length) ⟨lX,false⟩=y.p:=by rw[dA,hy];rfl
 simp only[e1,e2] at h;split at h
 case isFalse=>cases h
 rename_i hc;simp only[cU,dk] at hc;obtain⟨ji,o9,hid⟩:=hc;have cx:x.k.aA=true:=by rw[aeD];simp[ji]
 have cy:y.k.aA=true:=by rw[aeD];simp[o9]
 have uB:x.k.id=y.k.id:=hid;cases h;have QK:=aq9 q cx cy uB;have j6:Xc x y:=(rM.1 q.cr).1 y af cx cy uB;obtain⟨kW,fM,uF⟩:=hp
 -- both ends of the kink look alike
 have ix:=(q.ok x af).cb cx;have iy:=(q.ok y af).cb cy;have hk:=j6.x4;rw[kW,fM] at hk;rw[kW] at ix;rw[fM] at iy;have hyo:y.o=s:=by
  obtain⟨k1,k2,k3,k4⟩:=hk;have hb:y.o.b=s.b:=by rw[<- iy,<- ix]
  cases y with
  |mk yp yi yo=>
  cases yo with
  |mk l r b=>
  cases s with
  |mk sl sr sb=>
  cases hg:gX x.k<;>rw[hg] at k1 k2 k3 k4<;>simp only[dN,if_false,if_true] at k1 k2 k3 k4 hb<;>simp_all
 rw[hyo] at uF;have WS:∃b,(s.r=b\/s.l=b)/\ ∀t,(t=x.o.l\/t=x.o.r)->t=s.l\/t=s.r\/t=(if gX x.k then x.o.r else x.o.l):=by
  obtain⟨k1,k2,k3,k4⟩:=hk;refine⟨s.r,.inl rfl,?_⟩;cases hg:gX x.k<;>rw[hg] at k1 k2 k3 k4<;>simp only[dN,if_false,if_true] at k1 k2 k3 k4 |-
  .rintro t (rfl|rfl)
   .exact .inr (.inr rfl)
   exact .inl k1.symm
  rintro t (rfl|rfl)
  .exact .inr (.inl k3)
  exact .inr (.inr rfl)
 obtain⟨_,_,WS⟩:=WS;have eD:=q.ev;have Ai:∀z:l_,aq Let.aA (aR (x::y::z))=aq Let.aA (aR z)+2:=fun z=>by rw[mL,mL,(zc cx).1,(zc cy).1];omega
 have Hk:∀z:l_,aq Let.aE (aR (x::y::z))=aq Let.aE (aR z):=fun z=>by rw[mL,mL,(zc cx).2,(zc cy).2];omega
 have yM:∀(z:l_) k,cg (aR (x::y::z)) k=cg (aR z) k:=fun z k=>by show aq _ _=aq _ _;rw[mL,mL,I0 k cx,I0 k cy];simp
 have mC:aq Let.aA (aR (r.map (aQ.mp id (iH [x.k.id]))))=aq Let.aA (aR r):=CV (fun l=>(BY _).aA l) r;have mP:aq Let.aE (aR (r.map (aQ.mp id (iH [x.k.id]))))=aq Let.aE (aR r):=CV (fun l=>(BY _).aE l) r;have mG:∀k,cg (aR (r.map (aQ.mp id (iH [x.k.id])))) k=cg (aR r) k:=fun k=>CV (fun l=>afS _ k l) r;have lowid:∀w∈r,w.k.aA=true->(iH [x.k.id] w.k).id=if x.k.id<w.k.id then w.k.id-1 else w.k.id:=fun w hw hc=>by
  rw[afU hc];by_cases c:x.k.id<w.k.id
  .simp[c]
  simp[c]
 have JY:∀w∈x::y::r,w.k.aA=true->1<=w.k.id/\w.k.id<=((aq Let.aA (aR r)/2:Nat):Int)+1:=fun w hw hc=>by have:=q.ids w hw hc;rw[Ai] at this;omega
 have hr:r≠[]:=by
  obtain⟨w,hw,rC⟩:=c.one;rintro rfl
  simp only[cD,fq,or_false] at hw;rcases hw with rfl|rfl
  .rw[oG cx] at rC;cases rC
  rw[oG cy] at rC;cases rC
 have inr:∀w∈r,w∈x::y::r:=fun w hw=>by simp[hw]
 have qn:Cq F ([]++r.map (aQ.mp id (iH [x.k.id]))) (TF ls) (BF ls):=by
  refine Cq.edit (X:=[x,y]) (r:=r) q (BY _) (fun w hw=>afT (q.ok w (inr w hw)).bad) (fun u hu v hv cu cv e=>?_) (fun u hu v hv pu pv e1 e2=>?_) (fun _ h=>by cases h) List.Pairwise.nil List.Pairwise.nil (fun _ h=>by cases h) (fun _ h=>by cases h) ?_ (fun _ h=>by cases h) (fun u hu cu=>?_) (fun _ h=>by cases h) (fun u hu pu=>?_) (fun _ h=>by cases h) (fun u hu pu=>?_) (fun k hk=>?_) ?_
  .have h1:=QK u hu cu;have h2:=QK v hv cv;rw[lowid u hu cu,lowid v hv cv] at e;split at e<;>split at e<;>omega
  .rw[BX pu,BX pv] at e1 e2;exact⟨e1,e2⟩
  .rw[fZ,mC];rw[Ai] at eD;omega
  .rw[fZ,mC,lowid u hu cu];have h1:=JY u (inr u hu) cu;have h2:=QK u hu cu;have h3:=JY x af cx;split<;>omega
  .rw[fZ,BX pu,mG,<- yM r];exact q.rr u (inr u hu) pu
  .rw[BX pu];exact⟨⟨rfl,rfl⟩,rfl,rfl⟩
  .rw[fZ,mG,<- yM r];exact q.gt k hk
  rw[fZ,mG,<- yM r];exact q.gz
 have Nb:Cert F (r.map fun w=>tj [x.k.id] w.p):=by
  refine Cq.done (X:=[x,y]) (r:=r) (X':=[]) (L:=[if gX x.k then x.o.r else x.o.l]) (N:=[]) (V:=mT ls) (z':=r.map (aQ.mp id (iH [x.k.id]))) qn c.nd (fun t ht=>c.wit t ht) (List.Perm.refl _) ⟨s,Rw (ψ:=id) uF⟩ ?_ ?_ (fun _ _ _=>rfl) (fun w hw t ht ew hL=>?_) xl (fun t ht=>by cases ht) (fun t ht=>by cases ht) (by rw[Ek];exact bR _) ?_
  .rw[ue];refine Bd fun w _=>?_;rw[afW];rfl
  .obtain⟨w,hw,rC⟩:=c.one;simp only[cD] at hw;rcases hw with rfl|rfl|hw
   .rw[oG cx] at rC;cases rC
   .rw[oG cy] at rC;cases rC
   refine⟨w.mp id (iH [x.k.id]),?_,?_⟩
   .rw[fZ];exact dh.2 ⟨w,hw,rfl⟩
   show(iH [x.k.id] w.k).aE=true;rw[(BY _).aE];exact rC
  .obtain⟨v,hv,hvo⟩:=Rv uF hr;have key:t=s.l\/t=s.r:=by
    simp only[cD,fq,or_false] at hw hL;rcases hw with rfl|rfl
    .rcases WS t ew with h|h|h
     .exact .inl h
     .exact .inr h
     exact absurd h hL
    rw[hyo] at ew;exact ew
   refine⟨v.mp id (iH [x.k.id]),by rw[fZ];exact dh.2 ⟨v,hv,rfl⟩,?_⟩;show t=id v.o.l\/t=id v.o.r;rw[hvo];exact key
  rw[fZ,mC,mP];have h1:=g.nw;have h2:aq Let.aA (aR (x::y::r))=aq Let.aA ls:=by rw[CW pI,mF]
  have h3:aq Let.aE (aR (x::y::r))=aq Let.aE ls:=by rw[CW pI,mF]
  rw[Ai] at h2;rw[Hk] at h3;simp only[fe,dC];omega
 show Cert F ((qK (pieces ls) (vk [x.k.id])).map (tj [x.k.id]));rw[afs (l:=pieces ls) (drop:=vk [x.k.id]) (d:=fun p=>(p.l.kind==2)&&[x.k.id].contains p.l.id) fun _ _=>rfl];refine abu (a:=a) ?_;rw[Kh];have hf:((x::y::r).map aQ.p).filter (fun p=> !((p.l.kind==2)&&[x.k.id].contains p.l.id))=r.map aQ.p:=by
  rw[eh,eh,List.filter_cons_of_neg (by simp[ji]),List.filter_cons_of_neg (by simp[o9,hid])];refine filter_all fun p hp=>?_;obtain⟨w,hw,rfl⟩:=dh.1 hp;cases hk:(w.p.l.kind==2)
  .rfl
  have:=QK w hw hk;simp[this]
 rw[hf,ue];exact Nb
end
end
end Go.Abs
