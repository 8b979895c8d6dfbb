/-
  Certificates: names of faces at each letter show that a code is valid.
-/
import Derived.Test.YtaajncoljnafjaaGreatDoorVe
set_option linter.all false
set_option maxHeartbeats 16000000
namespace Go.Abs
section
variable{F x:Nat}
def aaL{R:Nat->Nat->Prop}{n:Nat}{L:a_}(h:∀x,x<n->∃r∈L,bG R x r):K (bG R) n<=L.length:=by
 have key:∀M:a_,M.Nodup->(∀x∈M,x<n/\ld (bG R) x)->∃N:a_,N.length=M.length/\N.Nodup/\ ∀r∈N,r∈L/\ ∃x∈M,bG R x r:=by
  intro M
  induction M with
  |nil=>intro _ _;exact⟨[],rfl,xO,af⟩
  |cons a M ih=>
   intro hn hm;obtain⟨n1,n2⟩:=rh.1 hn;obtain⟨N,l1,l2,l3⟩:=ih n2 fun x hx=>hm x (by simp[hx]);obtain⟨ha,la⟩:=hm a af;obtain⟨r,hr,e⟩:=h a ha;refine⟨r::N,by simp[l1],rh.2 ⟨fun hN=>?_,l2⟩,fun q hq=>?_⟩
   .obtain⟨_,x,hx,ex⟩:=l3 r hN;have e1:=la x (e.trans ex.symm);have e2:=(hm x (by simp[hx])).2 a (ex.trans e.symm);have:a=x:=aa;exact n1 (this▸hx)
   rcases bJ.1 hq with rfl|hq
   .exact⟨hr,a,af,e⟩
   obtain⟨q1,x,hx,ex⟩:=l3 q hq;exact⟨q1,x,by simp[hx],ex⟩
 obtain⟨N,l1,l2,l3⟩:=key ((List.range n).filter (CA (bG R))) (GH.filter _) fun x hx=>by obtain⟨h1,h2⟩:=uz.1 hx;exact⟨im.1 h1,K5.1 h2⟩
 unfold K;rw[aan,<-l1];exact LR _ _ l2 fun r hr=>(l3 r hr).1
def Sp(p:Nat->Nat)(x:Nat):∀i j,it p (i+j) x=it p i (it p j x):=by
 intro i j
 induction i with
 |zero=>rw[jx];rfl
 |succ i ih=>rw[show i+1+j=(i+j)+1 by omega];show p (it p (i+j) x)=p (it p i (it p j x));rw[ih]
def arj{p:Nat->Nat}{m:Nat}(h:it p m x=x):∀k,it p (k*m) x=x:=by
 intro k
 induction k with
 |zero=>rw[BE];rfl
 |succ k ih=>rw[Nat.succ_mul,Sp,h,ih]
def atf{n:Nat}{p:Nat->Nat}(h:Perm n p){a b:Nat}(e:bG (gr n p) a b):a=b\/(a<n/\b<n/\ ∃k,it p k a=b):=by
 induction e with
 | @rel a b r=>obtain⟨ha,rfl⟩:=r;exact .inr ⟨ha,h.lt _ ha,1,rfl⟩
 |refl _=>exact .inl rfl
 | @symm a b _ ih=>
  rcases ih with rfl|⟨ha,hb,k,hk⟩
  .exact .inl rfl
  obtain⟨m,hm⟩:=h.acn ha;refine .inr ⟨hb,ha,k*m,?_⟩;rw[<-hk,<-Sp,show k*m+k=k*(m+1) by rw[Nat.mul_succ]];exact arj hm k
 |trans _ _ i1 i2=>
  rcases i1 with rfl|⟨ha,hb,k,hk⟩
  .exact i2
  rcases i2 with rfl|⟨_,hc,j,hj⟩
  .exact .inr ⟨ha,hb,k,hk⟩
  exact .inr ⟨ha,hc,j+k,by rw[Sp,hk,hj]⟩
def aw9{n:Nat}{p:Nat->Nat}(h:Perm n p){a b:Nat}(dL:a≠b)(e:bG (gr n p) a b):¬bG (gr n (tr p (a,b))) a b:=by
 rcases atf h e with he|⟨ha,hb,k0,Cg⟩
 .exact absurd he dL
 obtain⟨k,hk,afu⟩:=ac3 (p:=fun k=>it p k a=b) k0 Cg;have k1:1<=k:=by
  rcases Nat.eq_zero_or_pos k with rfl|h
  .exact absurd hk dL
  exact h
 have na:∀j,1<=j->j<=k->it p j a≠a:=fun j j1 j2 ej=>by
  rcases Nat.lt_or_eq_of_le j2 with c|rfl
  .have:it p (k-j) a=b:=by
    rw[<-hk,show k=(k-j)+j by omega,Sp,ej];congr 1;omega
   have:=afu _ this;omega
  exact dL (ej.symm.trans hk)
 have nb:∀j,j<k->it p j a≠b:=fun j j1 ej=>by have:=afu j ej;omega
 intro e2;have inv:∀x y,gr n (tr p (a,b)) x y->(∃j,1<=j/\j<=k/\x=it p j a)=(∃j,1<=j/\j<=k/\y=it p j a):=by
  rintro x y ⟨hx,rfl⟩
  apply propext;unfold tr;simp only;constructor
  .rintro ⟨j,j1,j2,rfl⟩
   rw[au (na j j1 j2)];by_cases c:it p j a=b
   .rw[aD c];exact⟨1,aa,k1,rfl⟩
   rw[au c];refine⟨j+1,aa,?_,rfl⟩;rcases Nat.lt_or_eq_of_le j2 with d|rfl
   .exact d
   exact absurd hk c
  by_cases c:x=a
  .rw[aD c];rintro⟨j,j1,j2,ej⟩
   exfalso;have:=h.inj _ _ hb (h.Ij ha (j-1)) (by rw[ej,show j=(j-1)+1 by omega];rfl);by_cases d:j=1
   .subst d;exact dL this.symm
   exact nb (j-1) aa this.symm
  rw[au c];by_cases d:x=b
  .subst d;intro _;exact⟨k,k1,bY _,hk.symm⟩
  rw[au d];rintro⟨j,j1,j2,ej⟩
  have:=h.inj _ _ hx (h.Ij ha (j-1)) (by rw[ej,show j=(j-1)+1 by omega];rfl);by_cases f:j=1
  .subst f;exact absurd this c
  exact⟨j-1,aa,aa,this⟩
 have:=e2.inv inv;have wX:∃j,1<=j/\j<=k/\b=it p j a:=⟨k,k1,bY _,hk.symm⟩;rw[<-this]at wX;obtain⟨j,j1,j2,ej⟩:=wX;exact na j j1 j2 ej.symm
def K_tr{n:Nat}{p:Nat->Nat}(h:Perm n p){a b:Nat}(ha:a<n)(hb:b<n)(dL:a≠b):(K (bG (gr n (tr p (a,b)))) n+K (bG (gr n p)) n)%2=1:=by
 have one:∀x y,bG (rT (gr n (tr p (a,b))) a b) x y↔bG (rT (gr n p) a b) x y:=fun x y=>by have h:=Uj (p:=p) (S:=fun _ _=>False) ha hb (x:=x) (y:=y);have e:∀q:Nat->Nat,(fun x y=>gr n q x y\/False)=gr n q:=fun q=>funext fun x=>funext fun y=>propext af;rw[e,e]at h;exact h
 have kj:K (bG (rT (gr n (tr p (a,b))) a b)) n=K (bG (rT (gr n p) a b)) n:=Jj one n;rcases IY (bG (gr n p) a b)with c|c
 .have k1:=T9 c n;have k2:=T8 ha hb (aw9 h dL c);omega
 have k1:=T8 ha hb c;have k2:=T9 (ajR h ha hb c) n;omega
def akM{n:Nat}:∀(ts:v_) (p:Nat->Nat),Perm n p->(∀t∈ts,t.1<n/\t.2<n/\t.1≠t.2)->(K (bG (gr n (ts.foldl tr p))) n+K (bG (gr n p)) n+ts.length)%2=0:=by
 intro ts
 induction ts with
 |nil=>intro p _ _;simp only[aas,fe];omega
 |cons t ts ih=>
  intro p hp ht;obtain⟨a,b⟩:=t;obtain⟨ha,hb,dL⟩:=ht (a,b) af
  replace ha:a<n:=ha
  replace hb:b<n:=hb
  replace dL:a≠b:=dL
  have e1:=ih (tr p (a,b)) (hp.tr ha hb) fun t h=>ht t (by simp[h]);have e2:(K (bG (gr n (tr p (a,b)))) n+K (bG (gr n p)) n)%2=1:=K_tr hp ha hb dL;simp only[BD,dI];omega
def lE(ls:ai)(x:Nat):Nat:=aO ls (rv x)
def xH(k:Nat):v_:=(List.range k).map fun e=>(2*e,2*e+1)
def axi(q:Nat->Nat):∀k y,(xH k).foldl tr q y=if y<2*k then q (rv y)else q y:=by
 intro k
 induction k with
 |zero=>intro y;rw[au aa];rfl
 |succ k ih=>
  intro y;have e:xH (k+1)=xH k++[(2*k,2*k+1)]:=by unfold xH;rw[yX,kS];rfl
  rw[e,Jd,BD,aas,TC];by_cases c1:y=2*k
  .subst c1;rw[aD rfl,ih,au aa,aD aa,xE]
  rw[au c1];by_cases c2:y=2*k+1
  .subst c2;rw[aD rfl,ih,au aa,aD aa,CX]
  rw[au c2,ih];by_cases c3:y<2*k
  .rw[aD c3,aD aa]
  rw[au c3,au aa]
def bG.push{R R':Nat->Nat->Prop}{f:Nat->Nat}(h:∀a b,R a b->bG R' (f a) (f b)){y:Nat}(e:bG R x y):bG R' (f x) (f y):=by
 induction e with
 |rel r=>exact h _ _ r
 |refl a=>exact .refl _
 |symm _ ih=>exact ih.symm
 |trans _ _ i1 i2=>exact i1.trans i2
section
variable {F:Nat} {ls:ai}
def ZF(ok:fJ F ls):Perm (nD ls) (lE ls):=by
 have m:=maps ok;have hN:=Iw ls;have hr:∀y,y<nD ls->rv y<nD ls:=fun y hy=>by rw[hN]at hy |-;exact Ae hy
 refine⟨fun y hy=>m.lt _ (hr y hy),fun x y hx hy e=>?_⟩;have:=m.inj _ _ (hr x hx) (hr y hy) e;rw[<-Af x,this,Af]
abbrev E2(ls:ai):Nat:=ls.length+(aG ls).length
def aiN{y:Nat}(hy:y<nD ls):(xH (E2 ls)).foldl tr (lE ls) y=aO ls y:=by rw[axi,aD (by rw[Iw]at hy;exact hy)];unfold lE;rw[Af]
def apw(x y:Nat):bG (gr (nD ls) ((xH (E2 ls)).foldl tr (lE ls))) x y↔bG (gr (nD ls) (aO ls)) x y:=
 ⟨bG.mono fun a b r=>by obtain⟨h,rfl⟩:=r;exact .rel ⟨h,aiN h⟩,bG.mono fun a b r=>by obtain⟨h,rfl⟩:=r;exact .rel ⟨h,(aiN h).symm⟩⟩
def ajU{k:Nat}:∀t∈xH k,t.1<2*k/\t.2<2*k/\t.1≠t.2:=by intro t ht;obtain⟨e,he,rfl⟩:=cJ.1 ht;have:=im.1 he;refine⟨?_,?_,?_⟩<;>simp only<;>omega
def akJ(ok:fJ F ls):K (bG (gr (nD ls) (aO ls))) (nD ls)=mQ ls:=by
 obtain⟨gI,ae5⟩:=Dd (aO ls) (nD ls);have tc:∀w∈gH (aO ls) (nD ls),w≠[]:=fun w hw=>by obtain⟨⟨d,t,e,_⟩,_⟩:=PC ok w hw;rw[e];simp
 have hlen:((gH (aO ls) (nD ls)).map (·.headD 0)).length=mQ ls:=by rw[cE];rfl
 refine Nat.le_antisymm ?_ ?_
 .rw[<-hlen];refine aaL fun x hx=>?_;obtain⟨w,hw,Ga⟩:=GF.1 (ae5 x hx);obtain⟨⟨d,t,e,_⟩,_⟩:=PC ok w hw;refine⟨w.headD 0,cJ.2 ⟨w,hw,rfl⟩,?_⟩;exact aac (maps ok) (R:=gr (nD ls) (aO ls)) (fun y hy=>.rel ⟨hy,rfl⟩) hw Ga (by rw[e];simp)
 rw[<-hlen];refine aaK (f:=ER (gH (aO ls) (nD ls))) ?_ (fun x hx=>?_) ?_
 .rintro a b ⟨ha,rfl⟩
  obtain⟨u,hu,hau⟩:=GF.1 (ae5 a ha);obtain⟨i,hi⟩:=gV hu;rw[PD gI hi hau,PD gI hi (yO (maps ok) hu hau)]
 .obtain⟨w,hw,rfl⟩:=cJ.1 hx;obtain⟨⟨d,t,e,hd⟩,_⟩:=PC ok w hw;rw[e];simp only[List.headD_cons];have:nD ls=2*ls.length+2*(aG ls).length:=rfl;omega
 rw[aqZ gI tc];exact GH
abbrev Gp(ls:ai):Nat->Nat->Prop:=gr (nD ls) (lE ls)
def Um{v:Nat}(hv:v<ls.length)(g:Bool):dx ls.length v g<nD ls:=by have h:=xS hv (!g);rw[<-Ad]at h;have:=Ae h;rw[Af]at this;have:nD ls=2*ls.length+2*(aG ls).length:=rfl;omega
def aiM(v:Nat)(g:Bool):lE ls (dx ls.length v g)=aO ls (fV ls.length v (!g)):=by unfold lE;rw[Ad]
def au5(ok:fJ F ls){v:Nat}(hv:v<ls.length):bG (Gp ls) (dx ls.length v true) (dx ls.length v false):=by
 obtain⟨l,hl⟩:=aL hv;have st:=ajD ok hv false;have:lE ls (lE ls (dx ls.length v true))=dx ls.length v false:=by rw[aiM];exact st
 have p:=ZF ok;rw[<-this];exact(bG.rel ⟨Um hv true,rfl⟩).trans (.rel ⟨p.lt _ (Um hv true),rfl⟩)
def Tb(ok:fJ F ls){v:Nat}(hv:v<ls.length)(g h:Bool):bG (Gp ls) (dx ls.length v g) (dx ls.length v h):=by
 have e:=au5 ok hv;cases g<;>cases h
 .exact .refl _
 .exact e.symm
 .exact e
 exact .refl _
def au6(ok:fJ F ls){v:Nat}{l:Let}(hl:ls[v]?=some l)(hc:l.aB=true):bG (Gp ls) (dx ls.length v true) (dx ls.length (fM ls v) true):=by
 obtain⟨h1,m,hm,mc,mi,mo,ms⟩:=sC ok.cr hl hc;have hv:=(aT.1 hl).1;have hw:=(aT.1 hm).1;have:lE ls (dx ls.length v true)=dx ls.length (fM ls v) (false==(l.over==(l.sign==1))):=by rw[aiM,yN hl hc];rfl
 exact(bG.rel ⟨Um hv true,this.symm⟩).trans (Tb ok hw _ _)
def au4(ok:fJ F ls){k:Nat}(hk:k<(aG ls).length):bG (Gp ls) (2*ls.length+2*k) (dx ls.length ((aG ls).getD k 0) true):=by
 have aA:2*ls.length+2*k<nD ls:=by unfold nD;omega
 obtain⟨l,h1,h2⟩:=GV hk;have hv:=(aT.1 h1).1;have:lE ls (2*ls.length+2*k)=dx ls.length ((aG ls).getD k 0) (dn ls ((aG ls).getD k 0)):=by unfold lE;rw[show 2*ls.length+2*k=2*(ls.length+k) by omega,xE,show 2*(ls.length+k)+1=2*ls.length+2*k+1 by omega,EM]
 exact(bG.rel ⟨aA,this.symm⟩).trans (Tb ok hv _ _)
def au3(ok:fJ F ls){k:Nat}(hk:k<(aG ls).length):bG (Gp ls) (2*ls.length+2*k+1) (dx ls.length ((aG ls).getD ((k+1)%(aG ls).length) 0) true):=by
 have aA:2*ls.length+2*k+1<nD ls:=by unfold nD;omega
 obtain⟨l,h1,h2⟩:=GV (de (k+1) (show 0<(aG ls).length by omega));have hv:=(aT.1 h1).1;have:lE ls (2*ls.length+2*k+1)=dx ls.length ((aG ls).getD ((k+1)%(aG ls).length) 0) (!dn ls ((aG ls).getD ((k+1)%(aG ls).length) 0)):=by unfold lE;rw[show 2*ls.length+2*k+1=2*(ls.length+k)+1 by omega,CX,show 2*(ls.length+k)=2*ls.length+2*k by omega,EN]
 exact(bG.rel ⟨aA,this.symm⟩).trans (Tb ok hv _ _)
def au8(ok:fJ F ls)(hx:x<nD ls):∃v,v<ls.length/\bG (Gp ls) x (dx ls.length v true):=by
 by_cases c:x<2*ls.length
 .have hy:rv x<2*ls.length:=Ae c;obtain⟨v,fw,hv,e⟩:∃v fw,v<ls.length/\rv x=fV ls.length v fw:=⟨_,_,by
   split
   .exact de _ aa
   omega,Qp hy⟩
  have:x=dx ls.length v (!fw):=by rw[<-avf,<-e,Af]
  exact⟨v,hv,by rw[this];exact Tb ok hv _ _⟩
 have hN:nD ls=2*ls.length+2*(aG ls).length:=rfl;have hk:(x-2*ls.length)/2<(aG ls).length:=aa;rcases vt x with h|h
 .obtain⟨l,h1,h2⟩:=GV hk;refine⟨_,(aT.1 h1).1,?_⟩;have:=au4 ok hk;rwa[show 2*ls.length+2*((x-2*ls.length)/2)=x by omega]at this
 obtain⟨l,h1,h2⟩:=GV (de ((x-2*ls.length)/2+1) (show 0<(aG ls).length by omega));refine⟨_,(aT.1 h1).1,?_⟩;have:=au3 ok hk;rwa[show 2*ls.length+2*((x-2*ls.length)/2)+1=x by omega]at this
def axr(ok:fJ F ls):∃L:a_,L.length=aq Let.aE ls+aq Let.aB ls/2/\(∀j∈L,j<ls.length)/\(L.map (l8 ls)).Nodup/\ ∀v,v<ls.length->∃j∈L,l8 ls j=l8 ls v:=by
 have hc:=ok.cr;unfold mJ at hc;simp only[cH,cZ]at hc;obtain⟨L,l1,l2,l3⟩:=axq ok;refine⟨L,l1,l2,l3,fun v hv=>?_⟩
 -- all the names there are
 let A:u_:=(aG ls).map (fun i:Nat=>((0:Int),(i:Int)))++(fA ls ls.length).map fun id=>((1:Int),id)
 have hA:A.length=aq Let.aE ls+aq Let.aB ls/2:=by simp only[A,fS,cE,Dy,hc.2]
 have jL:∀v,v<ls.length->l8 ls v∈A:=fun v hv=>by
  obtain⟨l,hl⟩:=aL hv;unfold l8;rw[hl];rcases ok.kinds l (aV hl)with hp|eX
  .simp only[qS hp,dN,if_false];exact Dg _ (cJ.2 ⟨v,uF.2 ⟨l,hl,hp⟩,rfl⟩)
  simp only[eX,if_true];refine Dh _ (cJ.2 ⟨l.id,?_,rfl⟩);exact(Ig (bY _)).2 ⟨v,l.over,hv,by rw[KA hl eX];simp⟩
 refine TS fun dR=>?_;have hn:l8 ls v∉L.map (l8 ls):=fun h=>by obtain⟨j,hj,e⟩:=cJ.1 h;exact dR ⟨j,hj,e⟩
 have Sb:∀(X Y:u_),X.Nodup->(∀x∈X,x∈Y)->X.length<=Y.length:=by
  intro X
  induction X with
  |nil=>intro Y _ _;exact bR _
  |cons a X ih=>intro Y hn hs;obtain⟨h1,h2⟩:=rh.1 hn;have ha:=hs a af;have:=ih (Y.erase a) h2 fun x hx=>(T1 (by rintro rfl;exact h1 hx)).2 (hs x (by simp[hx]));rw[TZ ha]at this;have:0<Y.length:=Mh ha;simp only[dI];omega
 have:=Sb (l8 ls v::L.map (l8 ls)) A (rh.2 ⟨hn,l3⟩) fun x hx=>by
  rcases bJ.1 hx with rfl|hx
  .exact jL v hv
  obtain⟨j,hj,rfl⟩:=cJ.1 hx;exact jL j (l2 j hj)
 rw[dI,cE,l1,hA]at this;omega
def axt(ok:fJ F ls){u v:Nat}(hu:u<ls.length)(hv:v<ls.length)(e:l8 ls u=l8 ls v):bG (Gp ls) (dx ls.length v true) (dx ls.length u true):=by
 obtain⟨l,hl⟩:=aL hu;obtain⟨m,hm⟩:=aL hv;unfold l8 at e;rw[hl,hm]at e;simp only at e;cases cl:l.aB<;>cases cm:m.aB
 .simp only[cl,cm,dN,if_false,lK,true_and]at e;have:u=v:=aa;subst this;exact .refl _
 .simp[cl,cm]at e
 .simp[cl,cm]at e
 simp only[cl,cm,if_true,lK,true_and]at e;have eX:=ok.cr;have hp:ID ls:=by unfold mJ at eX;simp only[cH,cZ,gk,im]at eX;exact(IU.1 eX.1.2).2
 by_cases Ia:u=v
 .subst Ia;exact .refl _
 obtain⟨h1,w,hw,wc,wi,wo,ws⟩:=sC ok.cr hm cm;have:fM ls v=u:=by refine TS fun aH=>?_;have d1:=(hp _ _ w l hw hl wc cl (by rw[wi,e]) aH).1;have d2:=(hp _ _ l m hl hm cl cm e Ia).1;rw[wo]at d1;revert d1 d2;cases l.over<;>cases m.over<;>simp
 have:=au6 ok hm cm;rwa[‹fM ls v=u›]at this
def akL(ok:fJ F ls):K (bG (Gp ls)) (nD ls)=aq Let.aE ls+aq Let.aB ls/2:=by
 obtain⟨L,l1,l2,l3,l4⟩:=axr ok;have hN:=Iw ls;have hN':nD ls=2*ls.length+2*(aG ls).length:=rfl;have KJ:∀y,y<nD ls->rv y<nD ls:=fun y hy=>by rw[hN]at hy |-;exact Ae hy
 have hlen:(L.map (2* ·)).length=aq Let.aE ls+aq Let.aB ls/2:=by rw[cE,l1]
 refine Nat.le_antisymm ?_ ?_
 .rw[<-hlen];refine aaL fun x hx=>?_;obtain⟨v,hv,e⟩:=au8 ok hx;obtain⟨j,hj,ej⟩:=l4 v hv;exact⟨2*j,cJ.2 ⟨j,hj,rfl⟩,e.trans (axt ok (l2 j hj) hv ej)⟩
 rw[<-hlen];refine aaK (f:=fun x=>l8 ls (zI ls (rv x))) ?_ (fun x hx=>?_) ?_
 .rintro a b ⟨ha,rfl⟩
  exact(axk ok (KJ a ha)).1.symm
 .obtain⟨j,hj,rfl⟩:=cJ.1 hx;have:=l2 j hj;omega
 rw[uy];have:L.map ((fun x=>l8 ls (zI ls (rv x))) ∘ (2* ·))=L.map (l8 ls):=As fun j hj=>by have:=NU (ls:=ls) (l2 j hj) false;simp only[Function.comp_apply,xE];rw[show 2*j+1=fV ls.length j false from rfl,this]
 rw[this];exact l3
def as8(ok:fJ F ls):K (bG (zk (nD ls) (lE ls) (xH (E2 ls)))) (nD ls)<=1:=by
 refine akK fun x hx=>?_;obtain⟨b,hb⟩:=apl (p:=fun _=>false) (fun _=>rfl) ok hx;have h:=hb 0 ae;have:=h.push (R':=zk (nD ls) (lE ls) (xH (E2 ls))) (f:=fun y=>y/2) ?_
 .have hf:fx b 0<2:=Rj ae;rw[show(2*x+0)/2=x by omega,show fx b 0/2=0 by omega]at this;exact this
 intro u v r;rcases r with⟨hu,rfl⟩|r
 .refine .rel (.inl ⟨aa,?_⟩);unfold sgC lE fx;simp only[dN,if_false];omega
 refine .rel (.inr ?_);obtain⟨e,he,hm⟩:=Di.1 r;have nT:(2*e,2*e+1)∈xH (E2 ls):=cJ.2 ⟨e,he,rfl⟩;simp only[bJ,eo,or_false,lK]at hm;rcases hm with⟨rfl,rfl⟩|⟨rfl,rfl⟩
 .rw[Uk];simp only[dN,if_false];rw[show 4*e/2=2*e by omega,show(4*e+2)/2=2*e+1 by omega];exact nT
 rw[Ul];simp only[dN,if_false];rw[show(4*e+1)/2=2*e by omega,show(4*e+3)/2=2*e+1 by omega];exact nT
def aoE(ok:fJ F ls):mQ ls<=aq Let.aE ls+aq Let.aB ls/2+2/\(mQ ls+(aq Let.aE ls+aq Let.aB ls/2))%2=0:=by
 have hN:=Iw ls;have e1:=aoe (xH (E2 ls)) (lE ls) (ZF ok) fun t ht=>by have:=ajU t ht;rw[hN];exact⟨this.1,this.2.1⟩
 have e2:=akM (xH (E2 ls)) (lE ls) (ZF ok) fun t ht=>by have:=ajU t ht;rw[hN];exact this
 have hl:(xH (E2 ls)).length=ls.length+(aG ls).length:=by simp[xH]
 rw[Jj apw,akJ ok,show K (bG (gr (nD ls) (lE ls))) (nD ls)=_ from akL ok,hl]at e1 e2;have h1:=as8 ok;have hPC:=agX ok;have kI:=Dy (ls:=ls);have eX:=ok.cr;unfold mJ at eX;simp only[cH,cZ]at eX;have eF:=eX.1.1;omega
end
structure eJ where
 l:Nat
 r:Nat
 b:Bool
structure aQ where
 p:Pc
 i:eJ
 o:eJ
abbrev k_:=List aQ
abbrev aQ.k(x:aQ):Let:=x.p.l
def kE:eJ->k_->eJ->Prop
 |s,[],t=>s=t
 |s,x::r,t=>x.i=s/\kE x.o r t
def Pb{s t:eJ}{a b:k_}:kE s (a++b) t↔ ∃m,kE s a m/\kE m b t:=by
 induction a generalizing s with
 |nil=>exact⟨fun h=>⟨s,rfl,h⟩,fun⟨m,h1,h2⟩=>by cases h1;exact h2⟩
 |cons x a ih=>show(x.i=s/\kE x.o (a++b) t)↔_;rw[ih];exact⟨fun⟨h,m,h1,h2⟩=>⟨m,⟨h,h1⟩,h2⟩,fun⟨m,⟨h,h1⟩,h2⟩=>⟨h,m,h1,h2⟩⟩
def atw{s:eJ}{a b:k_}(h:kE s (a++b) s):∃m,kE m (b++a) m:=by obtain⟨m,h1,h2⟩:=Pb.1 h;exact⟨m,Pb.2 ⟨s,h2,h1⟩⟩
structure X4 (g:Bool) (i o j q:eJ):Prop where
 a:if g then i.l=q.l else i.l=j.r
 b:if g then o.r=j.r else o.r=q.l
 c:if g then j.l=i.r else j.l=o.l
 d:if g then q.r=o.l else q.r=i.r
def gX (l:Let):Bool:=l.over==(l.sign==1)
structure Xc (x y:aQ):Prop where
 ov:x.k.over= !y.k.over
 sg:x.k.sign=y.k.sign
 x4:X4 (gX x.k) x.i x.o y.i y.o
def Xc.symm{x y:aQ}(h:Xc x y):Xc y x:=by
 obtain⟨h1,h2,a,b,c,d⟩:=h;have e:gX y.k= !gX x.k:=by unfold gX;rw[h1,h2];cases y.k.over<;>cases(y.k.sign==1)<;>rfl
 refine⟨by rw[h1];simp,h2.symm,?_⟩;rw[e];cases hg:gX x.k
 .rw[hg]at a b c d;simp only[dN,if_false]at a b c d;constructor<;>simp only[GC,if_true]
  .exact c
  .exact d
  .exact a
  exact b
 rw[hg]at a b c d;simp only[if_true]at a b c d;constructor<;>simp only[Ao,dN,if_false]
 .exact c
 .exact d
 .exact a
 exact b
def jd(s:eJ):eJ:=⟨s.r,s.l,s.b⟩
def aQ.up(x:aQ):eJ:=if x.p.d then x.i else jd x.o
def aQ.lo(x:aQ):eJ:=if x.p.d then x.o else jd x.i
structure Bs (F:Nat) (x:aQ):Prop where
 bad:dQ F x.k=false
 cb:x.k.aB=true->x.i.b=x.o.b
 pb:x.k.aE=true->x.o.b=x.p.d/\x.i.b= !x.p.d
def Xr (x y:aQ):Prop:=x.k.aB=true->y.k.aB=true->x.k.id=y.k.id->Xc x y
def Xr.symm{x y:aQ}(h:Xr x y):Xr y x:=fun a b c=>(h b a c.symm).symm
def Dr (x y:aQ):Prop:=x.k.aE=true->y.k.aE=true->x.k.gate=y.k.gate->x.k.aw≠y.k.aw
def Dr.symm{x y:aQ}(h:Dr x y):Dr y x:=fun a b c d=>h b a c.symm d.symm
structure IF (T B:Nat->Nat->Nat) (x:aQ):Prop where
 wt:x.up.r=T x.k.gate.toNat (x.k.aw.toNat-1)
 et:x.up.l=T x.k.gate.toNat x.k.aw.toNat
 wb:x.lo.r=B x.k.gate.toNat (x.k.aw.toNat-1)
 eb:x.lo.l=B x.k.gate.toNat x.k.aw.toNat
abbrev aR(z:k_):ai:=z.map aQ.k
structure Cz (F:Nat) (z:k_) (T B:Nat->Nat->Nat) (S:a_):Prop where
 path:∃s,kE s z s
 ok:∀x∈z,Bs F x
 cr:z.Pairwise Xr
 ev:aq Let.aB (aR z)%2=0
 ids:∀x∈z,x.k.aB=true->1<=x.k.id/\x.k.id<=((aq Let.aB (aR z)/2:Nat):Int)
 rk:z.Pairwise Dr
 rr:∀x∈z,x.k.aE=true->1<=x.k.aw/\x.k.aw<=(cg (aR z) x.k.gate.toNat:Int)
 pl:∀x∈z,x.k.aE=true->IF T B x
 gt:∀g,g<F->T g (cg (aR z) g)=T (g+1) 0/\B g (cg (aR z) g)=B (g+1) 0
 gz:T F (cg (aR z) F)=T 0 0/\B F (cg (aR z) F)=B 0 0
 one:∃x∈z,x.k.aE=true
 nd:S.Nodup
 wit:∀s∈S,∃x∈z,s=x.o.l\/s=x.o.r
 num:aq Let.aE (aR z)+aq Let.aB (aR z)/2+1<=S.length
def Cert(F:Nat)(l:c_):Prop:= ∃z T B S,z.map aQ.p=l/\Cz F z T B S
def DF{p:Let->Bool}{z z':k_}(h:z.Perm z'):aq p (aR z)=aq p (aR z'):=(h.map aQ.k).countP_eq p
def Cz.perm{z z':k_}{T B:Nat->Nat->Nat}{S:a_}(c:Cz F z T B S)(h:z.Perm z')(hp:∃s,kE s z' s):Cz F z' T B S:=by
 have hm:∀ {x},x∈z'↔x∈z:=fun{x}=>h.symm.mem_iff;have e:∀p,aq p (aR z')=aq p (aR z):=fun p=>(DF h).symm;have eg:∀g,cg (aR z') g=cg (aR z) g:=fun g=>e _;refine⟨hp,fun x hx=>c.ok x (hm.1 hx),(h.pairwise_iff fun{x y}=>Xr.symm).1 c.cr,by rw[e];exact c.ev,fun x hx=>by rw[e];exact c.ids x (hm.1 hx),(h.pairwise_iff fun{x y}=>Dr.symm).1 c.rk,
  fun x hx=>by rw[eg];exact c.rr x (hm.1 hx),fun x hx=>c.pl x (hm.1 hx),fun g hg=>by rw[eg];exact c.gt g hg,by rw[eg];exact c.gz,?_,c.nd,fun s hs=>?_,by rw[e,e];exact c.num⟩
 .obtain⟨x,hx,h1⟩:=c.one;exact⟨x,hm.2 hx,h1⟩
 obtain⟨x,hx,h1⟩:=c.wit s hs;exact⟨x,hm.2 hx,h1⟩
def Cz.lE{a b:k_}{T B:Nat->Nat->Nat}{S:a_}(c:Cz F (a++b) T B S):Cz F (b++a) T B S:=by obtain⟨s,h⟩:=c.path;exact c.perm (List.perm_append_comm) (atw h)
def Cert.lE{a b:c_}(c:Cert F (a++b)):Cert F (b++a):=by obtain⟨z,T,B,S,h,c⟩:=c;obtain⟨x,y,rfl,rfl,rfl⟩:=List.map_eq_append_iff.1 h;exact⟨y++x,T,B,S,by rw[kS],c.lE⟩
def att:∀ {z:k_}{s t:eJ},(∀x∈z,Bs F x)->kE s z t->s.b=false->t.b=true->∃x∈z,x.k.aE=true/\x.p.d=true:=by
 intro z
 induction z with
 |nil=>intro s t _ h h1 h2;cases h;rw[h1]at h2;cases h2
 |cons x z ih=>
  intro s t ok h h1 h2;obtain⟨rfl,h⟩:=h;have ox:=ok x af;by_cases hd:x.k.aE=true/\x.p.d=true
  .exact⟨x,af,hd⟩
  have hb:x.o.b=false:=by
   rcases wM ox.bad with hp|hc
   .rw[(ox.pb hp).1];cases yn:x.p.d
    .rfl
    exact absurd ⟨hp,yn⟩ hd
   rw[<-ox.cb hc];exact h1
  obtain⟨y,hy,e⟩:=ih (fun x hx=>ok x (by simp[hx])) h hb h2;exact⟨y,by simp[hy],e⟩
def Cz.down{z:k_}{T B:Nat->Nat->Nat}{S:a_}(c:Cz F z T B S):∃x∈z,x.k.aE=true/\x.p.d=true:=by
 obtain⟨x,hx,hp⟩:=c.one;cases hd:x.p.d
 .obtain⟨a,b,rfl⟩:=List.append_of_mem hx;have c2:=c.lE;obtain⟨s,h⟩:=c2.path;obtain⟨rfl,h⟩:=h;obtain⟨e1,e2⟩:=(c.ok x af).pb hp;rw[hd]at e1 e2;obtain⟨y,hy,e⟩:=att (fun y hy=>c.ok y (by
   rcases eO.1 hy with hy|hy
   .simp[hy]
   simp[hy])) h e1 e2
  refine⟨y,?_,e⟩;rcases eO.1 hy with hy|hy
  .simp[hy]
  simp[hy]
 exact⟨x,hx,hp,hd⟩
def Td{l:c_}{f:Nat}(hf:f<=l.length):xD l f l.length=(l.drop f++l.take f).map Pc.l:=by
 apply xL;intro i;by_cases hi:i<l.length
 .have h1:(xD l f l.length)[i]?=some (l.getD ((f+i)%l.length) ⟨lQ,false⟩).l:=by
   simp[xD,hi]
  rw[h1,fG];by_cases h2:f+i<l.length
  .rw[xM (by simp;omega),Ar,fT h2];simp[h2]
  rw[Aq (by simp;omega),lH];have h3:(f+i)%l.length=i-(l.length-f):=by rw[akI aa,fT aa];omega
  have h4:i-(l.length-f)<l.length:=aa;rw[h3,mA,aD aa];simp[h4]
 have h1:(xD l f l.length).length=l.length:=by simp[xD]
 rw[n9 (by rw[h1];omega),n9 (by simp;omega)]
def Cert.fin{l:c_}(c:Cert F l):∃z T B S x r,z=x::r/\x.k.aE=true/\x.p.d=true/\aR z=dO l/\z.length=l.length/\Cz F z T B S:=by
 obtain⟨z,T,B,S,h,c⟩:=c;subst h;obtain⟨x,hx,hp,hd⟩:=c.down;have hP:∀y:aQ,y.k.aE=(y.p.l.kind==1):=fun y=>rfl;obtain⟨j,hj⟩:=gV hx;have nQ:=(aT.1 hj).1;have Bi:(z.map aQ.p)[j]?=some x.p:=by rw[fG,hj];rfl
 obtain⟨f,hf⟩:∃f,tV (z.map aQ.p)=some f:=by
  cases h:tV (z.map aQ.p)with
  |some f=>exact⟨f,rfl⟩
  |none=>have:=Jb.1 h j (by simpa using nQ);rw[Pe Bi]at this;unfold EB at this;rw[hP]at hp;simp[hp,hd]at this
 have h1:=Md hf;have h2:f<z.length:=by
  have:=Jf hf
  simpa using this
 obtain⟨y,hy⟩:=aT.2 ⟨h2,rfl⟩ |> fun h=>(⟨_,h⟩:∃y,z[f]?=some y)
 have hyp:(z.map aQ.p)[f]?=some y.p:=by rw[fG,hy];rfl
 rw[Pe hyp]at h1;unfold EB at h1;rw[cH]at h1;have hz:z=z.take f++y::z.drop (f+1):=by obtain⟨hl,e⟩:=aT.1 hy;rw[<-e,uw,mU]
 have Bc:z.drop f=y::z.drop (f+1):=by obtain⟨hl,e⟩:=aT.1 hy;rw[<-e,uw]
 refine⟨y::z.drop (f+1)++z.take f,T,B,S,y,z.drop (f+1)++z.take f,rfl,h1.1,h1.2,?_,?_,?_⟩
 .unfold dO;rw[hf,oE,Td (by rw[cE];omega),<-Bc];simp only[kS,T0,Je,uy];rfl
 .rw[<-Bc,fS,lH,iz,cE];omega
 rw[hz]at c;exact c.lE
def ant{ls:ai}(he:aq Let.aB ls%2=0)(hi:Ym ls)(hp:ID ls):mJ ls=true:=by
 rw[U0 he (IU.2 ⟨hi,hp⟩)];have OJ:=ZT ls;have hle:∀id∈fA ls ls.length,aq (mr id) ls<=2:=fun id _=>by rw[So id];have:=Cc hp id true;have:=Cc hp id false;omega
 have h1:=ajE (f:=fun id=>aq (mr id) ls) _ hle;have h2:(fA ls ls.length).length<=aq Let.aB ls/2:=by
  have hr:∀id∈fA ls ls.length,1<=id/\id<=((aq Let.aB ls/2:Nat):Int):=fun id hid=>by obtain⟨j,o,hj,hh⟩:=(Ig (bY _)).1 hid;obtain⟨m,hm,mc,mi,_⟩:=Cd hh;rw[<-mi];exact hi m (aV hm) mc
  have:=LR ((fA ls ls.length).map Int.toNat) (List.range' 1 (aq Let.aB ls/2)) ?_ ?_
  .rwa[cE,List.length_range']at this
  .refine yW.2 (aaj (fun{a b} ha hb h e=>h ?_) (Sf ls ls.length));have:=hr a ha;have:=hr b hb;omega
  intro x hx;obtain⟨id,hid,rfl⟩:=cJ.1 hx;have:=hr id hid;rw[List.mem_range'_1];omega
 simp only[cZ];omega
def Lr{s t:eJ}{z:k_}{x:aQ}(h:kE s z t)(hx:z[0]?=some x):x.i=s:=by
 cases z with
 |nil=>cases hx
 |cons y z=>cases hx;exact h.1
def ah7:∀ {z:k_}{s t:eJ}{i:Nat}{x y:aQ},kE s z t->z[i]?=some x->z[i+1]?=some y->x.o=y.i:=by
 intro z
 induction z with
 |nil=>intro s t i x y _ hx;cases hx
 |cons a z ih=>
  intro s t i x y h hx hy;cases i with
  |zero=>cases hx;exact(Lr h.2 hy).symm
  |succ i=>exact ih h.2 hx hy
def ah5:∀ {z:k_}{s t:eJ}{x:aQ},kE s z t->z[z.length-1]?=some x->x.o=t:=by
 intro z
 induction z with
 |nil=>intro s t x _ hx;cases hx
 |cons a z ih=>
  intro s t x h hx;cases z with
  |nil=>cases hx;exact h.2
  |cons b z=>exact ih h.2 hx
def ah4{z:k_}{s:eJ}{j:Nat}{x y:aQ}(h:kE s z s)(hx:z[j]?=some x)(hy:z[(j+1)%z.length]?=some y):x.o=y.i:=by
 have hj:=(aT.1 hx).1;by_cases c:j+1<z.length
 .rw[fT c]at hy;exact ah7 h hx hy
 have:j+1=z.length:=aa;rw[this,E0]at hy;rw[ah5 h (by rw[<-this];exact hx),Lr h hy]
def CH{z:k_}{i:Nat}{x:aQ}(h:z[i]?=some x):(aR z)[i]?=some x.k:=by rw[fG,h];rfl
def Ew{z:k_}{i:Nat}{l:Let}(h:(aR z)[i]?=some l):∃x,z[i]?=some x/\x.k=l:=by rw[fG,dT]at h;exact h
def SR{z:k_}{s t:eJ}(ok:∀x∈z,Bs F x)(h:kE s z t)(hs:s.b=false):∀i x,z[i]?=some x->x.i.b= !dn (aR z) i/\x.o.b= !dn (aR z) (i+1):=by
 have step:∀i x,z[i]?=some x->x.i.b=(!dn (aR z) i)->x.o.b= !dn (aR z) (i+1):=fun i x hx hb=>by
  have ox:=ok x (aV hx);rcases wM ox.bad with hp|hc
  .rw[MX (CH hx) hp,L8,(ox.pb hp).1];have:=(ox.pb hp).2;rw[hb]at this;revert this;cases dn (aR z) i<;>cases x.p.d<;>simp
  rw[MY (CH hx) (by
   cases hp:x.k.aE
   .rfl
   rw[qS hp]at hc;cases hc),<-hb,ox.cb hc]
 intro i
 induction i with
 |zero=>
  intro x hx;have:x.i.b= !dn (aR z) 0:=by rw[Lr h hx,hs];rfl
  exact⟨this,step 0 x hx this⟩
 |succ i ih=>intro y hy;obtain⟨x,hx⟩:=aL (ls:=z) (k:=i) (by have:=(aT.1 hy).1;omega);have e:=(ih x hx).2;rw[ah7 h hx hy]at e;exact⟨e,step (i+1) y hy e⟩
def aie{ls:ai}{f:Nat->Nat->Nat}(hf:∀g,g<F->f g (cg ls g)=f (g+1) 0):∀(d g k g' k':Nat),g'=g+d->g'<=F->k<=cg ls g->k'<=cg ls g'->fh ls g+k=fh ls g'+k'->f g k=f g' k':=by
 intro d
 induction d with
 |zero=>intro g k g' k' e _ _ _ h;rw[vr]at e;subst e;rw[show k=k' by omega]
 |succ d ih=>intro g k g' k' e hF hk lO h;have hm:=BS (ls:=ls) (show g+1<=g' by omega);have hs:=uM ls g;have:k=cg ls g:=aa;subst this;rw[hf g aa];exact ih (g+1) 0 g' k' aa hF (bR _) lO aa
def Zr{ls:ai}{f:Nat->Nat->Nat}(hf:∀g,g<F->f g (cg ls g)=f (g+1) 0){g k g' k':Nat}(hg:g<=F)(Eb:g'<=F)(hk:k<=cg ls g)(lO:k'<=cg ls g')(h:fh ls g+k=fh ls g'+k'):f g k=f g' k':=by
 rcases Nat.le_total g g' with c|c
 .exact aie hf (g'-g) g k g' k' aa Eb hk lO h
 exact(aie hf (g-g') g' k' g k aa hg lO hk h.symm).symm
def noE:aQ:=⟨⟨lQ,false⟩,⟨0,0,false⟩,⟨0,0,false⟩⟩
def qc(z:k_)(x:Nat):Nat:=
 if x<2*z.length then(if x%2=0 then(z.getD (x/2) noE).o.l else(z.getD (x/2) noE).o.r)
 else if x%2=0 then(z.getD ((aG (aR z)).getD ((x-2*z.length)/2) 0) noE).up.l else(z.getD ((aG (aR z)).getD ((x-2*z.length)/2) 0) noE).lo.l
def FD{z:k_}{i:Nat}{x:aQ}(h:z[i]?=some x):z.getD i noE=x:=by rw[dC,h];rfl
section
variable {F:Nat} {z:k_} {s:eJ}
def YE(h:kE s z s){v:Nat}{x:aQ}(hx:z[v]?=some x)(g:Bool):qc z (dx z.length v g)=if g then x.o.l else x.i.r:=by
 have hv:=(aT.1 hx).1;cases g with
 |true=>show qc z (2*v)=_;unfold qc;rw[aD aa,aD aa,show 2*v/2=v by omega,FD hx];rfl
 |false=>show qc z (2*((v+z.length-1)%z.length)+1)=_;have hm:=de (v+z.length-1) (show 0<z.length by omega);obtain⟨y,hy⟩:=aL (ls:=z) hm;have e:=ah4 h hy (by rw[vZ hv];exact hx);unfold qc;rw[aD aa,au aa,show(2*((v+z.length-1)%z.length)+1)/2=(v+z.length-1)%z.length by omega,FD hy,e];rfl
def arO(h:kE s z s){v:Nat}{x:aQ}(hx:z[v]?=some x)(g:Bool):qc z (fV z.length v g)=if g then x.i.l else x.o.r:=by
 have hv:=(aT.1 hx).1;cases g with
 |false=>show qc z (2*v+1)=_;unfold qc;rw[aD aa,au aa,show(2*v+1)/2=v by omega,FD hx];rfl
 |true=>show qc z (2*((v+z.length-1)%z.length))=_;have hm:=de (v+z.length-1) (show 0<z.length by omega);obtain⟨y,hy⟩:=aL (ls:=z) hm;have e:=ah4 h hy (by rw[vZ hv];exact hx);unfold qc;rw[aD aa,aD aa,show(2*((v+z.length-1)%z.length))/2=(v+z.length-1)%z.length by omega,FD hy,e];rfl
def agR{k v:Nat}{x:aQ}(ha:(aG (aR z)).getD k 0=v)(hx:z[v]?=some x):qc z (2*z.length+2*k)=x.up.l:=by unfold qc;rw[au aa,aD aa,show(2*z.length+2*k-2*z.length)/2=k by omega,ha,FD hx]
def agQ{k v:Nat}{x:aQ}(ha:(aG (aR z)).getD k 0=v)(hx:z[v]?=some x):qc z (2*z.length+2*k+1)=x.lo.l:=by unfold qc;rw[au aa,au aa,show(2*z.length+2*k+1-2*z.length)/2=k by omega,ha,FD hx]
def Cz.SQ{T B:Nat->Nat->Nat}{S:a_}(c:Cz F z T B S){i j:Nat}{x y:aQ}(hx:z[i]?=some x)(hy:z[j]?=some y)(ij:i≠j):Xr x y/\Dr x y:=by
 obtain⟨hi,ex⟩:=aT.1 hx;obtain⟨hj,ey⟩:=aT.1 hy;subst ex ey;rcases akH ij with h|h
 .exact⟨T2.1 c.cr i j hi hj h,T2.1 c.rk i j hi hj h⟩
 exact⟨(T2.1 c.cr j i hj hi h).symm,(T2.1 c.rk j i hj hi h).symm⟩
def Cz.fi{T B:Nat->Nat->Nat}{S:a_}(c:Cz F z T B S){x:aQ}(hx:x∈z)(hp:x.k.aE=true):vF F (aR z) x.k:=by obtain⟨⟨⟨⟨g0,g1⟩,_⟩,_⟩,_⟩:=(sB hp).1 (c.ok x hx).bad;obtain⟨r0,r1⟩:=c.rr x hx hp;exact⟨g0,g1,r0,r1⟩
def Cz.dg{T B:Nat->Nat->Nat}{S:a_}(c:Cz F z T B S)(hl:z.length<=1000000):fJ F (aR z):=by
 refine⟨by rw[cE];exact hl,⟨fun l hl hp=>?_,fun i j l m hi hj pl pm e=>?_⟩,ant c.ev (fun l hl hc=>?_) (fun i j l m hi hj cl cm e ij=>?_),fun l hl=>?_⟩
 .obtain⟨x,hx,rfl⟩:=cJ.1 hl;exact c.fi hx hp
 .obtain⟨x,hx,rfl⟩:=Ew hi;obtain⟨y,hy,rfl⟩:=Ew hj;refine Decidable.byContradiction fun ij=>?_;obtain⟨h1,h2⟩:=(IH (c.fi (aV hx) pl) (c.fi (aV hy) pm)).1 e;exact(c.SQ hx hy ij).2 pl pm h1 h2
 .obtain⟨x,hx,rfl⟩:=cJ.1 hl;exact c.ids x hx hc
 .obtain⟨x,hx,rfl⟩:=Ew hi;obtain⟨y,hy,rfl⟩:=Ew hj;have:=(c.SQ hx hy ij).1 cl cm e;refine⟨?_,this.sg⟩;rw[this.ov];cases y.k.over<;>simp
 obtain⟨x,hx,rfl⟩:=cJ.1 hl;exact wM (c.ok x hx).bad
def Cz.r6{T B:Nat->Nat->Nat}{S:a_}(c:Cz F z T B S):r6 F (aR z):=fun l hl hp=>by obtain⟨x,hx,rfl⟩:=cJ.1 hl;exact((sB hp).1 (c.ok x hx).bad).1.1.1
def Cz.Qr{T B:Nat->Nat->Nat}{S:a_}(c:Cz F z T B S)(hl:z.length<=1000000){k u v:Nat}{x y:aQ}(hu:(aG (aR z))[k]?=some u)(hv:(aG (aR z))[(k+1)%(aG (aR z)).length]?=some v)(hx:z[u]?=some x)(hy:z[v]?=some y):x.up.l=y.up.r/\x.lo.l=y.lo.r:=by
 have ok:=c.dg hl;have hk:=(aT.1 hu).1;obtain⟨l,l1,l2,l3⟩:=BK ok.ax hu;obtain⟨m,m1,m2,m3⟩:=BK ok.ax hv;rw[CH hx]at l1;cases l1;rw[CH hy]at m1;cases m1;have gx:=c.fi (aV hx) l2;have gy:=c.fi (aV hy) m2;have px:=c.pl x (aV hx) l2;have py:=c.pl y (aV hy) m2;obtain⟨x1,x2,x3,x4⟩:=gx;obtain⟨y1,y2,y3,y4⟩:=gy;have key:∀f:Nat->Nat->Nat,(∀g,g<F->f g (cg (aR z) g)=f (g+1) 0)->f F (cg (aR z) F)=f 0 0->f x.k.gate.toNat x.k.aw.toNat=f y.k.gate.toNat (y.k.aw.toNat-1):=by
  intro f hf hz;unfold dF at l3 m3;by_cases c1:k+1<(aG (aR z)).length
  .rw[fT c1]at m3;exact Zr hf aa aa aa aa aa
  have hT:=GN c.r6;have hs:=uM (aR z) F;have:k+1=(aG (aR z)).length:=aa;rw[this,E0]at m3;rw[Zr hf (g:=x.k.gate.toNat) (k:=x.k.aw.toNat) (g':=F) (k':=cg (aR z) F) aa (bY _) aa (bY _) aa,hz];exact Zr hf (bR _) aa (bR _) aa (by show 0+0=_;omega)
 exact⟨by rw[px.et,py.wt];exact key T (fun g hg=>(c.gt g hg).1) c.gz.1,by rw[px.eb,py.wb];exact key B (fun g hg=>(c.gt g hg).2) c.gz.2⟩
def Cz.walk{T B:Nat->Nat->Nat}{S:a_}(c:Cz F z T B S)(hl:z.length<=1000000)(h:kE s z s)(hs:s.b=false)(hx:x<nD (aR z)):qc z (aO (aR z) x)=qc z x:=by
 have ok:=c.dg hl;have hn:(aR z).length=z.length:=cE ..;have hN:nD (aR z)=2*z.length+2*(aG (aR z)).length:=by unfold nD;rw[hn]
 have ft:=SR c.ok h hs;by_cases c1:x<2*z.length
 .obtain⟨v,fw,hv,rfl⟩:∃v fw,v<z.length/\x=fV z.length v fw:=⟨_,_,by
   split
   .exact de _ aa
   omega,Qp c1⟩
  obtain⟨e,he⟩:=aL (ls:=z) hv;have hle:=CH he;have oe:=c.ok e (aV he);rw[arO h he];rcases wM oe.bad with hp|hc
  .have hd:dn (aR z) v=e.p.d:=by
    have:=(ft v e he).1;rw[(oe.pb hp).2]at this;revert this;cases e.p.d<;>cases dn (aR z) v<;>simp
   obtain⟨a1,a2⟩:=Mx ok hle hp;have t:=Gz hle hp fw;rw[hn]at t;rw[t,hd];by_cases c2:(e.p.d==fw)=true
   .rw[aD c2,agR a2 he];unfold aQ.up;have:=eq_of_beq c2;subst this;cases e.p.d<;>rfl
   rw[au c2];have hm:=de ((aG (aR z)).idxOf v+(aG (aR z)).length-1) (show 0<(aG (aR z)).length by omega);obtain⟨u,hu⟩:=aL hm;obtain⟨l,u1,u2⟩:=uF.1 (aV hu);obtain⟨y,hy,rfl⟩:=Ew u1;have hv':(aG (aR z))[(aG (aR z)).idxOf v]?=some v:=by obtain⟨q,hq⟩:=aL a1;rw[dC,hq]at a2;rw[hq];exact congrArg some a2
   have:=(c.Qr hl hu (by rw[vZ a1];exact hv') hy he).2;rw[agQ (by rw[dC,hu];rfl) hy,this];unfold aQ.lo;revert c2;cases e.p.d<;>cases fw<;>simp[jd]
  obtain⟨b1,m,hm,mc,mi,mo,ms⟩:=sC ok.cr hle hc;obtain⟨y,hy,rfl⟩:=Ew hm;have aH:v≠fM (aR z) v:=by intro ee;rw[<-ee,hle]at hm;have:=pz hm;rw[<-this]at mo;revert mo;cases e.k.over<;>simp
  obtain⟨_,_,xa,xb,xc,xd⟩:=(c.SQ he hy aH).1 hc mc mi.symm;have t:=yN hle hc fw;rw[hn]at t;rw[t,YE h hy];unfold gX at xa xb;cases hg:(e.k.over==(e.k.sign==1))<;>rw[hg]at xa xb<;>simp only[dN,if_false,if_true]at xa xb<;>cases fw<;>simp_all
 have hk:(x-2*z.length)/2<(aG (aR z)).length:=aa;obtain⟨u,hu⟩:=aL hk;obtain⟨l,u1,u2⟩:=uF.1 (aV hu);obtain⟨e,he,rfl⟩:=Ew u1;have hgu:(aG (aR z)).getD ((x-2*z.length)/2) 0=u:=by rw[dC,hu];rfl
 rcases vt x with yy|yy
 .have ex:x=2*z.length+2*((x-2*z.length)/2):=aa;have hm:=de ((x-2*z.length)/2+1) (show 0<(aG (aR z)).length by omega);obtain⟨w,hw⟩:=aL hm;obtain⟨l,w1,w2⟩:=uF.1 (aV hw);obtain⟨y,hy,rfl⟩:=Ew w1;have hgw:(aG (aR z)).getD (((x-2*z.length)/2+1)%(aG (aR z)).length) 0=w:=by rw[dC,hw];rfl
  have oy:=c.ok y (aV hy);have hd:dn (aR z) w=y.p.d:=by have:=(ft w y hy).1;rw[(oy.pb w2).2]at this;revert this;cases y.p.d<;>cases dn (aR z) w<;>simp
  have t:=EN (ls:=aR z) ((x-2*z.length)/2);rw[hn,<-ex]at t;rw[t,hgw,YE h hy,hd];have a:=(c.Qr hl hu hw he hy).1;have r:=agR hgu he;rw[<-ex]at r;rw[r,a];unfold aQ.up;cases y.p.d<;>simp[jd]
 have ex:x=2*z.length+2*((x-2*z.length)/2)+1:=aa;have oy:=c.ok e (aV he);have hd:dn (aR z) u=e.p.d:=by have:=(ft u e he).1;rw[(oy.pb u2).2]at this;revert this;cases e.p.d<;>cases dn (aR z) u<;>simp
 have t:=EM (ls:=aR z) ((x-2*z.length)/2);rw[hn,<-ex]at t;rw[t,hgu,YE h he,hd];have r:=agQ hgu he;rw[<-ex]at r;rw[r];unfold aQ.lo;cases e.p.d<;>simp[jd]
def Cz.check{T B:Nat->Nat->Nat}{S:a_}(c:Cz F z T B S){x:aQ}{r:k_}(hz:z=x::r)(hp:x.k.aE=true)(hd:x.p.d=true)(hl:z.length<=400)(eX:aq Let.aB (aR z)<=200)(hF:F<=40):cG F (aR z)=0:=by
 have ok:=c.dg aa;have hn:(aR z).length=z.length:=cE ..;obtain⟨s,h⟩:=c.path;have oU:z[0]?=some x:=by rw[hz];rfl
 have hs:s.b=false:=by rw[<-Lr h oU,((c.ok x (aV oU)).pb hp).2,hd];rfl
 have jN:0<z.length:=by rw[hz];simp
 have ft:=SR c.ok h hs;have eF:aq Let.aE (aR z)%2=0:=by
  obtain⟨y,hy⟩:=aL (ls:=z) (k:=z.length-1) aa;have:=(ft _ y hy).2;rw[ah5 h hy,hs,show z.length-1+1=(aR z).length by rw[hn];omega]at this;unfold dn at this;rw[lJ]at this
  simpa using this
 have Oq:mQ (aR z)=aq Let.aE (aR z)+aq Let.aB (aR z)/2+2:=by
  obtain⟨b1,b2⟩:=aoE ok;have key:∀a∈S,∃d,qc z d=a/\d<2*z.length:=fun a ha=>by
   obtain⟨y,hy,e⟩:=c.wit a ha;obtain⟨j,hj⟩:=gV hy;have nQ:=(aT.1 hj).1;rcases e with e|e
   .exact⟨2*j,by unfold qc;rw[aD aa,aD aa,show 2*j/2=j by omega,FD hj,e],aa⟩
   exact⟨2*j+1,by unfold qc;rw[aD aa,au aa,show(2*j+1)/2=j by omega,FD hj,e],aa⟩
  obtain⟨M,m1,m2⟩:=ag1 (P:=fun a d=>qc z d=a/\d<2*z.length) (f:=qc z) (fun a d h=>h.1) key;have hN:nD (aR z)=2*z.length+2*(aG (aR z)).length:=by unfold nD;rw[hn]
  have:=axE (maps ok) (φ:=qc z) (fun y hy=>c.walk aa h hs hy) (reps:=M) (fun d hd=>by obtain⟨_,_,h⟩:=m2 d hd;omega) (by rw[m1];exact c.nd)
  have hM:M.length=S.length:=by rw[<-m1,cE]
  have hnum:=c.num;have:M.length<=mQ (aR z):=this;omega
 have aH:aR z≠[]:=by intro e;rw[e]at hn;simp at hn;omega
 unfold cG;rw[au (by rw[hn];omega),au aa,au aH,aD];unfold my;have mq:=(Pj c.r6).2 ⟨ok.ax.fi,ok.ax.inj⟩;have Xy:(aR z).any (dQ F)=false:=IZ.2 fun l hl=>by obtain⟨y,hy,rfl⟩:=cJ.1 hl;rw[(c.ok y hy).bad];decide
 rw[CH oU,YJ.2 ⟨Xy,mq,ok.cr⟩,Oq,eF];have hk:(x.k.kind==1)=true:=hp;simp only[hk,Av,yP]
def Cert.check{l:c_}(c:Cert F l)(hl:l.length<=400)(eX:aq Let.aB (l.map Pc.l)<=200)(hF:F<=40):cG F (dO l)=0:=by
 obtain⟨w,T,B,S,x,r,hz,hp,hd,zO,hlen,cz⟩:=c.fin;have oR:aq Let.aB (aR w)=aq Let.aB (l.map Pc.l):=by
  rw[zO];have hf:(tV l).getD 0<=l.length:=by
   cases h:tV l with
   |none=>exact bR _
   |some f=>have:=Jf h;simp at this;simp only[oE];omega
  unfold dO;rw[Td hf];show List.countP _ _=List.countP _ _;rw[kS,xJ,Ml,<-xJ,<-kS,mU]
 rw[<-zO];exact cz.check hz hp hd aa aa hF
end
def yH(ls:ai)(x:Nat):Nat:=ER (gH (aO ls) (nD ls)) x
def rR(ls:ai)(i:Nat):eJ:=⟨yH ls (2*i),yH ls (2*i+1),!dn ls (i+1)⟩
def eB(ls:ai)(i:Nat):aQ:=⟨⟨ls.getD i lQ,eN ls i⟩,rR ls ((i+ls.length-1)%ls.length),rR ls i⟩
def zF (ls:ai):k_:=(List.range ls.length).map (eB ls)
def TF (ls:ai)(g k:Nat):Nat:=yH ls (2*ls.length+2*((fh ls g+k+(aG ls).length-1)%(aG ls).length))
def BF (ls:ai)(g k:Nat):Nat:=yH ls (2*ls.length+2*((fh ls g+k+(aG ls).length-1)%(aG ls).length)+1)
def IW(ls:ai):(zF ls).map aQ.p=pieces ls:=by unfold zF pieces;rw[uy];rfl
def mz(ls:ai):aR (zF ls)=ls:=by
 have h:aR (zF ls)=(pieces ls).map Pc.l:=by rw[<-IW,uy];rfl
 rw[h];apply xL;intro i;rw[fG];by_cases hi:i<ls.length
 .obtain⟨l,hl⟩:=aL hi;rw[ju hl,hl];rfl
 rw[n9 (by rw[eY];omega),n9 aa];rfl
def L7(ls:ai):(zF ls).length=ls.length:=by simp[zF]
def GB{ls:ai}{i:Nat}(h:i<ls.length):(zF ls)[i]?=some (eB ls i):=by simp[zF,h]
def eH{ls:ai}{i:Nat}{l:Let}(h:ls[i]?=some l):(eB ls i).k=l:=by show ls.getD i lQ=l;rw[dC,h];rfl
def ah6(f:Nat->aQ)(e:Nat->eJ):∀k a,(∀i,a<=i->i<a+k->(f i).i=e i/\(f i).o=e (i+1))->kE (e a) ((List.range' a k).map f) (e (a+k)):=by
 intro k
 induction k with
 |zero=>intro a _;rfl
 |succ k ih=>intro a h;rw[List.range'_succ,ek];obtain⟨h1,h2⟩:=h a (bY _) aa;refine⟨h1,?_⟩;rw[h2,show a+(k+1)=a+1+k by omega];exact ih (a+1) fun i hi hk=>h i aa aa
def SP{R:aQ->aQ->Prop}{f:Nat->aQ}{n:Nat}(h:∀i j,i<n->j<n->i≠j->R (f i) (f j)):((List.range n).map f).Pairwise R:=yW.2 (aaj (fun{a b} ha hb dL=>h a b (im.1 ha) (im.1 hb) dL) (GH (n:=n)))
section
variable {F:Nat} {ls:ai}
def Zp(g:ch F ls){i:Nat}{w:a_}(hi:(gH (aO ls) (nD ls))[i]?=some w)(hx:x∈w):yH ls x=i:=PD (Dd _ _).1 hi hx
def atD(g:ch F ls)(hx:x<nD ls):∃w,(gH (aO ls) (nD ls))[yH ls x]?=some w/\x∈w:=by obtain⟨u,hu,Ib⟩:=GF.1 ((Dd (aO ls) (nD ls)).2 x hx);obtain⟨i,hi⟩:=gV hu;rw[Zp g hi Ib];exact⟨u,hi,Ib⟩
def Gl(g:ch F ls)(hx:x<nD ls):yH ls (aO ls x)=yH ls x:=by obtain⟨w,hw,Ga⟩:=atD g hx;exact Zp g hw (yO (maps g.ok) (aV hw) Ga)
def Zo(g:ch F ls){v:Nat}(hv:v<ls.length)(fw:Bool):yH ls (fV ls.length v fw)=if fw then(eB ls v).i.l else(eB ls v).o.r:=by cases fw<;>rfl
def SW{v:Nat}(fw:Bool):yH ls (dx ls.length v fw)=if fw then(eB ls v).o.l else(eB ls v).i.r:=by cases fw<;>rfl
def acB(g:ch F ls):dn ls ls.length=true:=by unfold dn;rw[lJ];have:=g.even;simp[this]
def Yp(g:ch F ls){i:Nat}(hi:i<ls.length):(eB ls i).i.b= !dn ls i:=by
 show(!dn ls ((i+ls.length-1)%ls.length+1))=_;by_cases h:i=0
 .subst h;rw[jx,fT aa,show ls.length-1+1=ls.length by omega,acB g];rfl
 rw[show i+ls.length-1=(i-1)+ls.length by omega,ow,fT aa,show i-1+1=i by omega]
def Ju{v:Nat}(hv:v<ls.length)(fw:Bool):fV ls.length v fw<nD ls:=by have:=xS hv fw;unfold nD;omega
def QP(g:ch F ls){v:Nat}{l:Let}(hl:ls[v]?=some l)(hp:l.aE=true):(eB ls v).p.d=dn ls v:=by show eN ls v=_;simp[eN,hl,hp]
def Fx(g:ch F ls){i:Nat}(hi:i<ls.length):Bs F (eB ls i):=by
 obtain⟨l,hl⟩:=aL hi;have hk:=eH hl;refine⟨by rw[hk];exact g.bad l (aV hl),fun hc=>?_,fun hp=>?_⟩
 .rw[hk]at hc;rw[Yp g hi];show _= !dn ls (i+1);rw[MY hl (by
   cases hp:l.aE
   .rfl
   rw[qS hp]at hc;cases hc)]
 rw[hk]at hp;rw[Yp g hi,QP g hl hp];refine⟨?_,rfl⟩;show(!dn ls (i+1))=_;rw[MX hl hp,L8]
def M7(g:ch F ls){i j:Nat}(hi:i<ls.length)(hj:j<ls.length)(ij:i≠j):Xr (eB ls i) (eB ls j):=by
 obtain⟨l,hl⟩:=aL hi;obtain⟨m,hm⟩:=aL hj;intro hc mc e;rw[eH hl]at hc e;rw[eH hm]at mc e;obtain⟨_,hp⟩:=g.ids;obtain⟨d1,d2⟩:=hp i j l m hl hm hc mc e ij;obtain⟨b1,w,hw,wc,wi,wo,ws⟩:=sC g.ok.cr hl hc;have hoj:fM ls i=j:=by refine TS fun aH=>?_;have d3:=(hp _ _ w m hw hm wc mc (by rw[wi,e]) aH).1;rw[wo]at d3;revert d1 d3;cases l.over<;>cases m.over<;>simp
 refine⟨?_,by rw[eH hl,eH hm];exact d2,?_⟩
 .rw[eH hl,eH hm];revert d1;cases l.over<;>cases m.over<;>simp
 rw[eH hl];have t1:=Gl g (Ju hi true);have t2:=Gl g (Ju hi false);have t3:=Gl g (Ju hj true);have t4:=Gl g (Ju hj false);rw[yN hl hc,hoj,SW,Zo g hi]at t1 t2;rw[yN hm mc,<-hoj,b1,hoj,SW,Zo g hj]at t3 t4;have hg:(m.over==(m.sign==1))= !gX l:=by unfold gX;rw[<-d2];revert d1;cases l.over<;>cases m.over<;>cases(l.sign==1)<;>simp
 rw[hg]at t3 t4;have Eb:(l.over==(l.sign==1))=gX l:=rfl;rw[Eb]at t1 t2;cases Bg:gX l<;>rw[Bg]at t1 t2 t3 t4<;>simp at t1 t2 t3 t4<;>constructor<;>simp[t1,t2,t3,t4]
def QQ(g:ch F ls){v:Nat}{l:Let}(hl:ls[v]?=some l)(hp:l.aE=true):IF (TF ls) (BF ls) (eB ls v):=by
 have hv:=(aT.1 hl).1;have ok:=g.ok;have gd:=ok.ax.fi l (aV hl) hp;obtain⟨g0,g1,r0,r1⟩:=gd;obtain⟨a1,a2⟩:=Mx ok hl hp;have XM:=Fh ok.ax hl hp;have hP:fh ls l.gate.toNat+l.aw.toNat=(aG ls).idxOf v+1:=by rw[XM];unfold dF;omega
 have hPm:fh ls l.gate.toNat+(l.aw.toNat-1)=(aG ls).idxOf v:=aa;have eR:(fh ls l.gate.toNat+l.aw.toNat+(aG ls).length-1)%(aG ls).length=(aG ls).idxOf v:=by rw[hP,show(aG ls).idxOf v+1+(aG ls).length-1=(aG ls).idxOf v+(aG ls).length by omega,ow,fT a1]
 have hk:=eH hl;have hd:=QP g hl hp;have nR:∀k,k<(aG ls).length->2*ls.length+2*k<nD ls/\2*ls.length+2*k+1<nD ls:=fun k hk=>by unfold nD;omega
 have hm:=de ((aG ls).idxOf v+(aG ls).length-1) (show 0<(aG ls).length by omega);have q1:=Gl g (Ju hv (dn ls v));have q2:=Gl g (Ju hv (!dn ls v));have q3:=Gl g (nR _ a1).2;have q4:=Gl g (nR _ hm).1;rw[Gz hl hp,Zo g hv]at q1 q2;rw[EM,a2,SW]at q3;rw[EN,vZ a1,a2,SW]at q4;constructor
 .rw[hk];unfold TF;rw[hPm];unfold aQ.up;rw[hd];cases ft:dn ls v<;>rw[ft]at q4<;>exact q4
 .rw[hk];unfold TF;rw[eR];unfold aQ.up;rw[hd];cases ft:dn ls v<;>rw[ft]at q1<;>exact q1.symm
 .rw[hk];unfold BF;rw[hPm];unfold aQ.lo;rw[hd];cases ft:dn ls v<;>rw[ft]at q2<;>exact q2.symm
 rw[hk];unfold BF;rw[eR];unfold aQ.lo;rw[hd];cases ft:dn ls v<;>rw[ft]at q3<;>exact q3
def ch.cz(g:ch F ls):Cz F (zF ls) (TF ls) (BF ls) (List.range (mQ ls)):=by
 have hn:0<ls.length:=jl.2 g.ne;have mem:∀x∈zF ls,∃i,i<ls.length/\x=eB ls i:=fun x hx=>by obtain⟨i,hi,rfl⟩:=cJ.1 hx;exact⟨i,im.1 hi,rfl⟩
 have hT:fh ls (F+1)=(aG ls).length:=GN fun l hl hp=>((sB hp).1 (g.bad l hl)).1.1.1;have hs:=uM ls F;have hm:0<(aG ls).length:=by obtain⟨l,h1,h2⟩:=g.first;exact Mh (uF.2 ⟨l,h1,h2⟩)
 have eX:=g.ok.cr;unfold mJ at eX;simp only[cH,cZ]at eX;refine⟨⟨rR ls (ls.length-1),?_⟩,fun x hx=>?_,SP fun i j hi hj ij=>M7 g hi hj ij,by rw[mz];exact eX.1.1,fun x hx hc=>?_,SP fun i j hi hj ij=>?_,fun x hx hp=>?_,fun x hx hp=>?_,
  fun k hk=>?_,?_,?_,GH,fun s hs=>?_,?_⟩
 .have:=ah6 (eB ls) (fun i=>rR ls ((i+ls.length-1)%ls.length)) ls.length 0 fun i _ hi=>⟨rfl,?_⟩
  .simp only[jx]at this;rw[fT aa,show ls.length+ls.length-1=(ls.length-1)+ls.length by omega,ow,fT aa,<-akA]at this;exact this
  show rR ls i=rR ls ((i+1+ls.length-1)%ls.length);rw[show i+1+ls.length-1=i+ls.length by omega,ow,fT aa]
 .obtain⟨i,hi,rfl⟩:=mem x hx;exact Fx g hi
 .obtain⟨i,hi,rfl⟩:=mem x hx;obtain⟨l,hl⟩:=aL hi;rw[eH hl]at hc |-;rw[mz];exact g.ids.1 l (aV hl) hc
 .obtain⟨l,hl⟩:=aL hi;obtain⟨m,hm⟩:=aL hj;intro pl pm e1 e2;rw[eH hl]at pl e1 e2;rw[eH hm]at pm e1 e2;exact ij (g.ok.ax.inj i j l m hl hm pl pm ((IH (g.ok.ax.fi l (aV hl) pl) (g.ok.ax.fi m (aV hm) pm)).2 ⟨e1,e2⟩))
 .obtain⟨i,hi,rfl⟩:=mem x hx;obtain⟨l,hl⟩:=aL hi;rw[eH hl]at hp |-;rw[mz];obtain⟨_,_,r0,r1⟩:=g.ok.ax.fi l (aV hl) hp;exact⟨r0,r1⟩
 .obtain⟨i,hi,rfl⟩:=mem x hx;obtain⟨l,hl⟩:=aL hi;rw[eH hl]at hp;exact QQ g hl hp
 .rw[mz];unfold TF BF;rw[uM ls k,vr];exact⟨rfl,rfl⟩
 .rw[mz];unfold TF BF;have e1:fh ls F+cg ls F=(aG ls).length:=aa;have e0:fh ls 0=0:=rfl;rw[e1,e0,jx,show(aG ls).length+(aG ls).length-1=((aG ls).length-1)+(aG ls).length by omega,ow];exact⟨rfl,rfl⟩
 .obtain⟨l,h1,h2⟩:=g.first;exact⟨eB ls 0,aV (GB hn),by rw[eH h1];exact h2⟩
 .obtain⟨w,hw⟩:=aL (im.1 hs);obtain⟨⟨d,t,e,hd⟩,_⟩:=PC g.ok w (aV hw);have hp:yH ls d=s:=Zp g hw (by rw[e];simp);refine⟨eB ls (d/2),aV (GB aa),?_⟩;rcases vt d with h|h
  .refine .inl ?_;show s=yH ls (2*(d/2));rw[show 2*(d/2)=d by omega,hp]
  refine .inr ?_;show s=yH ls (2*(d/2)+1);rw[show 2*(d/2)+1=d by omega,hp]
 rw[mz,EX,g.nw];omega
end
structure Cq (F:Nat) (z:k_) (T B:Nat->Nat->Nat):Prop where
 ok:∀x∈z,Bs F x
 cr:z.Pairwise Xr
 ev:aq Let.aB (aR z)%2=0
 ids:∀x∈z,x.k.aB=true->1<=x.k.id/\x.k.id<=((aq Let.aB (aR z)/2:Nat):Int)
 rk:z.Pairwise Dr
 rr:∀x∈z,x.k.aE=true->1<=x.k.aw/\x.k.aw<=(cg (aR z) x.k.gate.toNat:Int)
 pl:∀x∈z,x.k.aE=true->IF T B x
 gt:∀g,g<F->T g (cg (aR z) g)=T (g+1) 0/\B g (cg (aR z) g)=B (g+1) 0
 gz:T F (cg (aR z) F)=T 0 0/\B F (cg (aR z) F)=B 0 0
def eJ.mp(ψ:Nat->Nat)(s:eJ):eJ:=⟨ψ s.l,ψ s.r,s.b⟩
def aQ.mp(ψ:Nat->Nat)(h:Let->Let)(x:aQ):aQ:=⟨⟨h x.p.l,x.p.d⟩,x.i.mp ψ,x.o.mp ψ⟩
def X4.mp{g:Bool}{i o j q:eJ}(h:X4 g i o j q)(ψ:Nat->Nat):X4 g (i.mp ψ) (o.mp ψ) (j.mp ψ) (q.mp ψ):=by obtain⟨a,b,c,d⟩:=h;cases g<;>simp only[dN,if_false,if_true]at a b c d<;>constructor<;>simp[eJ.mp,a,b,c,d]
def ahs(ψ:Nat->Nat)(h:Let->Let)(x:aQ):(x.mp ψ h).up=x.up.mp ψ:=by unfold aQ.up aQ.mp;cases x.p.d<;>rfl
def ahr(ψ:Nat->Nat)(h:Let->Let)(x:aQ):(x.mp ψ h).lo=x.lo.mp ψ:=by unfold aQ.lo aQ.mp;cases x.p.d<;>rfl
def SU{ψ:Nat->Nat}{h:Let->Let}:∀ {z:k_}{s t:eJ},kE s z t->kE (s.mp ψ) (z.map (aQ.mp ψ h)) (t.mp ψ):=by
 intro z
 induction z with
 |nil=>intro s t e;cases e;rfl
 |cons x z ih=>intro s t e;obtain⟨rfl,e⟩:=e;exact⟨rfl,ih e⟩
def aeb{S L:a_}(hn:S.Nodup):S.length<=(S.filter fun s=> !L.contains s).length+L.length:=by
 have h1:S.length=(S.filter fun s=> !L.contains s).length+(S.filter fun s=>L.contains s).length:=by have:=List.length_eq_countP_add_countP (fun s=> !L.contains s) (l:=S);rw[aan,aan]at this;rw[this];congr 2;apply List.filter_congr;intro x _;simp
 have h2:=LR (S.filter fun s=>L.contains s) L (hn.filter _) fun x hx=>by simpa using(uz.1 hx).2
 omega
structure BI (h:Let->Let):Prop where
 kind:∀l,(h l).kind=l.kind
 over:∀l,(h l).over=l.over
 sign:∀l,(h l).sign=l.sign
def BI.aE{h:Let->Let}(s:BI h)(l:Let):(h l).aE=l.aE:=by unfold Let.aE;rw[s.kind]
def BI.aB{h:Let->Let}(s:BI h)(l:Let):(h l).aB=l.aB:=by unfold Let.aB;rw[s.kind]
def BI.id:BI id:=⟨fun _=>rfl,fun _=>rfl,fun _=>rfl⟩
section
variable {F:Nat} {X r X':k_} {T B T' B':Nat->Nat->Nat} {S:a_} {ψ:Nat->Nat} {h:Let->Let}
def Cz.q{z:k_}(c:Cz F z T B S):Cq F z T B:=⟨c.ok,c.cr,c.ev,c.ids,c.rk,c.rr,c.pl,c.gt,c.gz⟩
def Cq.perm{z z':k_}(c:Cq F z T B)(hh:z.Perm z'):Cq F z' T B:=by
 have hm:∀ {x},x∈z'↔x∈z:=fun{x}=>hh.symm.mem_iff;have e:∀p,aq p (aR z')=aq p (aR z):=fun p=>(DF hh).symm;have eg:∀g,cg (aR z') g=cg (aR z) g:=fun g=>e _;exact⟨fun x hx=>c.ok x (hm.1 hx),(hh.pairwise_iff fun{x y}=>Xr.symm).1 c.cr,by rw[e];exact c.ev,fun x hx=>by rw[e];exact c.ids x (hm.1 hx),(hh.pairwise_iff fun{x y}=>Dr.symm).1 c.rk,
  fun x hx=>by rw[eg];exact c.rr x (hm.1 hx),fun x hx=>c.pl x (hm.1 hx),fun g hg=>by rw[eg];exact c.gt g hg,by rw[eg];exact c.gz⟩
def Bs.mp{x:aQ}(o:Bs F x)(s:BI h)(hb:dQ F (h x.k)=false):Bs F (x.mp ψ h):=by
 refine⟨hb,fun hc=>?_,fun hp=>?_⟩
 .exact o.cb (by rw[<-s.aB];exact hc)
 exact o.pb (by rw[<-s.aE];exact hp)
def Cq.edit(q:Cq F (X++r) T B)(s:BI h)(hb:∀x∈r,dQ F (h x.k)=false)
  (hid:∀x∈r,∀y∈r,x.k.aB=true->y.k.aB=true->(h x.k).id=(h y.k).id->x.k.id=y.k.id)
  (mq:∀x∈r,∀y∈r,x.k.aE=true->y.k.aE=true->(h x.k).gate=(h y.k).gate->(h x.k).aw=(h y.k).aw->x.k.gate=y.k.gate/\x.k.aw=y.k.aw)
  (n1:∀x∈X',Bs F x) (n2:X'.Pairwise Xr) (n3:X'.Pairwise Dr) (n4:∀x∈X',∀y∈r,Xr x (y.mp ψ h)) (n5:∀x∈X',∀y∈r,Dr x (y.mp ψ h))
  (ev:aq Let.aB (aR (X'++r.map (aQ.mp ψ h)))%2=0)
  (ids:∀x∈X',x.k.aB=true->1<=x.k.id/\x.k.id<=((aq Let.aB (aR (X'++r.map (aQ.mp ψ h)))/2:Nat):Int))
  (aqW:∀x∈r,x.k.aB=true->1<=(h x.k).id/\(h x.k).id<=((aq Let.aB (aR (X'++r.map (aQ.mp ψ h)))/2:Nat):Int))
  (rr:∀x∈X',x.k.aE=true->1<=x.k.aw/\x.k.aw<=(cg (aR (X'++r.map (aQ.mp ψ h))) x.k.gate.toNat:Int))
  (rr':∀x∈r,x.k.aE=true->1<=(h x.k).aw/\(h x.k).aw<=(cg (aR (X'++r.map (aQ.mp ψ h))) (h x.k).gate.toNat:Int))
  (pl:∀x∈X',x.k.aE=true->IF T' B' x)
  (CQ:∀x∈r,x.k.aE=true->(ψ (T x.k.gate.toNat (x.k.aw.toNat-1))=T' (h x.k).gate.toNat ((h x.k).aw.toNat-1)/\ψ (B x.k.gate.toNat (x.k.aw.toNat-1))=B' (h x.k).gate.toNat ((h x.k).aw.toNat-1))/\ψ (T x.k.gate.toNat x.k.aw.toNat)=T' (h x.k).gate.toNat (h x.k).aw.toNat/\ψ (B x.k.gate.toNat x.k.aw.toNat)=B' (h x.k).gate.toNat (h x.k).aw.toNat)
  (gt:∀g,g<F->T' g (cg (aR (X'++r.map (aQ.mp ψ h))) g)=T' (g+1) 0/\B' g (cg (aR (X'++r.map (aQ.mp ψ h))) g)=B' (g+1) 0)
  (gz:T' F (cg (aR (X'++r.map (aQ.mp ψ h))) F)=T' 0 0/\B' F (cg (aR (X'++r.map (aQ.mp ψ h))) F)=B' 0 0):Cq F (X'++r.map (aQ.mp ψ h)) T' B':=by
 have crr:=(PU.1 q.cr).2.1;have rkr:=(PU.1 q.rk).2.1;have mem:∀x∈X'++r.map (aQ.mp ψ h),x∈X'\/ ∃y∈r,x=y.mp ψ h:=fun x hx=>by
  rcases eO.1 hx with hx|hx
  .exact .inl hx
  obtain⟨y,hy,rfl⟩:=cJ.1 hx;exact .inr ⟨y,hy,rfl⟩
 have in':∀y∈r,y∈X++r:=fun y hy=>Dh _ hy;refine⟨fun x hx=>?_,?_,ev,fun x hx hc=>?_,?_,fun x hx hp=>?_,fun x hx hp=>?_,gt,gz⟩
 .rcases mem x hx with hx|⟨y,hy,rfl⟩
  .exact n1 x hx
  exact(q.ok y (in' y hy)).mp s (hb y hy)
 .refine PU.2 ⟨n2,yW.2 (crr.imp_of_mem fun{x y} hx hy js hc hd e=>?_),fun x hx y hy=>?_⟩
  .have hc:x.k.aB=true:=by rw[<-s.aB];exact hc
   have hd:y.k.aB=true:=by rw[<-s.aB];exact hd
   obtain⟨h1,h2,h3⟩:=js hc hd (hid x hx y hy hc hd e);refine⟨?_,?_,?_⟩
   .show(h x.k).over= !(h y.k).over;rw[s.over,s.over];exact h1
   .show(h x.k).sign=(h y.k).sign;rw[s.sign,s.sign];exact h2
   have:gX (x.mp ψ h).k=gX x.k:=by show((h x.k).over==((h x.k).sign==1))=_;rw[s.over,s.sign];rfl
   rw[this];exact h3.mp ψ
  obtain⟨w,hw,rfl⟩:=cJ.1 hy;exact n4 x hx w hw
 .rcases mem x hx with hx|⟨y,hy,rfl⟩
  .exact ids x hx hc
  exact aqW y hy (by rw[<-s.aB];exact hc)
 .refine PU.2 ⟨n3,yW.2 (rkr.imp_of_mem fun{x y} hx hy js hc hd e1 e2=>?_),fun x hx y hy=>?_⟩
  .have hc:x.k.aE=true:=by rw[<-s.aE];exact hc
   have hd:y.k.aE=true:=by rw[<-s.aE];exact hd
   obtain⟨f1,f2⟩:=mq x hx y hy hc hd e1 e2;exact js hc hd f1 f2
  obtain⟨w,hw,rfl⟩:=cJ.1 hy;exact n5 x hx w hw
 .rcases mem x hx with hx|⟨y,hy,rfl⟩
  .exact rr x hx hp
  exact rr' y hy (by rw[<-s.aE];exact hp)
 rcases mem x hx with hx|⟨y,hy,rfl⟩
 .exact pl x hx hp
 have hp:y.k.aE=true:=by rw[<-s.aE];exact hp
 obtain⟨p1,p2,p3,p4⟩:=q.pl y (in' y hy) hp;obtain⟨⟨a1,a2⟩,a3,a4⟩:=CQ y hy hp;constructor
 .rw[ahs];show ψ y.up.r=_;rw[p1];exact a1
 .rw[ahs];show ψ y.up.l=_;rw[p2];exact a3
 .rw[ahr];show ψ y.lo.r=_;rw[p3];exact a2
 rw[ahr];show ψ y.lo.l=_;rw[p4];exact a4
def Cq.done{l:c_}{z':k_}{L N:a_}{V:Nat}(q:Cq F (X'++r.map (aQ.mp ψ h)) T' B')(gI:S.Nodup)(wit:∀s∈S,∃x∈X++r,s=x.o.l\/s=x.o.r)
  (oR:z'.Perm (X'++r.map (aQ.mp ψ h))) (X8:∃s,kE s z' s) (hl:z'.map aQ.p=l) (one:∃x∈X'++r.map (aQ.mp ψ h),x.k.aE=true)
  (hψ:∀s∈S,s∉L->ψ s=s) (hX:∀x∈X,∀s∈S,(s=x.o.l\/s=x.o.r)->s∉L->∃y∈X'++r.map (aQ.mp ψ h),s=y.o.l\/s=y.o.r)
  (hN:N.Nodup) (hNS:∀s∈N,s∉S) (hNw:∀s∈N,∃y∈X'++r.map (aQ.mp ψ h),s=y.o.l\/s=y.o.r)
  (hS:V<=S.length) (num:aq Let.aE (aR (X'++r.map (aQ.mp ψ h)))+aq Let.aB (aR (X'++r.map (aQ.mp ψ h)))/2+1+L.length<=V+N.length):Cert F l:=by
 have qz:=q.perm oR.symm;have hm:∀ {x},x∈z'↔x∈X'++r.map (aQ.mp ψ h):=fun{x}=>oR.mem_iff;refine⟨z',T',B',N++S.filter (fun s=> !L.contains s),hl,⟨X8,qz.ok,qz.cr,qz.ev,qz.ids,qz.rk,qz.rr,qz.pl,qz.gt,qz.gz,?_,?_,fun s hs=>?_,?_⟩⟩
 .obtain⟨x,hx,e⟩:=one;exact⟨x,hm.2 hx,e⟩
 .refine GG.2 ⟨hN,gI.filter _,fun a ha b hb e=>?_⟩;subst e;exact hNS a ha (uz.1 hb).1
 .have key:∃y∈X'++r.map (aQ.mp ψ h),s=y.o.l\/s=y.o.r:=by
   rcases eO.1 hs with hs|hs
   .exact hNw s hs
   obtain⟨h1,h2⟩:=uz.1 hs;have h2:s∉L:=by simpa using h2
   obtain⟨x,hx,e⟩:=wit s h1;rcases eO.1 hx with hx|hx
   .exact hX x hx s h1 e h2
   refine⟨x.mp ψ h,Dh _ (cJ.2 ⟨x,hx,rfl⟩),?_⟩;have hp:=hψ s h1 h2;rcases e with e|e
   .left;show s=ψ x.o.l;rw[<-e,hp]
   right;show s=ψ x.o.r;rw[<-e,hp]
  obtain⟨y,hy,e⟩:=key;exact⟨y,hm.2 hy,e⟩
 have e:∀p,aq p (aR z')=aq p (aR (X'++r.map (aQ.mp ψ h))):=fun p=>DF oR;rw[e,e,fS];have:=aeb (L:=L) gI;omega
end
def UH(p:Let->Bool)(a b:k_):aq p (aR (a++b))=aq p (aR a)+aq p (aR b):=by show List.countP p (List.map _ _)=List.countP p (List.map _ _)+List.countP p (List.map _ _);rw[kS,xJ]
def mF(p:Let->Bool)(x:aQ)(b:k_):aq p (aR (x::b))=(if p x.k then 1 else 0)+aq p (aR b):=by show List.countP p (List.map _ _)=_+List.countP p (List.map _ _);rw[ek,xK,Ml]
def UI(p:Let->Bool):aq p (aR [])=0:=rfl
def DE{p:Let->Bool}{ψ:Nat->Nat}{h:Let->Let}(hp:∀l,p (h l)=p l)(r:k_):aq p (aR (r.map (aQ.mp ψ h)))=aq p (aR r):=by
 induction r with
 |nil=>rfl
 |cons x r ih=>rw[ek,mF,mF,ih];show(if p (h x.k)then 1 else 0)+_=_;rw[hp]
def Jv{l:Let}(g:Nat)(h:l.aB=true):mE g l=false:=by
 unfold mE;cases hp:l.aE
 .rfl
 rw[qS hp]at h;cases h
def nz{l:Let}(h:l.aB=true):l.aE=false:=by
 cases hp:l.aE
 .rfl
 rw[qS hp]at h;cases h
def ao3{α:Type}{z:List α}{a:Nat}(ha:a<z.length)(h2:2<=z.length):∃x y r,z.drop a++z.take a=x::y::r/\z[a]?=some x/\z[(a+1)%z.length]?=some y:=by
 obtain⟨x,hx⟩:=aL ha;obtain⟨hl,e⟩:=aT.1 hx;have hd:z.drop a=x::z.drop (a+1):=by rw[<-e,uw]
 by_cases c:a+1<z.length
 .obtain⟨y,hy⟩:=aL c;obtain⟨ti,e2⟩:=aT.1 hy;have zE:z.drop (a+1)=y::z.drop (a+1+1):=by rw[<-e2,uw]
  exact⟨x,y,z.drop (a+1+1)++z.take a,by rw[hd,zE];rfl,hx,by rw[fT c];exact hy⟩
 have ea:a+1=z.length:=aa;obtain⟨y,hy⟩:=aL (ls:=z) (k:=0) aa;have zE:z.drop (a+1)=[]:=List.drop_eq_nil_of_le aa;have ht:z.take a=y::(z.take a).drop 1:=by
  have h0:(z.take a)[0]?=some y:=by rw[mA,aD aa];exact hy
  obtain⟨hl3,e3⟩:=aT.1 h0;have:=uw (h:=hl3);rw[e3,PO]at this;exact this.symm
 refine⟨x,y,(z.take a).drop 1,?_,hx,by rw[ea,E0];exact hy⟩;rw[hd,zE]
 conv=>lhs;rw[ht]
 rfl
section
variable {F:Nat} {ls:ai}
def zU{l:Let}(h:l.aB=true):(if Let.aB l=true then 1 else 0)=1/\(if Let.aE l=true then 1 else 0)=0:=by simp[h,nz h]
def ifP{l:Let}(h:l.aE=true):(if Let.aB l=true then 1 else 0)=0/\(if Let.aE l=true then 1 else 0)=1:=by simp[h,qS h]
end
def iF(ids:d_)(l:Let):Let:=if l.kind==2 then{l with id:=l.id-((ids.take ids.length).countP (fun i=>decide (i<l.id)):Nat)}else l
def CG(ids:d_):BI (iF ids):=by refine⟨fun l=>?_,fun l=>?_,fun l=>?_⟩<;>unfold iF<;>split<;>rfl
def ahc(ids:d_)(p:Pc):tz ids p=⟨iF ids p.l,p.d⟩:=by unfold tz iF ki;split<;>rfl
def CF{ids:d_}{l:Let}(h:l.aE=true):iF ids l=l:=by unfold iF;have:=qS h;unfold Let.aB at this;rw[au (by rw[this];decide)]
def ag9{ids:d_}{l:Let}(h:dQ F l=false):dQ F (iF ids l)=false:=by
 rcases wM h with hp|hc
 .rw[CF hp];exact h
 have iv:(iF ids l).aB=true:=by rw[(CG ids).aB];exact hc
 rw[O4 hc]at h;rw[O4 iv];unfold iF;split<;>exact h
def ag8(ids:d_)(g:Nat)(l:Let):mE g (iF ids l)=mE g l:=by
 cases hp:l.aE
 .unfold mE;rw[(CG ids).aE,hp];rfl
 rw[CF hp]
def aha{ids:d_}{l:Let}(h:l.aB=true):(iF ids l).id=l.id-((ids.countP fun i=>decide (i<l.id):Nat):Int):=by unfold iF;unfold Let.aB at h;rw[aD h,lJ]
def agH{l:c_}{drop:Nat->Pc->Bool}{d:Pc->Bool}(h:∀i p,drop i p=d p):qP l drop=l.filter fun p=> !d p:=by
 have key:∀k,k<=l.length->u6 l drop k=(l.take k).filter fun p=> !d p:=by
  intro k
  induction k with
  |zero=>intro _;rfl
  |succ k ih=>
   intro hk;obtain⟨p,hp⟩:=aL (ls:=l) (k:=k) aa;rw[oZ,hp,TV,<-ih aa];cases hd:d p
   .rw[KW hp (by rw[h];exact hd)];simp[hd]
   rw[Cx hp (by rw[h];exact hd)];simp[hd]
 unfold qP;rw[key _ (bY _),lJ]
def SS:∀ {z:k_}{s t:eJ},kE s z t->z≠[]->∃w∈z,w.o=t:=by
 intro z
 induction z with
 |nil=>intro s t _ h;exact absurd rfl h
 |cons x z ih=>
  intro s t h _;obtain⟨_,h⟩:=h;cases z with
  |nil=>cases h;exact⟨x,af,rfl⟩
  |cons y z=>obtain⟨w,hw,e⟩:=ih h af;exact⟨w,vq _ hw,e⟩
section
variable {F:Nat} {ls:ai}
def as0{x y:aQ}{r:k_}{T B:Nat->Nat->Nat}(q:Cq F (x::y::r) T B)(cx:x.k.aB=true)(cy:y.k.aB=true)(e:x.k.id=y.k.id):∀w∈r,w.k.aB=true->w.k.id≠x.k.id:=by intro w hw cw ew;obtain⟨p1,p2⟩:=mB.1 q.cr;obtain⟨p3,_⟩:=mB.1 p2;have a:=(p1 y af cx cy e).ov;have b:=(p1 w (by simp[hw]) cx cw ew.symm).ov;have d:=(p3 w hw cy cw (by rw[<-e,ew])).ov;rw[b]at a;rw[d]at a;revert a;cases w.k.over<;>simp
def aah(g:ch F ls){a:Nat}(ha:a<ls.length):∃x y r s,(zF ls).drop a++(zF ls).take a=x::y::r/\(pieces ls)[a]?=some x.p/\(pieces ls)[nx ls a]?=some y.p/\
  Cz F (x::y::r) (TF ls) (BF ls) (List.range (mQ ls))/\kE s (x::y::r) s/\(pieces ls).drop a++(pieces ls).take a=(x::y::r).map aQ.p/\(zF ls)[a]?=some x/\(zF ls)[nx ls a]?=some y/\(x::y::r).Perm (zF ls):=by
 have h2:2<=ls.length:=by obtain⟨l,h1,hp⟩:=g.first;have:=g.even;have:0<aq Let.aE ls:=Ap.2 ⟨l,aV h1,hp⟩;have:=sR Let.aE ls;omega
 have hl:=L7 ls;obtain⟨x,y,r,e,hx,hy⟩:=ao3 (z:=zF ls) (a:=a) aa aa;rw[hl]at hy;have c:Cz F ((zF ls).drop a++(zF ls).take a) (TF ls) (BF ls) (List.range (mQ ls)):=by refine Cz.lE ?_;rw[mU];exact g.cz
 rw[e]at c;obtain⟨s,hs⟩:=c.path;refine⟨x,y,r,s,e,?_,?_,c,hs,?_,hx,hy,?_⟩
 .rw[<-IW,fG,hx];rfl
 .rw[<-IW,fG,hy];rfl
 .rw[<-e,kS,T0,Je,IW]
 rw[<-e];exact List.perm_append_comm.trans (by rw[mU])
def acI{a:Nat}{d:Pc->Bool}{f:Pc->Pc}(c:Cert F ((((pieces ls).drop a++(pieces ls).take a).filter d).map f)):Cert F (((pieces ls).filter d).map f):=by rw[TV,kS]at c;have:=c.lE;rwa[<-kS,<-TV,mU]at this
def afS{l:Let}:l.aB=(l.kind==2):=rfl
def filter_all{α:Type}{l:List α}{p:α->Bool}(h:∀x∈l,p x=true):l.filter p=l:=List.filter_eq_self.2 h
def amJ(g:ch F ls){a:Nat}(ha:a<ls.length){L:c_}(h:u7 ls a=some L):Cert F L:=by
 obtain⟨x,y,r,s,e,hx,hy,c,hp,KI,_,_,oR⟩:=aah g ha;have q:=c.q;unfold u7 at h;have e1:(pieces ls).getD a ⟨lQ,false⟩=x.p:=by rw[dC,hx];rfl
 have e2:(pieces ls).getD ((a+1)%ls.length) ⟨lQ,false⟩=y.p:=by rw[dC,hy];rfl
 simp only[e1,e2]at h;split at h
 case isFalse=>cases h
 rename_i hc;simp only[cH,cZ]at hc;obtain⟨je,qJ,hid⟩:=hc;have cx:x.k.aB=true:=by rw[afS];simp[je]
 have cy:y.k.aB=true:=by rw[afS];simp[qJ]
 have uS:x.k.id=y.k.id:=hid;cases h;have Sc:=as0 q cx cy uS;have js:Xc x y:=(mB.1 q.cr).1 y af cx cy uS;obtain⟨kM,fO,uX⟩:=hp
 -- both ends of the kink look alike
 have ix:=(q.ok x af).cb cx;have iy:=(q.ok y af).cb cy;have hk:=js.x4;rw[kM,fO]at hk;rw[kM]at ix;rw[fO]at iy;have hyo:y.o=s:=by
  obtain⟨k1,k2,k3,k4⟩:=hk;have hb:y.o.b=s.b:=by rw[<-iy,<-ix]
  cases y with
  |mk yp yi yo=>
  cases yo with
  |mk l r b=>
  cases s with
  |mk sl sr sb=>
  cases hg:gX x.k<;>rw[hg]at k1 k2 k3 k4<;>simp only[dN,if_false,if_true]at k1 k2 k3 k4 hb<;>simp_all
 rw[hyo]at uX;have XS:∃b,(s.r=b\/s.l=b)/\ ∀t,(t=x.o.l\/t=x.o.r)->t=s.l\/t=s.r\/t=(if gX x.k then x.o.r else x.o.l):=by
  obtain⟨k1,k2,k3,k4⟩:=hk;refine⟨s.r,.inl rfl,?_⟩;cases hg:gX x.k<;>rw[hg]at k1 k2 k3 k4<;>simp only[dN,if_false,if_true]at k1 k2 k3 k4 |-
  .rintro t (rfl|rfl)
   .exact .inr (.inr rfl)
   exact .inl k1.symm
  rintro t (rfl|rfl)
  .exact .inr (.inl k3)
  exact .inr (.inr rfl)
 obtain⟨_,_,XS⟩:=XS;have eF:=q.ev;have A8:∀z:k_,aq Let.aB (aR (x::y::z))=aq Let.aB (aR z)+2:=fun z=>by rw[mF,mF,(zU cx).1,(zU cy).1];omega
 have HC:∀z:k_,aq Let.aE (aR (x::y::z))=aq Let.aE (aR z):=fun z=>by rw[mF,mF,(zU cx).2,(zU cy).2];omega
 have zB:∀(z:k_) k,cg (aR (x::y::z)) k=cg (aR z) k:=fun z k=>by show aq _ _=aq _ _;rw[mF,mF,Jv k cx,Jv k cy];simp
 have mC:aq Let.aB (aR (r.map (aQ.mp id (iF [x.k.id]))))=aq Let.aB (aR r):=DE (fun l=>(CG _).aB l) r;have mP:aq Let.aE (aR (r.map (aQ.mp id (iF [x.k.id]))))=aq Let.aE (aR r):=DE (fun l=>(CG _).aE l) r;have mG:∀k,cg (aR (r.map (aQ.mp id (iF [x.k.id])))) k=cg (aR r) k:=fun k=>DE (fun l=>ag8 _ k l) r;have lowid:∀w∈r,w.k.aB=true->(iF [x.k.id] w.k).id=if x.k.id<w.k.id then w.k.id-1 else w.k.id:=fun w hw hc=>by
  rw[aha hc];by_cases c:x.k.id<w.k.id
  .simp[c]
  simp[c]
 have Ky:∀w∈x::y::r,w.k.aB=true->1<=w.k.id/\w.k.id<=((aq Let.aB (aR r)/2:Nat):Int)+1:=fun w hw hc=>by have:=q.ids w hw hc;rw[A8]at this;omega
 have hr:r≠[]:=by
  obtain⟨w,hw,rJ⟩:=c.one;rintro rfl
  simp only[bJ,eo,or_false]at hw;rcases hw with rfl|rfl
  .rw[nz cx]at rJ;cases rJ
  rw[nz cy]at rJ;cases rJ
 have inr:∀w∈r,w∈x::y::r:=fun w hw=>by simp[hw]
 have qn:Cq F ([]++r.map (aQ.mp id (iF [x.k.id]))) (TF ls) (BF ls):=by
  refine Cq.edit (X:=[x,y]) (r:=r) q (CG _) (fun w hw=>ag9 (q.ok w (inr w hw)).bad) (fun u hu v hv cu cv e=>?_) (fun u hu v hv pu pv e1 e2=>?_) (fun _ h=>by cases h) List.Pairwise.nil List.Pairwise.nil (fun _ h=>by cases h) (fun _ h=>by cases h) ?_ (fun _ h=>by cases h) (fun u hu cu=>?_) (fun _ h=>by cases h) (fun u hu pu=>?_) (fun _ h=>by cases h) (fun u hu pu=>?_) (fun k hk=>?_) ?_
  .have h1:=Sc u hu cu;have h2:=Sc v hv cv;rw[lowid u hu cu,lowid v hv cv]at e;split at e<;>split at e<;>omega
  .rw[CF pu,CF pv]at e1 e2;exact⟨e1,e2⟩
  .rw[gn,mC];rw[A8]at eF;omega
  .rw[gn,mC,lowid u hu cu];have h1:=Ky u (inr u hu) cu;have h2:=Sc u hu cu;have h3:=Ky x af cx;split<;>omega
  .rw[gn,CF pu,mG,<-zB r];exact q.rr u (inr u hu) pu
  .rw[CF pu];exact⟨⟨rfl,rfl⟩,rfl,rfl⟩
  .rw[gn,mG,<-zB r];exact q.gt k hk
  rw[gn,mG,<-zB r];exact q.gz
 have NT:Cert F (r.map fun w=>tz [x.k.id] w.p):=by
  refine Cq.done (X:=[x,y]) (r:=r) (X':=[]) (L:=[if gX x.k then x.o.r else x.o.l]) (N:=[]) (V:=mQ ls) (z':=r.map (aQ.mp id (iF [x.k.id]))) qn c.nd (fun t ht=>c.wit t ht) (L9 _) ⟨s,SU (ψ:=id) uX⟩ ?_ ?_ (fun _ _ _=>rfl) (fun w hw t ht ew hL=>?_) xO (fun t ht=>by cases ht) (fun t ht=>by cases ht) (by rw[EX];exact bY _) ?_
  .rw[uy];refine As fun w _=>?_;rw[ahc];rfl
  .obtain⟨w,hw,rJ⟩:=c.one;simp only[bJ]at hw;rcases hw with rfl|rfl|hw
   .rw[nz cx]at rJ;cases rJ
   .rw[nz cy]at rJ;cases rJ
   refine⟨w.mp id (iF [x.k.id]),?_,?_⟩
   .rw[gn];exact cJ.2 ⟨w,hw,rfl⟩
   show(iF [x.k.id] w.k).aE=true;rw[(CG _).aE];exact rJ
  .obtain⟨v,hv,hvo⟩:=SS uX hr;have key:t=s.l\/t=s.r:=by
    simp only[bJ,eo,or_false]at hw hL;rcases hw with rfl|rfl
    .rcases XS t ew with h|h|h
     .exact .inl h
     .exact .inr h
     exact absurd h hL
    rw[hyo]at ew;exact ew
   refine⟨v.mp id (iF [x.k.id]),by rw[gn];exact cJ.2 ⟨v,hv,rfl⟩,?_⟩;show t=id v.o.l\/t=id v.o.r;rw[hvo];exact key
  rw[gn,mC,mP];have h1:=g.nw;have h2:aq Let.aB (aR (x::y::r))=aq Let.aB ls:=by rw[DF oR,mz]
  have h3:aq Let.aE (aR (x::y::r))=aq Let.aE ls:=by rw[DF oR,mz]
  rw[A8]at h2;rw[HC]at h3;simp only[fe,dI];omega
 show Cert F ((qP (pieces ls) (vB [x.k.id])).map (tz [x.k.id]));rw[agH (l:=pieces ls) (drop:=vB [x.k.id]) (d:=fun p=>(p.l.kind==2)&&[x.k.id].contains p.l.id) fun _ _=>rfl];refine acI (a:=a) ?_;rw[KI];have hf:((x::y::r).map aQ.p).filter (fun p=> !((p.l.kind==2)&&[x.k.id].contains p.l.id))=r.map aQ.p:=by
  rw[ek,ek,TW (by simp[je]),TW (by simp[qJ,hid])];refine filter_all fun p hp=>?_;obtain⟨w,hw,rfl⟩:=cJ.1 hp;cases hk:(w.p.l.kind==2)
  .rfl
  have:=Sc w hw hk;simp[this]
 rw[hf,uy];exact NT
end
end
end Go.Abs
