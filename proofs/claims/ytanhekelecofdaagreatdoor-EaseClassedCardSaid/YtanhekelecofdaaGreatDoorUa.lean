/-
  Certificates: names of faces at each letter show that a code is valid.
-/
import Derived.Test.YtanhekelecofdaaGreatDoorVe
set_option linter.all false
set_option maxHeartbeats 16000000
namespace Go.Abs
section
variable{F x:Nat}
def aaj{R:Nat->Nat->Prop}{n:Nat}{L:a_}(h:∀x,x<n->∃r∈L,bQ R x r):K (bQ R) n<=L.length:=by
 have key:∀M:a_,M.Nodup->(∀x∈M,x<n/\ld (bQ R) x)->∃N:a_,N.length=M.length/\N.Nodup/\ ∀r∈N,r∈L/\ ∃x∈M,bQ R x r:=by
  intro M
  induction M with
  |nil=>intro _ _;exact⟨[],rfl,xE,af⟩
  |cons a M ih=>
   intro hn hm;obtain⟨n1,n2⟩:=rj.1 hn;obtain⟨N,l1,l2,l3⟩:=ih n2 fun x hx=>hm x (by simp[hx]);obtain⟨ha,la⟩:=hm a af;obtain⟨r,hr,e⟩:=h a ha;refine⟨r::N,by simp[l1],rj.2 ⟨fun hN=>?_,l2⟩,fun q hq=>?_⟩
   .obtain⟨_,x,hx,ex⟩:=l3 r hN;have e1:=la x (e.trans ex.symm);have e2:=(hm x (by simp[hx])).2 a (ex.trans e.symm);have:a=x:=aa;exact n1 (this▸hx)
   rcases ch.1 hq with rfl|hq
   .exact⟨hr,a,af,e⟩
   obtain⟨q1,x,hx,ex⟩:=l3 q hq;exact⟨q1,x,by simp[hx],ex⟩
 obtain⟨N,l1,l2,l3⟩:=key ((List.range n).filter (Cj (bQ R))) (Gn.filter _) fun x hx=>by obtain⟨h1,h2⟩:=uv.1 hx;exact⟨iv.1 h1,KT.1 h2⟩
 unfold K;rw[List.countP_eq_length_filter,<- l1];exact LD _ _ l2 fun r hr=>(l3 r hr).1
def Uj(p:Nat->Nat)(x:Nat):∀i j,it p (i+j) x=it p i (it p j x):=by
 intro i j
 induction i with
 |zero=>rw[jr];rfl
 |succ i ih=>rw[show i+1+j=(i+j)+1 by omega];show p (it p (i+j) x)=p (it p i (it p j x));rw[ih]
def apg{p:Nat->Nat}{m:Nat}(h:it p m x=x):∀k,it p (k*m) x=x:=by
 intro k
 induction k with
 |zero=>rw[Bu];rfl
 |succ k ih=>rw[Nat.succ_mul,Uj,h,ih]
def aqZ{n:Nat}{p:Nat->Nat}(h:Perm n p){a b:Nat}(e:bQ (gr n p) a b):a=b\/(a<n/\b<n/\ ∃k,it p k a=b):=by
 induction e with
 | @rel a b r=>obtain⟨ha,rfl⟩:=r;exact .inr ⟨ha,h.lt _ ha,1,rfl⟩
 |refl _=>exact .inl rfl
 | @symm a b _ ih=>
  rcases ih with rfl|⟨ha,hb,k,hk⟩
  .exact .inl rfl
  obtain⟨m,hm⟩:=h.abU ha;refine .inr ⟨hb,ha,k*m,?_⟩;rw[<- hk,<- Uj,show k*m+k=k*(m+1) by rw[Nat.mul_succ]];exact apg hm k
 |trans _ _ i1 i2=>
  rcases i1 with rfl|⟨ha,hb,k,hk⟩
  .exact i2
  rcases i2 with rfl|⟨_,hc,j,hj⟩
  .exact .inr ⟨ha,hb,k,hk⟩
  exact .inr ⟨ha,hc,j+k,by rw[Uj,hk,hj]⟩
def au1{n:Nat}{p:Nat->Nat}(h:Perm n p){a b:Nat}(dU:a≠b)(e:bQ (gr n p) a b):¬bQ (gr n (tr p (a,b))) a b:=by
 rcases aqZ h e with he|⟨ha,hb,k0,DL⟩
 .exact absurd he dU
 obtain⟨k,hk,ad7⟩:=acA (p:=fun k=>it p k a=b) k0 DL;have k1:1<=k:=by
  rcases Nat.eq_zero_or_pos k with rfl|h
  .exact absurd hk dU
  exact h
 have na:∀j,1<=j->j<=k->it p j a≠a:=fun j j1 j2 ej=>by
  rcases Nat.lt_or_eq_of_le j2 with c|rfl
  .have:it p (k-j) a=b:=by
    rw[<- hk,show k=(k-j)+j by omega,Uj,ej];congr 1;omega
   have:=ad7 _ this;omega
  exact dU (ej.symm.trans hk)
 have nb:∀j,j<k->it p j a≠b:=fun j j1 ej=>by have:=ad7 j ej;omega
 intro e2;have inv:∀x y,gr n (tr p (a,b)) x y->(∃j,1<=j/\j<=k/\x=it p j a)=(∃j,1<=j/\j<=k/\y=it p j a):=by
  rintro x y ⟨hx,rfl⟩
  apply propext;unfold tr;simp only;constructor
  .rintro ⟨j,j1,j2,rfl⟩
   rw[aC (na j j1 j2)];by_cases c:it p j a=b
   .rw[aG c];exact⟨1,aa,k1,rfl⟩
   rw[aC c];refine⟨j+1,aa,?_,rfl⟩;rcases Nat.lt_or_eq_of_le j2 with d|rfl
   .exact d
   exact absurd hk c
  by_cases c:x=a
  .rw[aG c];rintro ⟨j,j1,j2,ej⟩
   exfalso;have:=h.inj _ _ hb (h.HS ha (j-1)) (by rw[ej,show j=(j-1)+1 by omega];rfl);by_cases d:j=1
   .subst d;exact dU this.symm
   exact nb (j-1) aa this.symm
  rw[aC c];by_cases d:x=b
  .subst d;intro _;exact⟨k,k1,cD _,hk.symm⟩
  rw[aC d];rintro ⟨j,j1,j2,ej⟩
  have:=h.inj _ _ hx (h.HS ha (j-1)) (by rw[ej,show j=(j-1)+1 by omega];rfl);by_cases f:j=1
  .subst f;exact absurd this c
  exact⟨j-1,aa,aa,this⟩
 have:=e2.inv inv;have wI:∃j,1<=j/\j<=k/\b=it p j a:=⟨k,k1,cD _,hk.symm⟩;rw[<- this] at wI;obtain⟨j,j1,j2,ej⟩:=wI;exact na j j1 j2 ej.symm
def K_tr{n:Nat}{p:Nat->Nat}(h:Perm n p){a b:Nat}(ha:a<n)(hb:b<n)(dU:a≠b):(K (bQ (gr n (tr p (a,b)))) n+K (bQ (gr n p)) n)%2=1:=by
 have one:∀x y,bQ (rS (gr n (tr p (a,b))) a b) x y↔bQ (rS (gr n p) a b) x y:=fun x y=>by have h:=V1 (p:=p) (S:=fun _ _=>False) ha hb (x:=x) (y:=y);have e:∀q:Nat->Nat,(fun x y=>gr n q x y\/False)=gr n q:=fun q=>funext fun x=>funext fun y=>propext af;rw[e,e] at h;exact h
 have kj:K (bQ (rS (gr n (tr p (a,b))) a b)) n=K (bQ (rS (gr n p) a b)) n:=IS one n;rcases Classical.em (bQ (gr n p) a b) with c|c
 .have k1:=VO c n;have k2:=VN ha hb (au1 h dU c);omega
 have k1:=VN ha hb c;have k2:=VO (air h ha hb c) n;omega
def aiX{n:Nat}:∀(ts:v_) (p:Nat->Nat),Perm n p->(∀t∈ts,t.1<n/\t.2<n/\t.1≠t.2)->(K (bQ (gr n (ts.foldl tr p))) n+K (bQ (gr n p)) n+ts.length)%2=0:=by
 intro ts
 induction ts with
 |nil=>intro p _ _;simp only[List.foldl_nil,fv];omega
 |cons t ts ih=>
  intro p hp ht;obtain⟨a,b⟩:=t;obtain⟨ha,hb,dU⟩:=ht (a,b) af
  replace ha:a<n:=ha
  replace hb:b<n:=hb
  replace dU:a≠b:=dU
  have e1:=ih (tr p (a,b)) (hp.tr ha hb) fun t h=>ht t (by simp[h]);have e2:(K (bQ (gr n (tr p (a,b)))) n+K (bQ (gr n p)) n)%2=1:=K_tr hp ha hb dU;simp only[Bt,dL];omega
def ll(ls:ai)(x:Nat):Nat:=aQ ls (rv x)
def xw(k:Nat):v_:=(List.range k).map fun e=>(2*e,2*e+1)
def ava(q:Nat->Nat):∀k y,(xw k).foldl tr q y=if y<2*k then q (rv y) else q y:=by
 intro k
 induction k with
 |zero=>intro y;rw[aC aa];rfl
 |succ k ih=>
  intro y;have e:xw (k+1)=xw k++[(2*k,2*k+1)]:=by unfold xw;rw[yO,ki];rfl
  rw[e,IK,Bt,List.foldl_nil,Vw];by_cases c1:y=2*k
  .subst c1;rw[aG rfl,ih,aC aa,aG aa,xt]
  rw[aC c1];by_cases c2:y=2*k+1
  .subst c2;rw[aG rfl,ih,aC aa,aG aa,CG]
  rw[aC c2,ih];by_cases c3:y<2*k
  .rw[aG c3,aG aa]
  rw[aC c3,aC aa]
def bQ.push{R R':Nat->Nat->Prop}{f:Nat->Nat}(h:∀a b,R a b->bQ R' (f a) (f b)){y:Nat}(e:bQ R x y):bQ R' (f x) (f y):=by
 induction e with
 |rel r=>exact h _ _ r
 |refl a=>exact .refl _
 |symm _ ih=>exact ih.symm
 |trans _ _ i1 i2=>exact i1.trans i2
section
variable {F:Nat} {ls:ai}
def Zy(ok:fN F ls):Perm (nD ls) (ll ls):=by
 have m:=maps ok;have hN:=Ic ls;have hr:∀y,y<nD ls->rv y<nD ls:=fun y hy=>by rw[hN] at hy |-;exact zW hy
 refine⟨fun y hy=>m.lt _ (hr y hy),fun x y hx hy e=>?_⟩;have:=m.inj _ _ (hr x hx) (hr y hy) e;rw[<- zX x,this,zX]
abbrev E2(ls:ai):Nat:=ls.length+(aI ls).length
def ahl{y:Nat}(hy:y<nD ls):(xw (E2 ls)).foldl tr (ll ls) y=aQ ls y:=by rw[ava,aG (by rw[Ic] at hy;exact hy)];unfold ll;rw[zX]
def anu(x y:Nat):bQ (gr (nD ls) ((xw (E2 ls)).foldl tr (ll ls))) x y↔bQ (gr (nD ls) (aQ ls)) x y:=
 ⟨bQ.mono fun a b r=>by obtain⟨h,rfl⟩:=r;exact .rel ⟨h,ahl h⟩,bQ.mono fun a b r=>by obtain⟨h,rfl⟩:=r;exact .rel ⟨h,(ahl h).symm⟩⟩
def aiu{k:Nat}:∀t∈xw k,t.1<2*k/\t.2<2*k/\t.1≠t.2:=by intro t ht;obtain⟨e,he,rfl⟩:=cV.1 ht;have:=iv.1 he;refine⟨?_,?_,?_⟩<;>simp only<;>omega
def aiU(ok:fN F ls):K (bQ (gr (nD ls) (aQ ls))) (nD ls)=mO ls:=by
 obtain⟨gH,adJ⟩:=CN (aQ ls) (nD ls);have te:∀w∈gO (aQ ls) (nD ls),w≠[]:=fun w hw=>by obtain⟨⟨d,t,e,_⟩,_⟩:=Py ok w hw;rw[e];simp
 have hlen:((gO (aQ ls) (nD ls)).map (·.headD 0)).length=mO ls:=by rw[cU];rfl
 refine Nat.le_antisymm ?_ ?_
 .rw[<- hlen];refine aaj fun x hx=>?_;obtain⟨w,hw,FW⟩:=Gm.1 (adJ x hx);obtain⟨⟨d,t,e,_⟩,_⟩:=Py ok w hw;refine⟨w.headD 0,cV.2 ⟨w,hw,rfl⟩,?_⟩;exact Z8 (maps ok) (R:=gr (nD ls) (aQ ls)) (fun y hy=>.rel ⟨hy,rfl⟩) hw FW (by rw[e];simp)
 rw[<- hlen];refine aai (f:=ED (gO (aQ ls) (nD ls))) ?_ (fun x hx=>?_) ?_
 .rintro a b ⟨ha,rfl⟩
  obtain⟨u,hu,hau⟩:=Gm.1 (adJ a ha);obtain⟨i,hi⟩:=ia hu;rw[Pz gH hi hau,Pz gH hi (yL (maps ok) hu hau)]
 .obtain⟨w,hw,rfl⟩:=cV.1 hx;obtain⟨⟨d,t,e,hd⟩,_⟩:=Py ok w hw;rw[e];simp only[List.headD_cons];have:nD ls=2*ls.length+2*(aI ls).length:=rfl;omega
 rw[aoY gH te];exact Gn
abbrev F7(ls:ai):Nat->Nat->Prop:=gr (nD ls) (ll ls)
def V5{v:Nat}(hv:v<ls.length)(g:Bool):dB ls.length v g<nD ls:=by have h:=xM hv (!g);rw[<- zV] at h;have:=zW h;rw[zX] at this;have:nD ls=2*ls.length+2*(aI ls).length:=rfl;omega
def ahk(v:Nat)(g:Bool):ll ls (dB ls.length v g)=aQ ls (fZ ls.length v (!g)):=by unfold ll;rw[zV]
def asU(ok:fN F ls){v:Nat}(hv:v<ls.length):bQ (F7 ls) (dB ls.length v true) (dB ls.length v false):=by
 obtain⟨l,hl⟩:=aN hv;have st:=aib ok hv false;have:ll ls (ll ls (dB ls.length v true))=dB ls.length v false:=by rw[ahk];exact st
 have p:=Zy ok;rw[<- this];exact(bQ.rel ⟨V5 hv true,rfl⟩).trans (.rel ⟨p.lt _ (V5 hv true),rfl⟩)
def U1(ok:fN F ls){v:Nat}(hv:v<ls.length)(g h:Bool):bQ (F7 ls) (dB ls.length v g) (dB ls.length v h):=by
 have e:=asU ok hv;cases g<;>cases h
 .exact .refl _
 .exact e.symm
 .exact e
 exact .refl _
def asV(ok:fN F ls){v:Nat}{l:Let}(hl:ls[v]?=some l)(hc:l.aD=true):bQ (F7 ls) (dB ls.length v true) (dB ls.length (fQ ls v) true):=by
 obtain⟨h1,m,hm,mc,mi,mo,ms⟩:=sD ok.cr hl hc;have hv:=(aW.1 hl).1;have hw:=(aW.1 hm).1;have:ll ls (dB ls.length v true)=dB ls.length (fQ ls v) (false==(l.over==(l.sign==1))):=by rw[ahk,yK hl hc];rfl
 exact(bQ.rel ⟨V5 hv true,this.symm⟩).trans (U1 ok hw _ _)
def asT(ok:fN F ls){k:Nat}(hk:k<(aI ls).length):bQ (F7 ls) (2*ls.length+2*k) (dB ls.length ((aI ls).getD k 0) true):=by
 have aB:2*ls.length+2*k<nD ls:=by unfold nD;omega
 obtain⟨l,h1,h2⟩:=GF hk;have hv:=(aW.1 h1).1;have:ll ls (2*ls.length+2*k)=dB ls.length ((aI ls).getD k 0) (dn ls ((aI ls).getD k 0)):=by unfold ll;rw[show 2*ls.length+2*k=2*(ls.length+k) by omega,xt,show 2*(ls.length+k)+1=2*ls.length+2*k+1 by omega,Ez]
 exact(bQ.rel ⟨aB,this.symm⟩).trans (U1 ok hv _ _)
def asS(ok:fN F ls){k:Nat}(hk:k<(aI ls).length):bQ (F7 ls) (2*ls.length+2*k+1) (dB ls.length ((aI ls).getD ((k+1)%(aI ls).length) 0) true):=by
 have aB:2*ls.length+2*k+1<nD ls:=by unfold nD;omega
 obtain⟨l,h1,h2⟩:=GF (dk (k+1) (show 0<(aI ls).length by omega));have hv:=(aW.1 h1).1;have:ll ls (2*ls.length+2*k+1)=dB ls.length ((aI ls).getD ((k+1)%(aI ls).length) 0) (!dn ls ((aI ls).getD ((k+1)%(aI ls).length) 0)):=by unfold ll;rw[show 2*ls.length+2*k+1=2*(ls.length+k)+1 by omega,CG,show 2*(ls.length+k)=2*ls.length+2*k by omega,EA]
 exact(bQ.rel ⟨aB,this.symm⟩).trans (U1 ok hv _ _)
def asX(ok:fN F ls)(hx:x<nD ls):∃v,v<ls.length/\bQ (F7 ls) x (dB ls.length v true):=by
 by_cases c:x<2*ls.length
 .have hy:rv x<2*ls.length:=zW c;obtain⟨v,fw,hv,e⟩:∃v fw,v<ls.length/\rv x=fZ ls.length v fw:=⟨_,_,by
   split
   .exact dk _ aa
   omega,P9 hy⟩
  have:x=dB ls.length v (!fw):=by rw[<- as4,<- e,zX]
  exact⟨v,hv,by rw[this];exact U1 ok hv _ _⟩
 have hN:nD ls=2*ls.length+2*(aI ls).length:=rfl;have hk:(x-2*ls.length)/2<(aI ls).length:=aa;rcases u9 x with h|h
 .obtain⟨l,h1,h2⟩:=GF hk;refine⟨_,(aW.1 h1).1,?_⟩;have:=asT ok hk;rwa[show 2*ls.length+2*((x-2*ls.length)/2)=x by omega] at this
 obtain⟨l,h1,h2⟩:=GF (dk ((x-2*ls.length)/2+1) (show 0<(aI ls).length by omega));refine⟨_,(aW.1 h1).1,?_⟩;have:=asS ok hk;rwa[show 2*ls.length+2*((x-2*ls.length)/2)+1=x by omega] at this
def avi(ok:fN F ls):∃L:a_,L.length=aq Let.aF ls+aq Let.aD ls/2/\(∀j∈L,j<ls.length)/\(L.map (l6 ls)).Nodup/\ ∀v,v<ls.length->∃j∈L,l6 ls j=l6 ls v:=by
 have hc:=ok.cr;unfold mI at hc;simp only[cJ,dh] at hc;obtain⟨L,l1,l2,l3⟩:=avh ok;refine⟨L,l1,l2,l3,fun v hv=>?_⟩
 -- all the names there are
 let A:u_:=(aI ls).map (fun i:Nat=>((0:Int),(i:Int)))++(fJ ls ls.length).map fun id=>((1:Int),id)
 have hA:A.length=aq Let.aF ls+aq Let.aD ls/2:=by simp only[A,gJ,cU,Db,hc.2]
 have jC:∀v,v<ls.length->l6 ls v∈A:=fun v hv=>by
  obtain⟨l,hl⟩:=aN hv;unfold l6;rw[hl];rcases ok.kinds l (aZ hl) with hp|fg
  .simp only[qV hp,dR,if_false];exact Gl _ (cV.2 ⟨v,uz.2 ⟨l,hl,hp⟩,rfl⟩)
  simp only[fg,if_true];refine EK _ (cV.2 ⟨l.id,?_,rfl⟩);exact(HP (cD _)).2 ⟨v,l.over,hv,by rw[Ko hl fg];simp⟩
 refine Classical.byContradiction fun eh=>?_;have hn:l6 ls v∉L.map (l6 ls):=fun h=>by obtain⟨j,hj,e⟩:=cV.1 h;exact eh ⟨j,hj,e⟩
 have T6:∀(X Y:u_),X.Nodup->(∀x∈X,x∈Y)->X.length<=Y.length:=by
  intro X
  induction X with
  |nil=>intro Y _ _;exact cA _
  |cons a X ih=>intro Y hn hs;obtain⟨h1,h2⟩:=rj.1 hn;have ha:=hs a af;have:=ih (Y.erase a) h2 fun x hx=>(List.mem_erase_of_ne (by rintro rfl;exact h1 hx)).2 (hs x (by simp[hx]));rw[VJ ha] at this;have:0<Y.length:=L7 ha;simp only[dL];omega
 have:=T6 (l6 ls v::L.map (l6 ls)) A (rj.2 ⟨hn,l3⟩) fun x hx=>by
  rcases ch.1 hx with rfl|hx
  .exact jC v hv
  obtain⟨j,hj,rfl⟩:=cV.1 hx;exact jC j (l2 j hj)
 rw[dL,cU,l1,hA] at this;omega
def avk(ok:fN F ls){u v:Nat}(hu:u<ls.length)(hv:v<ls.length)(e:l6 ls u=l6 ls v):bQ (F7 ls) (dB ls.length v true) (dB ls.length u true):=by
 obtain⟨l,hl⟩:=aN hu;obtain⟨m,hm⟩:=aN hv;unfold l6 at e;rw[hl,hm] at e;simp only at e;cases cl:l.aD<;>cases cm:m.aD
 .simp only[cl,cm,dR,if_false,lE,true_and] at e;have:u=v:=aa;subst this;exact .refl _
 .simp[cl,cm] at e
 .simp[cl,cm] at e
 simp only[cl,cm,if_true,lE,true_and] at e;have fg:=ok.cr;have hp:Il ls:=by unfold mI at fg;simp only[cJ,dh,gj,iv] at fg;exact(IC.1 fg.1.2).2
 by_cases HM:u=v
 .subst HM;exact .refl _
 obtain⟨h1,w,hw,wc,wi,wo,ws⟩:=sD ok.cr hm cm;have:fQ ls v=u:=by refine Classical.byContradiction fun aK=>?_;have d1:=(hp _ _ w l hw hl wc cl (by rw[wi,e]) aK).1;have d2:=(hp _ _ l m hl hm cl cm e HM).1;rw[wo] at d1;revert d1 d2;cases l.over<;>cases m.over<;>simp
 have:=asV ok hm cm;rwa[‹fQ ls v=u›] at this
def aiW(ok:fN F ls):K (bQ (F7 ls)) (nD ls)=aq Let.aF ls+aq Let.aD ls/2:=by
 obtain⟨L,l1,l2,l3,l4⟩:=avi ok;have hN:=Ic ls;have hN':nD ls=2*ls.length+2*(aI ls).length:=rfl;have KB:∀y,y<nD ls->rv y<nD ls:=fun y hy=>by rw[hN] at hy |-;exact zW hy
 have hlen:(L.map (2* ·)).length=aq Let.aF ls+aq Let.aD ls/2:=by rw[cU,l1]
 refine Nat.le_antisymm ?_ ?_
 .rw[<- hlen];refine aaj fun x hx=>?_;obtain⟨v,hv,e⟩:=asX ok hx;obtain⟨j,hj,ej⟩:=l4 v hv;exact⟨2*j,cV.2 ⟨j,hj,rfl⟩,e.trans (avk ok (l2 j hj) hv ej)⟩
 rw[<- hlen];refine aai (f:=fun x=>l6 ls (zt ls (rv x))) ?_ (fun x hx=>?_) ?_
 .rintro a b ⟨ha,rfl⟩
  exact(avc ok (KB a ha)).1.symm
 .obtain⟨j,hj,rfl⟩:=cV.1 hx;have:=l2 j hj;omega
 rw[uu];have:L.map ((fun x=>l6 ls (zt ls (rv x))) ∘ (2* ·))=L.map (l6 ls):=Ai fun j hj=>by have:=N4 (ls:=ls) (l2 j hj) false;simp only[Function.comp_apply,xt];rw[show 2*j+1=fZ ls.length j false from rfl,this]
 rw[this];exact l3
def aqS(ok:fN F ls):K (bQ (y9 (nD ls) (ll ls) (xw (E2 ls)))) (nD ls)<=1:=by
 refine aiV fun x hx=>?_;obtain⟨b,hb⟩:=ank (p:=fun _=>false) (fun _=>rfl) ok hx;have h:=hb 0 ae;have:=h.push (R':=y9 (nD ls) (ll ls) (xw (E2 ls))) (f:=fun y=>y/2) ?_
 .have hf:fx b 0<2:=TD ae;rw[show(2*x+0)/2=x by omega,show fx b 0/2=0 by omega] at this;exact this
 intro u v r;rcases r with ⟨hu,rfl⟩|r
 .refine .rel (.inl ⟨aa,?_⟩);unfold sgC ll fx;simp only[dR,if_false];omega
 refine .rel (.inr ?_);obtain⟨e,he,hm⟩:=CR.1 r;have mj:(2*e,2*e+1)∈xw (E2 ls):=cV.2 ⟨e,he,rfl⟩;simp only[ch,eL,or_false,lE] at hm;rcases hm with ⟨rfl,rfl⟩|⟨rfl,rfl⟩
 .rw[V2];simp only[dR,if_false];rw[show 4*e/2=2*e by omega,show(4*e+2)/2=2*e+1 by omega];exact mj
 rw[V4];simp only[dR,if_false];rw[show(4*e+1)/2=2*e by omega,show(4*e+3)/2=2*e+1 by omega];exact mj
def amC(ok:fN F ls):mO ls<=aq Let.aF ls+aq Let.aD ls/2+2/\(mO ls+(aq Let.aF ls+aq Let.aD ls/2))%2=0:=by
 have hN:=Ic ls;have e1:=amf (xw (E2 ls)) (ll ls) (Zy ok) fun t ht=>by have:=aiu t ht;rw[hN];exact⟨this.1,this.2.1⟩
 have e2:=aiX (xw (E2 ls)) (ll ls) (Zy ok) fun t ht=>by have:=aiu t ht;rw[hN];exact this
 have hl:(xw (E2 ls)).length=ls.length+(aI ls).length:=by simp[xw]
 rw[IS anu,aiU ok,show K (bQ (gr (nD ls) (ll ls))) (nD ls)=_ from aiW ok,hl] at e1 e2;have h1:=aqS ok;have hPC:=afB ok;have kD:=Db (ls:=ls);have fg:=ok.cr;unfold mI at fg;simp only[cJ,dh] at fg;have eO:=fg.1.1;omega
end
structure eV where
 l:Nat
 r:Nat
 b:Bool
structure aS where
 p:Pc
 i:eV
 o:eV
abbrev j_:=List aS
abbrev aS.k(x:aS):Let:=x.p.l
def ko:eV->j_->eV->Prop
 |s,[],t=>s=t
 |s,x::r,t=>x.i=s/\ko x.o r t
def O9{s t:eV}{a b:j_}:ko s (a++b) t↔ ∃m,ko s a m/\ko m b t:=by
 induction a generalizing s with
 |nil=>exact⟨fun h=>⟨s,rfl,h⟩,fun⟨m,h1,h2⟩=>by cases h1;exact h2⟩
 |cons x a ih=>show(x.i=s/\ko x.o (a++b) t)↔_;rw[ih];exact⟨fun⟨h,m,h1,h2⟩=>⟨m,⟨h,h1⟩,h2⟩,fun⟨m,⟨h,h1⟩,h2⟩=>⟨h,m,h1,h2⟩⟩
def ari{s:eV}{a b:j_}(h:ko s (a++b) s):∃m,ko m (b++a) m:=by obtain⟨m,h1,h2⟩:=O9.1 h;exact⟨m,O9.2 ⟨s,h2,h1⟩⟩
structure X4 (g:Bool) (i o j q:eV):Prop where
 a:if g then i.l=q.l else i.l=j.r
 b:if g then o.r=j.r else o.r=q.l
 c:if g then j.l=i.r else j.l=o.l
 d:if g then q.r=o.l else q.r=i.r
def gX (l:Let):Bool:=l.over==(l.sign==1)
structure Xc (x y:aS):Prop where
 ov:x.k.over= !y.k.over
 sg:x.k.sign=y.k.sign
 x4:X4 (gX x.k) x.i x.o y.i y.o
def Xc.symm{x y:aS}(h:Xc x y):Xc y x:=by
 obtain⟨h1,h2,a,b,c,d⟩:=h;have e:gX y.k= !gX x.k:=by unfold gX;rw[h1,h2];cases y.k.over<;>cases (y.k.sign==1)<;>rfl
 refine⟨by rw[h1];simp,h2.symm,?_⟩;rw[e];cases hg:gX x.k
 .rw[hg] at a b c d;simp only[dR,if_false] at a b c d;constructor<;>simp only[Gi,if_true]
  .exact c
  .exact d
  .exact a
  exact b
 rw[hg] at a b c d;simp only[if_true] at a b c d;constructor<;>simp only[Ad,dR,if_false]
 .exact c
 .exact d
 .exact a
 exact b
def iX(s:eV):eV:=⟨s.r,s.l,s.b⟩
def aS.up(x:aS):eV:=if x.p.d then x.i else iX x.o
def aS.lo(x:aS):eV:=if x.p.d then x.o else iX x.i
structure Bh (F:Nat) (x:aS):Prop where
 bad:dS F x.k=false
 cb:x.k.aD=true->x.i.b=x.o.b
 pb:x.k.aF=true->x.o.b=x.p.d/\x.i.b= !x.p.d
def Xr (x y:aS):Prop:=x.k.aD=true->y.k.aD=true->x.k.id=y.k.id->Xc x y
def Xr.symm{x y:aS}(h:Xr x y):Xr y x:=fun a b c=>(h b a c.symm).symm
def Dr (x y:aS):Prop:=x.k.aF=true->y.k.aF=true->x.k.gate=y.k.gate->x.k.aA≠y.k.aA
def Dr.symm{x y:aS}(h:Dr x y):Dr y x:=fun a b c d=>h b a c.symm d.symm
structure Io (T B:Nat->Nat->Nat) (x:aS):Prop where
 wt:x.up.r=T x.k.gate.toNat (x.k.aA.toNat-1)
 et:x.up.l=T x.k.gate.toNat x.k.aA.toNat
 wb:x.lo.r=B x.k.gate.toNat (x.k.aA.toNat-1)
 eb:x.lo.l=B x.k.gate.toNat x.k.aA.toNat
abbrev aT(z:j_):ai:=z.map aS.k
structure Cz (F:Nat) (z:j_) (T B:Nat->Nat->Nat) (S:a_):Prop where
 path:∃s,ko s z s
 ok:∀x∈z,Bh F x
 cr:z.Pairwise Xr
 ev:aq Let.aD (aT z)%2=0
 ids:∀x∈z,x.k.aD=true->1<=x.k.id/\x.k.id<=((aq Let.aD (aT z)/2:Nat):Int)
 rk:z.Pairwise Dr
 rr:∀x∈z,x.k.aF=true->1<=x.k.aA/\x.k.aA<=(cg (aT z) x.k.gate.toNat:Int)
 pl:∀x∈z,x.k.aF=true->Io T B x
 gt:∀g,g<F->T g (cg (aT z) g)=T (g+1) 0/\B g (cg (aT z) g)=B (g+1) 0
 gz:T F (cg (aT z) F)=T 0 0/\B F (cg (aT z) F)=B 0 0
 one:∃x∈z,x.k.aF=true
 nd:S.Nodup
 wit:∀s∈S,∃x∈z,s=x.o.l\/s=x.o.r
 num:aq Let.aF (aT z)+aq Let.aD (aT z)/2+1<=S.length
def Cert(F:Nat)(l:c_):Prop:= ∃z T B S,z.map aS.p=l/\Cz F z T B S
def Dj{p:Let->Bool}{z z':j_}(h:z.Perm z'):aq p (aT z)=aq p (aT z'):=(h.map aS.k).countP_eq p
def Cz.perm{z z':j_}{T B:Nat->Nat->Nat}{S:a_}(c:Cz F z T B S)(h:z.Perm z')(hp:∃s,ko s z' s):Cz F z' T B S:=by
 have hm:∀ {x},x∈z'↔x∈z:=fun {x}=>h.symm.mem_iff;have e:∀p,aq p (aT z')=aq p (aT z):=fun p=>(Dj h).symm;have eg:∀g,cg (aT z') g=cg (aT z) g:=fun g=>e _;refine⟨hp,fun x hx=>c.ok x (hm.1 hx),(h.pairwise_iff fun {x y}=>Xr.symm).1 c.cr,by rw[e];exact c.ev,fun x hx=>by rw[e];exact c.ids x (hm.1 hx),(h.pairwise_iff fun {x y}=>Dr.symm).1 c.rk,
  fun x hx=>by rw[eg];exact c.rr x (hm.1 hx),fun x hx=>c.pl x (hm.1 hx),fun g hg=>by rw[eg];exact c.gt g hg,by rw[eg];exact c.gz,?_,c.nd,fun s hs=>?_,by rw[e,e];exact c.num⟩
 .obtain⟨x,hx,h1⟩:=c.one;exact⟨x,hm.2 hx,h1⟩
 obtain⟨x,hx,h1⟩:=c.wit s hs;exact⟨x,hm.2 hx,h1⟩
def Cz.ll{a b:j_}{T B:Nat->Nat->Nat}{S:a_}(c:Cz F (a++b) T B S):Cz F (b++a) T B S:=by obtain⟨s,h⟩:=c.path;exact c.perm (List.perm_append_comm) (ari h)
def Cert.ll{a b:c_}(c:Cert F (a++b)):Cert F (b++a):=by obtain⟨z,T,B,S,h,c⟩:=c;obtain⟨x,y,rfl,rfl,rfl⟩:=List.map_eq_append_iff.1 h;exact⟨y++x,T,B,S,by rw[ki],c.ll⟩
def ard:∀ {z:j_} {s t:eV},(∀x∈z,Bh F x)->ko s z t->s.b=false->t.b=true->∃x∈z,x.k.aF=true/\x.p.d=true:=by
 intro z
 induction z with
 |nil=>intro s t _ h h1 h2;cases h;rw[h1] at h2;cases h2
 |cons x z ih=>
  intro s t ok h h1 h2;obtain⟨rfl,h⟩:=h;have ox:=ok x af;by_cases hd:x.k.aF=true/\x.p.d=true
  .exact⟨x,af,hd⟩
  have hb:x.o.b=false:=by
   rcases wg ox.bad with hp|hc
   .rw[(ox.pb hp).1];cases yg:x.p.d
    .rfl
    exact absurd ⟨hp,yg⟩ hd
   rw[<- ox.cb hc];exact h1
  obtain⟨y,hy,e⟩:=ih (fun x hx=>ok x (by simp[hx])) h hb h2;exact⟨y,by simp[hy],e⟩
def Cz.down{z:j_}{T B:Nat->Nat->Nat}{S:a_}(c:Cz F z T B S):∃x∈z,x.k.aF=true/\x.p.d=true:=by
 obtain⟨x,hx,hp⟩:=c.one;cases hd:x.p.d
 .obtain⟨a,b,rfl⟩:=List.append_of_mem hx;have c2:=c.ll;obtain⟨s,h⟩:=c2.path;obtain⟨rfl,h⟩:=h;obtain⟨e1,e2⟩:=(c.ok x af).pb hp;rw[hd] at e1 e2;obtain⟨y,hy,e⟩:=ard (fun y hy=>c.ok y (by
   rcases eX.1 hy with hy|hy
   .simp[hy]
   simp[hy])) h e1 e2
  refine⟨y,?_,e⟩;rcases eX.1 hy with hy|hy
  .simp[hy]
  simp[hy]
 exact⟨x,hx,hp,hd⟩
def U3{l:c_}{f:Nat}(hf:f<=l.length):xr l f l.length=(l.drop f++l.take f).map Pc.l:=by
 apply xA;intro i;by_cases hi:i<l.length
 .have h1:(xr l f l.length)[i]?=some (l.getD ((f+i)%l.length) ⟨lN,false⟩).l:=by
   simp[xr,hi]
  rw[h1,gk];by_cases h2:f+i<l.length
  .rw[xB (by simp;omega),Ah,fX h2];simp[h2]
  rw[Ag (by simp;omega),lD];have h3:(f+i)%l.length=i-(l.length-f):=by rw[Nat.mod_eq_sub_mod aa,fX aa];omega
  have h4:i-(l.length-f)<l.length:=aa;rw[h3,l8,aG aa];simp[h4]
 have h1:(xr l f l.length).length=l.length:=by simp[xr]
 rw[nZ (by rw[h1];omega),nZ (by simp;omega)]
def Cert.fin{l:c_}(c:Cert F l):∃z T B S x r,z=x::r/\x.k.aF=true/\x.p.d=true/\aT z=dT l/\z.length=l.length/\Cz F z T B S:=by
 obtain⟨z,T,B,S,h,c⟩:=c;subst h;obtain⟨x,hx,hp,hd⟩:=c.down;have hP:∀y:aS,y.k.aF=(y.p.l.kind==1):=fun y=>rfl;obtain⟨j,hj⟩:=ia hx;have mh:=(aW.1 hj).1;have A7:(z.map aS.p)[j]?=some x.p:=by rw[gk,hj];rfl
 obtain⟨f,hf⟩:∃f,tX (z.map aS.p)=some f:=by
  cases h:tX (z.map aS.p) with
  |some f=>exact⟨f,rfl⟩
  |none=>have:=II.1 h j (by simpa using mh);rw[Pa A7] at this;unfold Ej at this;rw[hP] at hp;simp[hp,hd] at this
 have h1:=L3 hf;have h2:f<z.length:=by
  have:=IL hf
  simpa using this
 obtain⟨y,hy⟩:=aW.2 ⟨h2,rfl⟩ |> fun h=>(⟨_,h⟩:∃y,z[f]?=some y)
 have hyp:(z.map aS.p)[f]?=some y.p:=by rw[gk,hy];rfl
 rw[Pa hyp] at h1;unfold Ej at h1;rw[cJ] at h1;have hz:z=z.take f++y::z.drop (f+1):=by obtain⟨hl,e⟩:=aW.1 hy;rw[<- e,ur,mU]
 have A0:z.drop f=y::z.drop (f+1):=by obtain⟨hl,e⟩:=aW.1 hy;rw[<- e,ur]
 refine⟨y::z.drop (f+1)++z.take f,T,B,S,y,z.drop (f+1)++z.take f,rfl,h1.1,h1.2,?_,?_,?_⟩
 .unfold dT;rw[hf,ow,U3 (by rw[cU];omega),<- A0];simp only[ki,List.map_drop,Gk,uu];rfl
 .rw[<- A0,gJ,lD,iH,cU];omega
 rw[hz] at c;exact c.ll
def alq{ls:ai}(he:aq Let.aD ls%2=0)(hi:Yn ls)(hp:Il ls):mI ls=true:=by
 rw[WR he (IC.2 ⟨hi,hp⟩)];have OK:=ZO ls;have hle:∀id∈fJ ls ls.length,aq (mu id) ls<=2:=fun id _=>by rw[Ui id];have:=BR hp id true;have:=BR hp id false;omega
 have h1:=aic (f:=fun id=>aq (mu id) ls) _ hle;have h2:(fJ ls ls.length).length<=aq Let.aD ls/2:=by
  have hr:∀id∈fJ ls ls.length,1<=id/\id<=((aq Let.aD ls/2:Nat):Int):=fun id hid=>by obtain⟨j,o,hj,hh⟩:=(HP (cD _)).1 hid;obtain⟨m,hm,mc,mi,_⟩:=BS hh;rw[<- mi];exact hi m (aZ hm) mc
  have:=LD ((fJ ls ls.length).map Int.toNat) (List.range' 1 (aq Let.aD ls/2)) ?_ ?_
  .rwa[cU,List.length_range'] at this
  .refine yN.2 (List.Pairwise.imp_of_mem (fun {a b} ha hb h e=>h ?_) (Ua ls ls.length));have:=hr a ha;have:=hr b hb;omega
  intro x hx;obtain⟨id,hid,rfl⟩:=cV.1 hx;have:=hr id hid;rw[List.mem_range'_1];omega
 simp only[dh];omega
def Lf{s t:eV}{z:j_}{x:aS}(h:ko s z t)(hx:z[0]?=some x):x.i=s:=by
 cases z with
 |nil=>cases hx
 |cons y z=>cases hx;exact h.1
def agJ:∀ {z:j_} {s t:eV} {i:Nat} {x y:aS},ko s z t->z[i]?=some x->z[i+1]?=some y->x.o=y.i:=by
 intro z
 induction z with
 |nil=>intro s t i x y _ hx;cases hx
 |cons a z ih=>
  intro s t i x y h hx hy;cases i with
  |zero=>cases hx;exact(Lf h.2 hy).symm
  |succ i=>exact ih h.2 hx hy
def agH:∀ {z:j_} {s t:eV} {x:aS},ko s z t->z[z.length-1]?=some x->x.o=t:=by
 intro z
 induction z with
 |nil=>intro s t x _ hx;cases hx
 |cons a z ih=>
  intro s t x h hx;cases z with
  |nil=>cases hx;exact h.2
  |cons b z=>exact ih h.2 hx
def agG{z:j_}{s:eV}{j:Nat}{x y:aS}(h:ko s z s)(hx:z[j]?=some x)(hy:z[(j+1)%z.length]?=some y):x.o=y.i:=by
 have hj:=(aW.1 hx).1;by_cases c:j+1<z.length
 .rw[fX c] at hy;exact agJ h hx hy
 have:j+1=z.length:=aa;rw[this,EO] at hy;rw[agH h (by rw[<- this];exact hx),Lf h hy]
def Co{z:j_}{i:Nat}{x:aS}(h:z[i]?=some x):(aT z)[i]?=some x.k:=by rw[gk,h];rfl
def Ef{z:j_}{i:Nat}{l:Let}(h:(aT z)[i]?=some l):∃x,z[i]?=some x/\x.k=l:=by rw[gk,ef] at h;exact h
def UH{z:j_}{s t:eV}(ok:∀x∈z,Bh F x)(h:ko s z t)(hs:s.b=false):∀i x,z[i]?=some x->x.i.b= !dn (aT z) i/\x.o.b= !dn (aT z) (i+1):=by
 have step:∀i x,z[i]?=some x->x.i.b=(!dn (aT z) i)->x.o.b= !dn (aT z) (i+1):=fun i x hx hb=>by
  have ox:=ok x (aZ hx);rcases wg ox.bad with hp|hc
  .rw[MF (Co hx) hp,Bool.not_not,(ox.pb hp).1];have:=(ox.pb hp).2;rw[hb] at this;revert this;cases dn (aT z) i<;>cases x.p.d<;>simp
  rw[MG (Co hx) (by
   cases hp:x.k.aF
   .rfl
   rw[qV hp] at hc;cases hc),<- hb,ox.cb hc]
 intro i
 induction i with
 |zero=>
  intro x hx;have:x.i.b= !dn (aT z) 0:=by rw[Lf h hx,hs];rfl
  exact⟨this,step 0 x hx this⟩
 |succ i ih=>intro y hy;obtain⟨x,hx⟩:=aN (ls:=z) (k:=i) (by have:=(aW.1 hy).1;omega);have e:=(ih x hx).2;rw[agJ h hx hy] at e;exact⟨e,step (i+1) y hy e⟩
def agQ{ls:ai}{f:Nat->Nat->Nat}(hf:∀g,g<F->f g (cg ls g)=f (g+1) 0):∀(d g k g' k':Nat),g'=g+d->g'<=F->k<=cg ls g->k'<=cg ls g'->fp ls g+k=fp ls g'+k'->f g k=f g' k':=by
 intro d
 induction d with
 |zero=>intro g k g' k' e _ _ _ h;rw[u7] at e;subst e;rw[show k=k' by omega]
 |succ d ih=>intro g k g' k' e hF hk lL h;have hm:=BH (ls:=ls) (show g+1<=g' by omega);have hs:=uG ls g;have:k=cg ls g:=aa;subst this;rw[hf g aa];exact ih (g+1) 0 g' k' aa hF (cA _) lL aa
def Zm{ls:ai}{f:Nat->Nat->Nat}(hf:∀g,g<F->f g (cg ls g)=f (g+1) 0){g k g' k':Nat}(hg:g<=F)(DH:g'<=F)(hk:k<=cg ls g)(lL:k'<=cg ls g')(h:fp ls g+k=fp ls g'+k'):f g k=f g' k':=by
 rcases Nat.le_total g g' with c|c
 .exact agQ hf (g'-g) g k g' k' aa DH hk lL h
 exact(agQ hf (g-g') g' k' g k aa hg lL hk h.symm).symm
def noE:aS:=⟨⟨lN,false⟩,⟨0,0,false⟩,⟨0,0,false⟩⟩
def qh(z:j_)(x:Nat):Nat:=
 if x<2*z.length then (if x%2=0 then (z.getD (x/2) noE).o.l else (z.getD (x/2) noE).o.r)
 else if x%2=0 then (z.getD ((aI (aT z)).getD ((x-2*z.length)/2) 0) noE).up.l else (z.getD ((aI (aT z)).getD ((x-2*z.length)/2) 0) noE).lo.l
def Fq{z:j_}{i:Nat}{x:aS}(h:z[i]?=some x):z.getD i noE=x:=by rw[dK,h];rfl
section
variable {F:Nat} {z:j_} {s:eV}
def YE(h:ko s z s){v:Nat}{x:aS}(hx:z[v]?=some x)(g:Bool):qh z (dB z.length v g)=if g then x.o.l else x.i.r:=by
 have hv:=(aW.1 hx).1;cases g with
 |true=>show qh z (2*v)=_;unfold qh;rw[aG aa,aG aa,show 2*v/2=v by omega,Fq hx];rfl
 |false=>show qh z (2*((v+z.length-1)%z.length)+1)=_;have hm:=dk (v+z.length-1) (show 0<z.length by omega);obtain⟨y,hy⟩:=aN (ls:=z) hm;have e:=agG h hy (by rw[vH hv];exact hx);unfold qh;rw[aG aa,aC aa,show(2*((v+z.length-1)%z.length)+1)/2=(v+z.length-1)%z.length by omega,Fq hy,e];rfl
def apG(h:ko s z s){v:Nat}{x:aS}(hx:z[v]?=some x)(g:Bool):qh z (fZ z.length v g)=if g then x.i.l else x.o.r:=by
 have hv:=(aW.1 hx).1;cases g with
 |false=>show qh z (2*v+1)=_;unfold qh;rw[aG aa,aC aa,show(2*v+1)/2=v by omega,Fq hx];rfl
 |true=>show qh z (2*((v+z.length-1)%z.length))=_;have hm:=dk (v+z.length-1) (show 0<z.length by omega);obtain⟨y,hy⟩:=aN (ls:=z) hm;have e:=agG h hy (by rw[vH hv];exact hx);unfold qh;rw[aG aa,aG aa,show(2*((v+z.length-1)%z.length))/2=(v+z.length-1)%z.length by omega,Fq hy,e];rfl
def afw{k v:Nat}{x:aS}(ha:(aI (aT z)).getD k 0=v)(hx:z[v]?=some x):qh z (2*z.length+2*k)=x.up.l:=by unfold qh;rw[aC aa,aG aa,show(2*z.length+2*k-2*z.length)/2=k by omega,ha,Fq hx]
def afv{k v:Nat}{x:aS}(ha:(aI (aT z)).getD k 0=v)(hx:z[v]?=some x):qh z (2*z.length+2*k+1)=x.lo.l:=by unfold qh;rw[aC aa,aC aa,show(2*z.length+2*k+1-2*z.length)/2=k by omega,ha,Fq hx]
def Cz.UG{T B:Nat->Nat->Nat}{S:a_}(c:Cz F z T B S){i j:Nat}{x y:aS}(hx:z[i]?=some x)(hy:z[j]?=some y)(ir:i≠j):Xr x y/\Dr x y:=by
 obtain⟨hi,ex⟩:=aW.1 hx;obtain⟨hj,ey⟩:=aW.1 hy;subst ex ey;rcases Nat.lt_or_gt_of_ne ir with h|h
 .exact⟨VK.1 c.cr i j hi hj h,VK.1 c.rk i j hi hj h⟩
 exact⟨(VK.1 c.cr j i hj hi h).symm,(VK.1 c.rk j i hj hi h).symm⟩
def Cz.fq{T B:Nat->Nat->Nat}{S:a_}(c:Cz F z T B S){x:aS}(hx:x∈z)(hp:x.k.aF=true):vq F (aT z) x.k:=by obtain⟨⟨⟨⟨g0,g1⟩,_⟩,_⟩,_⟩:=(sC hp).1 (c.ok x hx).bad;obtain⟨r0,r1⟩:=c.rr x hx hp;exact⟨g0,g1,r0,r1⟩
def Cz.dg{T B:Nat->Nat->Nat}{S:a_}(c:Cz F z T B S)(hl:z.length<=1000000):fN F (aT z):=by
 refine⟨by rw[cU];exact hl,⟨fun l hl hp=>?_,fun i j l m hi hj pl pm e=>?_⟩,alq c.ev (fun l hl hc=>?_) (fun i j l m hi hj cl cm e ir=>?_),fun l hl=>?_⟩
 .obtain⟨x,hx,rfl⟩:=cV.1 hl;exact c.fq hx hp
 .obtain⟨x,hx,rfl⟩:=Ef hi;obtain⟨y,hy,rfl⟩:=Ef hj;refine Decidable.byContradiction fun ir=>?_;obtain⟨h1,h2⟩:=(Iq (c.fq (aZ hx) pl) (c.fq (aZ hy) pm)).1 e;exact(c.UG hx hy ir).2 pl pm h1 h2
 .obtain⟨x,hx,rfl⟩:=cV.1 hl;exact c.ids x hx hc
 .obtain⟨x,hx,rfl⟩:=Ef hi;obtain⟨y,hy,rfl⟩:=Ef hj;have:=(c.UG hx hy ir).1 cl cm e;refine⟨?_,this.sg⟩;rw[this.ov];cases y.k.over<;>simp
 obtain⟨x,hx,rfl⟩:=cV.1 hl;exact wg (c.ok x hx).bad
def Cz.rZ{T B:Nat->Nat->Nat}{S:a_}(c:Cz F z T B S):rZ F (aT z):=fun l hl hp=>by obtain⟨x,hx,rfl⟩:=cV.1 hl;exact((sC hp).1 (c.ok x hx).bad).1.1.1
def Cz.Qa{T B:Nat->Nat->Nat}{S:a_}(c:Cz F z T B S)(hl:z.length<=1000000){k u v:Nat}{x y:aS}(hu:(aI (aT z))[k]?=some u)(hv:(aI (aT z))[(k+1)%(aI (aT z)).length]?=some v)(hx:z[u]?=some x)(hy:z[v]?=some y):x.up.l=y.up.r/\x.lo.l=y.lo.r:=by
 have ok:=c.dg hl;have hk:=(aW.1 hu).1;obtain⟨l,l1,l2,l3⟩:=BA ok.ax hu;obtain⟨m,m1,m2,m3⟩:=BA ok.ax hv;rw[Co hx] at l1;cases l1;rw[Co hy] at m1;cases m1;have gx:=c.fq (aZ hx) l2;have gy:=c.fq (aZ hy) m2;have px:=c.pl x (aZ hx) l2;have py:=c.pl y (aZ hy) m2;obtain⟨x1,x2,x3,x4⟩:=gx;obtain⟨y1,y2,y3,y4⟩:=gy;have key:∀f:Nat->Nat->Nat,(∀g,g<F->f g (cg (aT z) g)=f (g+1) 0)->f F (cg (aT z) F)=f 0 0->f x.k.gate.toNat x.k.aA.toNat=f y.k.gate.toNat (y.k.aA.toNat-1):=by
  intro f hf hz;unfold dD at l3 m3;by_cases c1:k+1<(aI (aT z)).length
  .rw[fX c1] at m3;exact Zm hf aa aa aa aa aa
  have hT:=Gu c.rZ;have hs:=uG (aT z) F;have:k+1=(aI (aT z)).length:=aa;rw[this,EO] at m3;rw[Zm hf (g:=x.k.gate.toNat) (k:=x.k.aA.toNat) (g':=F) (k':=cg (aT z) F) aa (cD _) aa (cD _) aa,hz];exact Zm hf (cA _) aa (cA _) aa (by show 0+0=_;omega)
 exact⟨by rw[px.et,py.wt];exact key T (fun g hg=>(c.gt g hg).1) c.gz.1,by rw[px.eb,py.wb];exact key B (fun g hg=>(c.gt g hg).2) c.gz.2⟩
def Cz.walk{T B:Nat->Nat->Nat}{S:a_}(c:Cz F z T B S)(hl:z.length<=1000000)(h:ko s z s)(hs:s.b=false)(hx:x<nD (aT z)):qh z (aQ (aT z) x)=qh z x:=by
 have ok:=c.dg hl;have hn:(aT z).length=z.length:=cU ..;have hN:nD (aT z)=2*z.length+2*(aI (aT z)).length:=by unfold nD;rw[hn]
 have fD:=UH c.ok h hs;by_cases c1:x<2*z.length
 .obtain⟨v,fw,hv,rfl⟩:∃v fw,v<z.length/\x=fZ z.length v fw:=⟨_,_,by
   split
   .exact dk _ aa
   omega,P9 c1⟩
  obtain⟨e,he⟩:=aN (ls:=z) hv;have hle:=Co he;have oe:=c.ok e (aZ he);rw[apG h he];rcases wg oe.bad with hp|hc
  .have hd:dn (aT z) v=e.p.d:=by
    have:=(fD v e he).1;rw[(oe.pb hp).2] at this;revert this;cases e.p.d<;>cases dn (aT z) v<;>simp
   obtain⟨a1,a2⟩:=Mj ok hle hp;have t:=Gf hle hp fw;rw[hn] at t;rw[t,hd];by_cases c2:(e.p.d==fw)=true
   .rw[aG c2,afw a2 he];unfold aS.up;have:=eq_of_beq c2;subst this;cases e.p.d<;>rfl
   rw[aC c2];have hm:=dk ((aI (aT z)).idxOf v+(aI (aT z)).length-1) (show 0<(aI (aT z)).length by omega);obtain⟨u,hu⟩:=aN hm;obtain⟨l,u1,u2⟩:=uz.1 (aZ hu);obtain⟨y,hy,rfl⟩:=Ef u1;have hv':(aI (aT z))[(aI (aT z)).idxOf v]?=some v:=by obtain⟨q,hq⟩:=aN a1;rw[dK,hq] at a2;rw[hq];exact congrArg some a2
   have:=(c.Qa hl hu (by rw[vH a1];exact hv') hy he).2;rw[afv (by rw[dK,hu];rfl) hy,this];unfold aS.lo;revert c2;cases e.p.d<;>cases fw<;>simp[iX]
  obtain⟨b1,m,hm,mc,mi,mo,ms⟩:=sD ok.cr hle hc;obtain⟨y,hy,rfl⟩:=Ef hm;have aK:v≠fQ (aT z) v:=by intro ee;rw[<- ee,hle] at hm;have:=pz hm;rw[<- this] at mo;revert mo;cases e.k.over<;>simp
  obtain⟨_,_,xa,xb,xc,xd⟩:=(c.UG he hy aK).1 hc mc mi.symm;have t:=yK hle hc fw;rw[hn] at t;rw[t,YE h hy];unfold gX at xa xb;cases hg:(e.k.over==(e.k.sign==1))<;>rw[hg] at xa xb<;>simp only[dR,if_false,if_true] at xa xb<;>cases fw<;>simp_all
 have hk:(x-2*z.length)/2<(aI (aT z)).length:=aa;obtain⟨u,hu⟩:=aN hk;obtain⟨l,u1,u2⟩:=uz.1 (aZ hu);obtain⟨e,he,rfl⟩:=Ef u1;have hgu:(aI (aT z)).getD ((x-2*z.length)/2) 0=u:=by rw[dK,hu];rfl
 rcases u9 x with yv|yv
 .have ex:x=2*z.length+2*((x-2*z.length)/2):=aa;have hm:=dk ((x-2*z.length)/2+1) (show 0<(aI (aT z)).length by omega);obtain⟨w,hw⟩:=aN hm;obtain⟨l,w1,w2⟩:=uz.1 (aZ hw);obtain⟨y,hy,rfl⟩:=Ef w1;have hgw:(aI (aT z)).getD (((x-2*z.length)/2+1)%(aI (aT z)).length) 0=w:=by rw[dK,hw];rfl
  have oy:=c.ok y (aZ hy);have hd:dn (aT z) w=y.p.d:=by have:=(fD w y hy).1;rw[(oy.pb w2).2] at this;revert this;cases y.p.d<;>cases dn (aT z) w<;>simp
  have t:=EA (ls:=aT z) ((x-2*z.length)/2);rw[hn,<- ex] at t;rw[t,hgw,YE h hy,hd];have a:=(c.Qa hl hu hw he hy).1;have r:=afw hgu he;rw[<- ex] at r;rw[r,a];unfold aS.up;cases y.p.d<;>simp[iX]
 have ex:x=2*z.length+2*((x-2*z.length)/2)+1:=aa;have oy:=c.ok e (aZ he);have hd:dn (aT z) u=e.p.d:=by have:=(fD u e he).1;rw[(oy.pb u2).2] at this;revert this;cases e.p.d<;>cases dn (aT z) u<;>simp
 have t:=Ez (ls:=aT z) ((x-2*z.length)/2);rw[hn,<- ex] at t;rw[t,hgu,YE h he,hd];have r:=afv hgu he;rw[<- ex] at r;rw[r];unfold aS.lo;cases e.p.d<;>simp[iX]
def Cz.check{T B:Nat->Nat->Nat}{S:a_}(c:Cz F z T B S){x:aS}{r:j_}(hz:z=x::r)(hp:x.k.aF=true)(hd:x.p.d=true)(hl:z.length<=400)(fg:aq Let.aD (aT z)<=200)(hF:F<=40):cX F (aT z)=0:=by
 have ok:=c.dg aa;have hn:(aT z).length=z.length:=cU ..;obtain⟨s,h⟩:=c.path;have oO:z[0]?=some x:=by rw[hz];rfl
 have hs:s.b=false:=by rw[<- Lf h oO,((c.ok x (aZ oO)).pb hp).2,hd];rfl
 have jE:0<z.length:=by rw[hz];simp
 have fD:=UH c.ok h hs;have eO:aq Let.aF (aT z)%2=0:=by
  obtain⟨y,hy⟩:=aN (ls:=z) (k:=z.length-1) aa;have:=(fD _ y hy).2;rw[agH h hy,hs,show z.length-1+1=(aT z).length by rw[hn];omega] at this;unfold dn at this;rw[lR] at this
  simpa using this
 have Ov:mO (aT z)=aq Let.aF (aT z)+aq Let.aD (aT z)/2+2:=by
  obtain⟨b1,b2⟩:=amC ok;have key:∀a∈S,∃d,qh z d=a/\d<2*z.length:=fun a ha=>by
   obtain⟨y,hy,e⟩:=c.wit a ha;obtain⟨j,hj⟩:=ia hy;have mh:=(aW.1 hj).1;rcases e with e|e
   .exact⟨2*j,by unfold qh;rw[aG aa,aG aa,show 2*j/2=j by omega,Fq hj,e],aa⟩
   exact⟨2*j+1,by unfold qh;rw[aG aa,aC aa,show(2*j+1)/2=j by omega,Fq hj,e],aa⟩
  obtain⟨M,m1,m2⟩:=afE (P:=fun a d=>qh z d=a/\d<2*z.length) (f:=qh z) (fun a d h=>h.1) key;have hN:nD (aT z)=2*z.length+2*(aI (aT z)).length:=by unfold nD;rw[hn]
  have:=avv (maps ok) (φ:=qh z) (fun y hy=>c.walk aa h hs hy) (reps:=M) (fun d hd=>by obtain⟨_,_,h⟩:=m2 d hd;omega) (by rw[m1];exact c.nd)
  have hM:M.length=S.length:=by rw[<- m1,cU]
  have hnum:=c.num;have:M.length<=mO (aT z):=this;omega
 have aK:aT z≠[]:=by intro e;rw[e] at hn;simp at hn;omega
 unfold cX;rw[aC (by rw[hn];omega),aC aa,aC aK,aG];unfold mz;have mq:=(Pe c.rZ).2 ⟨ok.ax.fq,ok.ax.inj⟩;have Xz:(aT z).any (dS F)=false:=IF.2 fun l hl=>by obtain⟨y,hy,rfl⟩:=cV.1 hl;rw[(c.ok y hy).bad];decide
 rw[Co oO,YJ.2 ⟨Xz,mq,ok.cr⟩,Ov,eO];have hk:(x.k.kind==1)=true:=hp;simp only[hk,Ak,xy]
def Cert.check{l:c_}(c:Cert F l)(hl:l.length<=400)(fg:aq Let.aD (l.map Pc.l)<=200)(hF:F<=40):cX F (dT l)=0:=by
 obtain⟨w,T,B,S,x,r,hz,hp,hd,zB,hlen,cz⟩:=c.fin;have oL:aq Let.aD (aT w)=aq Let.aD (l.map Pc.l):=by
  rw[zB];have hf:(tX l).getD 0<=l.length:=by
   cases h:tX l with
   |none=>exact cA _
   |some f=>have:=IL h;simp at this;simp only[ow];omega
  unfold dT;rw[U3 hf];show List.countP _ _=List.countP _ _;rw[ki,xz,Nat.add_comm,<- xz,<- ki,mU]
 rw[<- zB];exact cz.check hz hp hd aa aa hF
end
def yE(ls:ai)(x:Nat):Nat:=ED (gO (aQ ls) (nD ls)) x
def rQ(ls:ai)(i:Nat):eV:=⟨yE ls (2*i),yE ls (2*i+1),!dn ls (i+1)⟩
def eE(ls:ai)(i:Nat):aS:=⟨⟨ls.getD i lN,eW ls i⟩,rQ ls ((i+ls.length-1)%ls.length),rQ ls i⟩
def zF (ls:ai):j_:=(List.range ls.length).map (eE ls)
def TF (ls:ai)(g k:Nat):Nat:=yE ls (2*ls.length+2*((fp ls g+k+(aI ls).length-1)%(aI ls).length))
def BF (ls:ai)(g k:Nat):Nat:=yE ls (2*ls.length+2*((fp ls g+k+(aI ls).length-1)%(aI ls).length)+1)
def IE(ls:ai):(zF ls).map aS.p=pieces ls:=by unfold zF pieces;rw[uu];rfl
def mA(ls:ai):aT (zF ls)=ls:=by
 have h:aT (zF ls)=(pieces ls).map Pc.l:=by rw[<- IE,uu];rfl
 rw[h];apply xA;intro i;rw[gk];by_cases hi:i<ls.length
 .obtain⟨l,hl⟩:=aN hi;rw[jm hl,hl];rfl
 rw[nZ (by rw[bk];omega),nZ aa];rfl
def LZ(ls:ai):(zF ls).length=ls.length:=by simp[zF]
def Gh{ls:ai}{i:Nat}(h:i<ls.length):(zF ls)[i]?=some (eE ls i):=by simp[zF,h]
def eS{ls:ai}{i:Nat}{l:Let}(h:ls[i]?=some l):(eE ls i).k=l:=by show ls.getD i lN=l;rw[dK,h];rfl
def agI(f:Nat->aS)(e:Nat->eV):∀k a,(∀i,a<=i->i<a+k->(f i).i=e i/\(f i).o=e (i+1))->ko (e a) ((List.range' a k).map f) (e (a+k)):=by
 intro k
 induction k with
 |zero=>intro a _;rfl
 |succ k ih=>intro a h;rw[List.range'_succ,eD];obtain⟨h1,h2⟩:=h a (cD _) aa;refine⟨h1,?_⟩;rw[h2,show a+(k+1)=a+1+k by omega];exact ih (a+1) fun i hi hk=>h i aa aa
def UF{R:aS->aS->Prop}{f:Nat->aS}{n:Nat}(h:∀i j,i<n->j<n->i≠j->R (f i) (f j)):((List.range n).map f).Pairwise R:=yN.2 (List.Pairwise.imp_of_mem (fun {a b} ha hb dU=>h a b (iv.1 ha) (iv.1 hb) dU) (Gn (n:=n)))
section
variable {F:Nat} {ls:ai}
def Zk(g:cE F ls){i:Nat}{w:a_}(hi:(gO (aQ ls) (nD ls))[i]?=some w)(hx:x∈w):yE ls x=i:=Pz (CN _ _).1 hi hx
def ars(g:cE F ls)(hx:x<nD ls):∃w,(gO (aQ ls) (nD ls))[yE ls x]?=some w/\x∈w:=by obtain⟨u,hu,HN⟩:=Gm.1 ((CN (aQ ls) (nD ls)).2 x hx);obtain⟨i,hi⟩:=ia hu;rw[Zk g hi HN];exact⟨u,hi,HN⟩
def F5(g:cE F ls)(hx:x<nD ls):yE ls (aQ ls x)=yE ls x:=by obtain⟨w,hw,FW⟩:=ars g hx;exact Zk g hw (yL (maps g.ok) (aZ hw) FW)
def Zj(g:cE F ls){v:Nat}(hv:v<ls.length)(fw:Bool):yE ls (fZ ls.length v fw)=if fw then (eE ls v).i.l else (eE ls v).o.r:=by cases fw<;>rfl
def UK{v:Nat}(fw:Bool):yE ls (dB ls.length v fw)=if fw then (eE ls v).o.l else (eE ls v).i.r:=by cases fw<;>rfl
def ab7(g:cE F ls):dn ls ls.length=true:=by unfold dn;rw[lR];have:=g.even;simp[this]
def Yq(g:cE F ls){i:Nat}(hi:i<ls.length):(eE ls i).i.b= !dn ls i:=by
 show(!dn ls ((i+ls.length-1)%ls.length+1))=_;by_cases h:i=0
 .subst h;rw[jr,fX aa,show ls.length-1+1=ls.length by omega,ab7 g];rfl
 rw[show i+ls.length-1=(i-1)+ls.length by omega,n9,fX aa,show i-1+1=i by omega]
def Jb{v:Nat}(hv:v<ls.length)(fw:Bool):fZ ls.length v fw<nD ls:=by have:=xM hv fw;unfold nD;omega
def Qx(g:cE F ls){v:Nat}{l:Let}(hl:ls[v]?=some l)(hp:l.aF=true):(eE ls v).p.d=dn ls v:=by show eW ls v=_;simp[eW,hl,hp]
def Fj(g:cE F ls){i:Nat}(hi:i<ls.length):Bh F (eE ls i):=by
 obtain⟨l,hl⟩:=aN hi;have hk:=eS hl;refine⟨by rw[hk];exact g.bad l (aZ hl),fun hc=>?_,fun hp=>?_⟩
 .rw[hk] at hc;rw[Yq g hi];show _= !dn ls (i+1);rw[MG hl (by
   cases hp:l.aF
   .rfl
   rw[qV hp] at hc;cases hc)]
 rw[hk] at hp;rw[Yq g hi,Qx g hl hp];refine⟨?_,rfl⟩;show(!dn ls (i+1))=_;rw[MF hl hp,Bool.not_not]
def ML(g:cE F ls){i j:Nat}(hi:i<ls.length)(hj:j<ls.length)(ir:i≠j):Xr (eE ls i) (eE ls j):=by
 obtain⟨l,hl⟩:=aN hi;obtain⟨m,hm⟩:=aN hj;intro hc mc e;rw[eS hl] at hc e;rw[eS hm] at mc e;obtain⟨_,hp⟩:=g.ids;obtain⟨d1,d2⟩:=hp i j l m hl hm hc mc e ir;obtain⟨b1,w,hw,wc,wi,wo,ws⟩:=sD g.ok.cr hl hc;have hoj:fQ ls i=j:=by refine Classical.byContradiction fun aK=>?_;have d3:=(hp _ _ w m hw hm wc mc (by rw[wi,e]) aK).1;rw[wo] at d3;revert d1 d3;cases l.over<;>cases m.over<;>simp
 refine⟨?_,by rw[eS hl,eS hm];exact d2,?_⟩
 .rw[eS hl,eS hm];revert d1;cases l.over<;>cases m.over<;>simp
 rw[eS hl];have t1:=F5 g (Jb hi true);have t2:=F5 g (Jb hi false);have t3:=F5 g (Jb hj true);have t4:=F5 g (Jb hj false);rw[yK hl hc,hoj,UK,Zj g hi] at t1 t2;rw[yK hm mc,<- hoj,b1,hoj,UK,Zj g hj] at t3 t4;have hg:(m.over==(m.sign==1))= !gX l:=by unfold gX;rw[<- d2];revert d1;cases l.over<;>cases m.over<;>cases (l.sign==1)<;>simp
 rw[hg] at t3 t4;have DH:(l.over==(l.sign==1))=gX l:=rfl;rw[DH] at t1 t2;cases A4:gX l<;>rw[A4] at t1 t2 t3 t4<;>simp at t1 t2 t3 t4<;>constructor<;>simp[t1,t2,t3,t4]
def Qy(g:cE F ls){v:Nat}{l:Let}(hl:ls[v]?=some l)(hp:l.aF=true):Io (TF ls) (BF ls) (eE ls v):=by
 have hv:=(aW.1 hl).1;have ok:=g.ok;have gd:=ok.ax.fq l (aZ hl) hp;obtain⟨g0,g1,r0,r1⟩:=gd;obtain⟨a1,a2⟩:=Mj ok hl hp;have XN:=EX ok.ax hl hp;have hP:fp ls l.gate.toNat+l.aA.toNat=(aI ls).idxOf v+1:=by rw[XN];unfold dD;omega
 have hPm:fp ls l.gate.toNat+(l.aA.toNat-1)=(aI ls).idxOf v:=aa;have eR:(fp ls l.gate.toNat+l.aA.toNat+(aI ls).length-1)%(aI ls).length=(aI ls).idxOf v:=by rw[hP,show(aI ls).idxOf v+1+(aI ls).length-1=(aI ls).idxOf v+(aI ls).length by omega,n9,fX a1]
 have hk:=eS hl;have hd:=Qx g hl hp;have nR:∀k,k<(aI ls).length->2*ls.length+2*k<nD ls/\2*ls.length+2*k+1<nD ls:=fun k hk=>by unfold nD;omega
 have hm:=dk ((aI ls).idxOf v+(aI ls).length-1) (show 0<(aI ls).length by omega);have q1:=F5 g (Jb hv (dn ls v));have q2:=F5 g (Jb hv (!dn ls v));have q3:=F5 g (nR _ a1).2;have q4:=F5 g (nR _ hm).1;rw[Gf hl hp,Zj g hv] at q1 q2;rw[Ez,a2,UK] at q3;rw[EA,vH a1,a2,UK] at q4;constructor
 .rw[hk];unfold TF;rw[hPm];unfold aS.up;rw[hd];cases fD:dn ls v<;>rw[fD] at q4<;>exact q4
 .rw[hk];unfold TF;rw[eR];unfold aS.up;rw[hd];cases fD:dn ls v<;>rw[fD] at q1<;>exact q1.symm
 .rw[hk];unfold BF;rw[hPm];unfold aS.lo;rw[hd];cases fD:dn ls v<;>rw[fD] at q2<;>exact q2.symm
 rw[hk];unfold BF;rw[eR];unfold aS.lo;rw[hd];cases fD:dn ls v<;>rw[fD] at q3<;>exact q3
def cE.cz(g:cE F ls):Cz F (zF ls) (TF ls) (BF ls) (List.range (mO ls)):=by
 have hn:0<ls.length:=jQ.2 g.ne;have mem:∀x∈zF ls,∃i,i<ls.length/\x=eE ls i:=fun x hx=>by obtain⟨i,hi,rfl⟩:=cV.1 hx;exact⟨i,iv.1 hi,rfl⟩
 have hT:fp ls (F+1)=(aI ls).length:=Gu fun l hl hp=>((sC hp).1 (g.bad l hl)).1.1.1;have hs:=uG ls F;have hm:0<(aI ls).length:=by obtain⟨l,h1,h2⟩:=g.first;exact L7 (uz.2 ⟨l,h1,h2⟩)
 have fg:=g.ok.cr;unfold mI at fg;simp only[cJ,dh] at fg;refine⟨⟨rQ ls (ls.length-1),?_⟩,fun x hx=>?_,UF fun i j hi hj ir=>ML g hi hj ir,by rw[mA];exact fg.1.1,fun x hx hc=>?_,UF fun i j hi hj ir=>?_,fun x hx hp=>?_,fun x hx hp=>?_,
  fun k hk=>?_,?_,?_,Gn,fun s hs=>?_,?_⟩
 .have:=agI (eE ls) (fun i=>rQ ls ((i+ls.length-1)%ls.length)) ls.length 0 fun i _ hi=>⟨rfl,?_⟩
  .simp only[jr] at this;rw[fX aa,show ls.length+ls.length-1=(ls.length-1)+ls.length by omega,n9,fX aa,<- List.range_eq_range'] at this;exact this
  show rQ ls i=rQ ls ((i+1+ls.length-1)%ls.length);rw[show i+1+ls.length-1=i+ls.length by omega,n9,fX aa]
 .obtain⟨i,hi,rfl⟩:=mem x hx;exact Fj g hi
 .obtain⟨i,hi,rfl⟩:=mem x hx;obtain⟨l,hl⟩:=aN hi;rw[eS hl] at hc |-;rw[mA];exact g.ids.1 l (aZ hl) hc
 .obtain⟨l,hl⟩:=aN hi;obtain⟨m,hm⟩:=aN hj;intro pl pm e1 e2;rw[eS hl] at pl e1 e2;rw[eS hm] at pm e1 e2;exact ir (g.ok.ax.inj i j l m hl hm pl pm ((Iq (g.ok.ax.fq l (aZ hl) pl) (g.ok.ax.fq m (aZ hm) pm)).2 ⟨e1,e2⟩))
 .obtain⟨i,hi,rfl⟩:=mem x hx;obtain⟨l,hl⟩:=aN hi;rw[eS hl] at hp |-;rw[mA];obtain⟨_,_,r0,r1⟩:=g.ok.ax.fq l (aZ hl) hp;exact⟨r0,r1⟩
 .obtain⟨i,hi,rfl⟩:=mem x hx;obtain⟨l,hl⟩:=aN hi;rw[eS hl] at hp;exact Qy g hl hp
 .rw[mA];unfold TF BF;rw[uG ls k,u7];exact⟨rfl,rfl⟩
 .rw[mA];unfold TF BF;have e1:fp ls F+cg ls F=(aI ls).length:=aa;have e0:fp ls 0=0:=rfl;rw[e1,e0,jr,show(aI ls).length+(aI ls).length-1=((aI ls).length-1)+(aI ls).length by omega,n9];exact⟨rfl,rfl⟩
 .obtain⟨l,h1,h2⟩:=g.first;exact⟨eE ls 0,aZ (Gh hn),by rw[eS h1];exact h2⟩
 .obtain⟨w,hw⟩:=aN (iv.1 hs);obtain⟨⟨d,t,e,hd⟩,_⟩:=Py g.ok w (aZ hw);have hp:yE ls d=s:=Zk g hw (by rw[e];simp);refine⟨eE ls (d/2),aZ (Gh aa),?_⟩;rcases u9 d with h|h
  .refine .inl ?_;show s=yE ls (2*(d/2));rw[show 2*(d/2)=d by omega,hp]
  refine .inr ?_;show s=yE ls (2*(d/2)+1);rw[show 2*(d/2)+1=d by omega,hp]
 rw[mA,EJ,g.nw];omega
end
structure Cq (F:Nat) (z:j_) (T B:Nat->Nat->Nat):Prop where
 ok:∀x∈z,Bh F x
 cr:z.Pairwise Xr
 ev:aq Let.aD (aT z)%2=0
 ids:∀x∈z,x.k.aD=true->1<=x.k.id/\x.k.id<=((aq Let.aD (aT z)/2:Nat):Int)
 rk:z.Pairwise Dr
 rr:∀x∈z,x.k.aF=true->1<=x.k.aA/\x.k.aA<=(cg (aT z) x.k.gate.toNat:Int)
 pl:∀x∈z,x.k.aF=true->Io T B x
 gt:∀g,g<F->T g (cg (aT z) g)=T (g+1) 0/\B g (cg (aT z) g)=B (g+1) 0
 gz:T F (cg (aT z) F)=T 0 0/\B F (cg (aT z) F)=B 0 0
def eV.mp(ψ:Nat->Nat)(s:eV):eV:=⟨ψ s.l,ψ s.r,s.b⟩
def aS.mp(ψ:Nat->Nat)(h:Let->Let)(x:aS):aS:=⟨⟨h x.p.l,x.p.d⟩,x.i.mp ψ,x.o.mp ψ⟩
def X4.mp{g:Bool}{i o j q:eV}(h:X4 g i o j q)(ψ:Nat->Nat):X4 g (i.mp ψ) (o.mp ψ) (j.mp ψ) (q.mp ψ):=by obtain⟨a,b,c,d⟩:=h;cases g<;>simp only[dR,if_false,if_true] at a b c d<;>constructor<;>simp[eV.mp,a,b,c,d]
def af3(ψ:Nat->Nat)(h:Let->Let)(x:aS):(x.mp ψ h).up=x.up.mp ψ:=by unfold aS.up aS.mp;cases x.p.d<;>rfl
def af2(ψ:Nat->Nat)(h:Let->Let)(x:aS):(x.mp ψ h).lo=x.lo.mp ψ:=by unfold aS.lo aS.mp;cases x.p.d<;>rfl
def UJ{ψ:Nat->Nat}{h:Let->Let}:∀ {z:j_} {s t:eV},ko s z t->ko (s.mp ψ) (z.map (aS.mp ψ h)) (t.mp ψ):=by
 intro z
 induction z with
 |nil=>intro s t e;cases e;rfl
 |cons x z ih=>intro s t e;obtain⟨rfl,e⟩:=e;exact⟨rfl,ih e⟩
def acN{S L:a_}(hn:S.Nodup):S.length<=(S.filter fun s=> !L.contains s).length+L.length:=by
 have h1:S.length=(S.filter fun s=> !L.contains s).length+(S.filter fun s=>L.contains s).length:=by have:=List.length_eq_countP_add_countP (fun s=> !L.contains s) (l:=S);rw[List.countP_eq_length_filter,List.countP_eq_length_filter] at this;rw[this];congr 2;apply List.filter_congr;intro x _;simp
 have h2:=LD (S.filter fun s=>L.contains s) L (hn.filter _) fun x hx=>by simpa using (uv.1 hx).2
 omega
structure Bx (h:Let->Let):Prop where
 kind:∀l,(h l).kind=l.kind
 over:∀l,(h l).over=l.over
 sign:∀l,(h l).sign=l.sign
def Bx.aF{h:Let->Let}(s:Bx h)(l:Let):(h l).aF=l.aF:=by unfold Let.aF;rw[s.kind]
def Bx.aD{h:Let->Let}(s:Bx h)(l:Let):(h l).aD=l.aD:=by unfold Let.aD;rw[s.kind]
def Bx.id:Bx id:=⟨fun _=>rfl,fun _=>rfl,fun _=>rfl⟩
section
variable {F:Nat} {X r X':j_} {T B T' B':Nat->Nat->Nat} {S:a_} {ψ:Nat->Nat} {h:Let->Let}
def Cz.q{z:j_}(c:Cz F z T B S):Cq F z T B:=⟨c.ok,c.cr,c.ev,c.ids,c.rk,c.rr,c.pl,c.gt,c.gz⟩
def Cq.perm{z z':j_}(c:Cq F z T B)(hh:z.Perm z'):Cq F z' T B:=by
 have hm:∀ {x},x∈z'↔x∈z:=fun {x}=>hh.symm.mem_iff;have e:∀p,aq p (aT z')=aq p (aT z):=fun p=>(Dj hh).symm;have eg:∀g,cg (aT z') g=cg (aT z) g:=fun g=>e _;exact⟨fun x hx=>c.ok x (hm.1 hx),(hh.pairwise_iff fun {x y}=>Xr.symm).1 c.cr,by rw[e];exact c.ev,fun x hx=>by rw[e];exact c.ids x (hm.1 hx),(hh.pairwise_iff fun {x y}=>Dr.symm).1 c.rk,
  fun x hx=>by rw[eg];exact c.rr x (hm.1 hx),fun x hx=>c.pl x (hm.1 hx),fun g hg=>by rw[eg];exact c.gt g hg,by rw[eg];exact c.gz⟩
def Bh.mp{x:aS}(o:Bh F x)(s:Bx h)(hb:dS F (h x.k)=false):Bh F (x.mp ψ h):=by
 refine⟨hb,fun hc=>?_,fun hp=>?_⟩
 .exact o.cb (by rw[<- s.aD];exact hc)
 exact o.pb (by rw[<- s.aF];exact hp)
def Cq.edit(q:Cq F (X++r) T B)(s:Bx h)(hb:∀x∈r,dS F (h x.k)=false)
  (hid:∀x∈r,∀y∈r,x.k.aD=true->y.k.aD=true->(h x.k).id=(h y.k).id->x.k.id=y.k.id)
  (mq:∀x∈r,∀y∈r,x.k.aF=true->y.k.aF=true->(h x.k).gate=(h y.k).gate->(h x.k).aA=(h y.k).aA->x.k.gate=y.k.gate/\x.k.aA=y.k.aA)
  (n1:∀x∈X',Bh F x) (n2:X'.Pairwise Xr) (n3:X'.Pairwise Dr) (n4:∀x∈X',∀y∈r,Xr x (y.mp ψ h)) (n5:∀x∈X',∀y∈r,Dr x (y.mp ψ h))
  (ev:aq Let.aD (aT (X'++r.map (aS.mp ψ h)))%2=0)
  (ids:∀x∈X',x.k.aD=true->1<=x.k.id/\x.k.id<=((aq Let.aD (aT (X'++r.map (aS.mp ψ h)))/2:Nat):Int))
  (aoV:∀x∈r,x.k.aD=true->1<=(h x.k).id/\(h x.k).id<=((aq Let.aD (aT (X'++r.map (aS.mp ψ h)))/2:Nat):Int))
  (rr:∀x∈X',x.k.aF=true->1<=x.k.aA/\x.k.aA<=(cg (aT (X'++r.map (aS.mp ψ h))) x.k.gate.toNat:Int))
  (rr':∀x∈r,x.k.aF=true->1<=(h x.k).aA/\(h x.k).aA<=(cg (aT (X'++r.map (aS.mp ψ h))) (h x.k).gate.toNat:Int))
  (pl:∀x∈X',x.k.aF=true->Io T' B' x)
  (Lh:∀x∈r,x.k.aF=true->(ψ (T x.k.gate.toNat (x.k.aA.toNat-1))=T' (h x.k).gate.toNat ((h x.k).aA.toNat-1)/\ψ (B x.k.gate.toNat (x.k.aA.toNat-1))=B' (h x.k).gate.toNat ((h x.k).aA.toNat-1))/\ψ (T x.k.gate.toNat x.k.aA.toNat)=T' (h x.k).gate.toNat (h x.k).aA.toNat/\ψ (B x.k.gate.toNat x.k.aA.toNat)=B' (h x.k).gate.toNat (h x.k).aA.toNat)
  (gt:∀g,g<F->T' g (cg (aT (X'++r.map (aS.mp ψ h))) g)=T' (g+1) 0/\B' g (cg (aT (X'++r.map (aS.mp ψ h))) g)=B' (g+1) 0)
  (gz:T' F (cg (aT (X'++r.map (aS.mp ψ h))) F)=T' 0 0/\B' F (cg (aT (X'++r.map (aS.mp ψ h))) F)=B' 0 0):Cq F (X'++r.map (aS.mp ψ h)) T' B':=by
 have crr:=(PJ.1 q.cr).2.1;have rkr:=(PJ.1 q.rk).2.1;have mem:∀x∈X'++r.map (aS.mp ψ h),x∈X'\/ ∃y∈r,x=y.mp ψ h:=fun x hx=>by
  rcases eX.1 hx with hx|hx
  .exact .inl hx
  obtain⟨y,hy,rfl⟩:=cV.1 hx;exact .inr ⟨y,hy,rfl⟩
 have in':∀y∈r,y∈X++r:=fun y hy=>EK _ hy;refine⟨fun x hx=>?_,?_,ev,fun x hx hc=>?_,?_,fun x hx hp=>?_,fun x hx hp=>?_,gt,gz⟩
 .rcases mem x hx with hx|⟨y,hy,rfl⟩
  .exact n1 x hx
  exact(q.ok y (in' y hy)).mp s (hb y hy)
 .refine PJ.2 ⟨n2,yN.2 (crr.imp_of_mem fun {x y} hx hy jc hc hd e=>?_),fun x hx y hy=>?_⟩
  .have hc:x.k.aD=true:=by rw[<- s.aD];exact hc
   have hd:y.k.aD=true:=by rw[<- s.aD];exact hd
   obtain⟨h1,h2,h3⟩:=jc hc hd (hid x hx y hy hc hd e);refine⟨?_,?_,?_⟩
   .show(h x.k).over= !(h y.k).over;rw[s.over,s.over];exact h1
   .show(h x.k).sign=(h y.k).sign;rw[s.sign,s.sign];exact h2
   have:gX (x.mp ψ h).k=gX x.k:=by show((h x.k).over==((h x.k).sign==1))=_;rw[s.over,s.sign];rfl
   rw[this];exact h3.mp ψ
  obtain⟨w,hw,rfl⟩:=cV.1 hy;exact n4 x hx w hw
 .rcases mem x hx with hx|⟨y,hy,rfl⟩
  .exact ids x hx hc
  exact aoV y hy (by rw[<- s.aD];exact hc)
 .refine PJ.2 ⟨n3,yN.2 (rkr.imp_of_mem fun {x y} hx hy jc hc hd e1 e2=>?_),fun x hx y hy=>?_⟩
  .have hc:x.k.aF=true:=by rw[<- s.aF];exact hc
   have hd:y.k.aF=true:=by rw[<- s.aF];exact hd
   obtain⟨f1,f2⟩:=mq x hx y hy hc hd e1 e2;exact jc hc hd f1 f2
  obtain⟨w,hw,rfl⟩:=cV.1 hy;exact n5 x hx w hw
 .rcases mem x hx with hx|⟨y,hy,rfl⟩
  .exact rr x hx hp
  exact rr' y hy (by rw[<- s.aF];exact hp)
 rcases mem x hx with hx|⟨y,hy,rfl⟩
 .exact pl x hx hp
 have hp:y.k.aF=true:=by rw[<- s.aF];exact hp
 obtain⟨p1,p2,p3,p4⟩:=q.pl y (in' y hy) hp;obtain⟨⟨a1,a2⟩,a3,a4⟩:=Lh y hy hp;constructor
 .rw[af3];show ψ y.up.r=_;rw[p1];exact a1
 .rw[af3];show ψ y.up.l=_;rw[p2];exact a3
 .rw[af2];show ψ y.lo.r=_;rw[p3];exact a2
 rw[af2];show ψ y.lo.l=_;rw[p4];exact a4
def Cq.done{l:c_}{z':j_}{L N:a_}{V:Nat}(q:Cq F (X'++r.map (aS.mp ψ h)) T' B')(gH:S.Nodup)(wit:∀s∈S,∃x∈X++r,s=x.o.l\/s=x.o.r)
  (oL:z'.Perm (X'++r.map (aS.mp ψ h))) (X9:∃s,ko s z' s) (hl:z'.map aS.p=l) (one:∃x∈X'++r.map (aS.mp ψ h),x.k.aF=true)
  (hψ:∀s∈S,s∉L->ψ s=s) (hX:∀x∈X,∀s∈S,(s=x.o.l\/s=x.o.r)->s∉L->∃y∈X'++r.map (aS.mp ψ h),s=y.o.l\/s=y.o.r)
  (hN:N.Nodup) (hNS:∀s∈N,s∉S) (hNw:∀s∈N,∃y∈X'++r.map (aS.mp ψ h),s=y.o.l\/s=y.o.r)
  (hS:V<=S.length) (num:aq Let.aF (aT (X'++r.map (aS.mp ψ h)))+aq Let.aD (aT (X'++r.map (aS.mp ψ h)))/2+1+L.length<=V+N.length):Cert F l:=by
 have qz:=q.perm oL.symm;have hm:∀ {x},x∈z'↔x∈X'++r.map (aS.mp ψ h):=fun {x}=>oL.mem_iff;refine⟨z',T',B',N++S.filter (fun s=> !L.contains s),hl,⟨X9,qz.ok,qz.cr,qz.ev,qz.ids,qz.rk,qz.rr,qz.pl,qz.gt,qz.gz,?_,?_,fun s hs=>?_,?_⟩⟩
 .obtain⟨x,hx,e⟩:=one;exact⟨x,hm.2 hx,e⟩
 .refine EL.2 ⟨hN,gH.filter _,fun a ha b hb e=>?_⟩;subst e;exact hNS a ha (uv.1 hb).1
 .have key:∃y∈X'++r.map (aS.mp ψ h),s=y.o.l\/s=y.o.r:=by
   rcases eX.1 hs with hs|hs
   .exact hNw s hs
   obtain⟨h1,h2⟩:=uv.1 hs;have h2:s∉L:=by simpa using h2
   obtain⟨x,hx,e⟩:=wit s h1;rcases eX.1 hx with hx|hx
   .exact hX x hx s h1 e h2
   refine⟨x.mp ψ h,EK _ (cV.2 ⟨x,hx,rfl⟩),?_⟩;have hp:=hψ s h1 h2;rcases e with e|e
   .left;show s=ψ x.o.l;rw[<- e,hp]
   right;show s=ψ x.o.r;rw[<- e,hp]
  obtain⟨y,hy,e⟩:=key;exact⟨y,hm.2 hy,e⟩
 have e:∀p,aq p (aT z')=aq p (aT (X'++r.map (aS.mp ψ h))):=fun p=>Dj oL;rw[e,e,gJ];have:=acN (L:=L) gH;omega
end
def Wv(p:Let->Bool)(a b:j_):aq p (aT (a++b))=aq p (aT a)+aq p (aT b):=by show List.countP p (List.map _ _)=List.countP p (List.map _ _)+List.countP p (List.map _ _);rw[ki,xz]
def mE(p:Let->Bool)(x:aS)(b:j_):aq p (aT (x::b))=(if p x.k then 1 else 0)+aq p (aT b):=by show List.countP p (List.map _ _)=_+List.countP p (List.map _ _);rw[eD,vY,Nat.add_comm]
def Ww(p:Let->Bool):aq p (aT [])=0:=rfl
def Di{p:Let->Bool}{ψ:Nat->Nat}{h:Let->Let}(hp:∀l,p (h l)=p l)(r:j_):aq p (aT (r.map (aS.mp ψ h)))=aq p (aT r):=by
 induction r with
 |nil=>rfl
 |cons x r ih=>rw[eD,mE,mE,ih];show(if p (h x.k) then 1 else 0)+_=_;rw[hp]
def Jc{l:Let}(g:Nat)(h:l.aD=true):mD g l=false:=by
 unfold mD;cases hp:l.aF
 .rfl
 rw[qV hp] at h;cases h
def nj{l:Let}(h:l.aD=true):l.aF=false:=by
 cases hp:l.aF
 .rfl
 rw[qV hp] at h;cases h
def am2{α:Type}{z:List α}{a:Nat}(ha:a<z.length)(h2:2<=z.length):∃x y r,z.drop a++z.take a=x::y::r/\z[a]?=some x/\z[(a+1)%z.length]?=some y:=by
 obtain⟨x,hx⟩:=aN ha;obtain⟨hl,e⟩:=aW.1 hx;have hd:z.drop a=x::z.drop (a+1):=by rw[<- e,ur]
 by_cases c:a+1<z.length
 .obtain⟨y,hy⟩:=aN c;obtain⟨tj,e2⟩:=aW.1 hy;have zo:z.drop (a+1)=y::z.drop (a+1+1):=by rw[<- e2,ur]
  exact⟨x,y,z.drop (a+1+1)++z.take a,by rw[hd,zo];rfl,hx,by rw[fX c];exact hy⟩
 have ea:a+1=z.length:=aa;obtain⟨y,hy⟩:=aN (ls:=z) (k:=0) aa;have zo:z.drop (a+1)=[]:=List.drop_eq_nil_of_le aa;have ht:z.take a=y::(z.take a).drop 1:=by
  have h0:(z.take a)[0]?=some y:=by rw[l8,aG aa];exact hy
  obtain⟨hl3,e3⟩:=aW.1 h0;have:=ur (h:=hl3);rw[e3,List.drop_zero] at this;exact this.symm
 refine⟨x,y,(z.take a).drop 1,?_,hx,by rw[ea,EO];exact hy⟩;rw[hd,zo]
 conv=>lhs;rw[ht]
 rfl
section
variable {F:Nat} {ls:ai}
def zK{l:Let}(h:l.aD=true):(if Let.aD l=true then 1 else 0)=1/\(if Let.aF l=true then 1 else 0)=0:=by simp[h,nj h]
def ifP{l:Let}(h:l.aF=true):(if Let.aD l=true then 1 else 0)=0/\(if Let.aF l=true then 1 else 0)=1:=by simp[h,qV h]
end
def iG(ids:d_)(l:Let):Let:=if l.kind==2 then {l with id:=l.id-((ids.take ids.length).countP (fun i=>decide (i<l.id)):Nat)} else l
def Cn(ids:d_):Bx (iG ids):=by refine⟨fun l=>?_,fun l=>?_,fun l=>?_⟩<;>unfold iG<;>split<;>rfl
def afP(ids:d_)(p:Pc):tB ids p=⟨iG ids p.l,p.d⟩:=by unfold tB iG jZ;split<;>rfl
def Cm{ids:d_}{l:Let}(h:l.aF=true):iG ids l=l:=by unfold iG;have:=qV h;unfold Let.aD at this;rw[aC (by rw[this];decide)]
def afM{ids:d_}{l:Let}(h:dS F l=false):dS F (iG ids l)=false:=by
 rcases wg h with hp|hc
 .rw[Cm hp];exact h
 have iz:(iG ids l).aD=true:=by rw[(Cn ids).aD];exact hc
 rw[O3 hc] at h;rw[O3 iz];unfold iG;split<;>exact h
def afL(ids:d_)(g:Nat)(l:Let):mD g (iG ids l)=mD g l:=by
 cases hp:l.aF
 .unfold mD;rw[(Cn ids).aF,hp];rfl
 rw[Cm hp]
def afN{ids:d_}{l:Let}(h:l.aD=true):(iG ids l).id=l.id-((ids.countP fun i=>decide (i<l.id):Nat):Int):=by unfold iG;unfold Let.aD at h;rw[aG h,lR]
def afl{l:c_}{drop:Nat->Pc->Bool}{d:Pc->Bool}(h:∀i p,drop i p=d p):qQ l drop=l.filter fun p=> !d p:=by
 have key:∀k,k<=l.length->uR l drop k=(l.take k).filter fun p=> !d p:=by
  intro k
  induction k with
  |zero=>intro _;rfl
  |succ k ih=>
   intro hk;obtain⟨p,hp⟩:=aN (ls:=l) (k:=k) aa;rw[nC,hp,List.filter_append,<- ih aa];cases hd:d p
   .rw[KN hp (by rw[h];exact hd)];simp[hd]
   rw[Ci hp (by rw[h];exact hd)];simp[hd]
 unfold qQ;rw[key _ (cD _),lR]
def UI:∀ {z:j_} {s t:eV},ko s z t->z≠[]->∃w∈z,w.o=t:=by
 intro z
 induction z with
 |nil=>intro s t _ h;exact absurd rfl h
 |cons x z ih=>
  intro s t h _;obtain⟨_,h⟩:=h;cases z with
  |nil=>cases h;exact⟨x,af,rfl⟩
  |cons y z=>obtain⟨w,hw,e⟩:=ih h af;exact⟨w,u6 _ hw,e⟩
section
variable {F:Nat} {ls:ai}
def aqK{x y:aS}{r:j_}{T B:Nat->Nat->Nat}(q:Cq F (x::y::r) T B)(cx:x.k.aD=true)(cy:y.k.aD=true)(e:x.k.id=y.k.id):∀w∈r,w.k.aD=true->w.k.id≠x.k.id:=by intro w hw cw ew;obtain⟨p1,p2⟩:=mB.1 q.cr;obtain⟨p3,_⟩:=mB.1 p2;have a:=(p1 y af cx cy e).ov;have b:=(p1 w (by simp[hw]) cx cw ew.symm).ov;have d:=(p3 w hw cy cw (by rw[<- e,ew])).ov;rw[b] at a;rw[d] at a;revert a;cases w.k.over<;>simp
def aad(g:cE F ls){a:Nat}(ha:a<ls.length):∃x y r s,(zF ls).drop a++(zF ls).take a=x::y::r/\(pieces ls)[a]?=some x.p/\(pieces ls)[nx ls a]?=some y.p/\
  Cz F (x::y::r) (TF ls) (BF ls) (List.range (mO ls))/\ko s (x::y::r) s/\(pieces ls).drop a++(pieces ls).take a=(x::y::r).map aS.p/\(zF ls)[a]?=some x/\(zF ls)[nx ls a]?=some y/\(x::y::r).Perm (zF ls):=by
 have h2:2<=ls.length:=by obtain⟨l,h1,hp⟩:=g.first;have:=g.even;have:0<aq Let.aF ls:=Af.2 ⟨l,aZ h1,hp⟩;have:=sR Let.aF ls;omega
 have hl:=LZ ls;obtain⟨x,y,r,e,hx,hy⟩:=am2 (z:=zF ls) (a:=a) aa aa;rw[hl] at hy;have c:Cz F ((zF ls).drop a++(zF ls).take a) (TF ls) (BF ls) (List.range (mO ls)):=by refine Cz.ll ?_;rw[mU];exact g.cz
 rw[e] at c;obtain⟨s,hs⟩:=c.path;refine⟨x,y,r,s,e,?_,?_,c,hs,?_,hx,hy,?_⟩
 .rw[<- IE,gk,hx];rfl
 .rw[<- IE,gk,hy];rfl
 .rw[<- e,ki,List.map_drop,Gk,IE]
 rw[<- e];exact List.perm_append_comm.trans (by rw[mU])
def acf{a:Nat}{d:Pc->Bool}{f:Pc->Pc}(c:Cert F ((((pieces ls).drop a++(pieces ls).take a).filter d).map f)):Cert F (((pieces ls).filter d).map f):=by rw[List.filter_append,ki] at c;have:=c.ll;rwa[<- ki,<- List.filter_append,mU] at this
def aex{l:Let}:l.aD=(l.kind==2):=rfl
def filter_all{α:Type}{l:List α}{p:α->Bool}(h:∀x∈l,p x=true):l.filter p=l:=List.filter_eq_self.2 h
def akN(g:cE F ls){a:Nat}(ha:a<ls.length){L:c_}(h:w7 ls a=some L):Cert F L:=by
 obtain⟨x,y,r,s,e,hx,hy,c,hp,KA,_,_,oL⟩:=aad g ha;have q:=c.q;unfold w7 at h;have e1:(pieces ls).getD a ⟨lN,false⟩=x.p:=by rw[dK,hx];rfl
 have e2:(pieces ls).getD ((a+1)%ls.length) ⟨lN,false⟩=y.p:=by rw[dK,hy];rfl
 simp only[e1,e2] at h;split at h
 case isFalse=>cases h
 rename_i hc;simp only[cJ,dh] at hc;obtain⟨iZ,qJ,hid⟩:=hc;have cx:x.k.aD=true:=by rw[aex];simp[iZ]
 have cy:y.k.aD=true:=by rw[aex];simp[qJ]
 have uK:x.k.id=y.k.id:=hid;cases h;have T7:=aqK q cx cy uK;have jc:Xc x y:=(mB.1 q.cr).1 y af cx cy uK;obtain⟨kG,fR,uN⟩:=hp
 -- both ends of the kink look alike
 have ix:=(q.ok x af).cb cx;have iy:=(q.ok y af).cb cy;have hk:=jc.x4;rw[kG,fR] at hk;rw[kG] at ix;rw[fR] at iy;have hyo:y.o=s:=by
  obtain⟨k1,k2,k3,k4⟩:=hk;have hb:y.o.b=s.b:=by rw[<- iy,<- ix]
  cases y with
  |mk yp yi yo=>
  cases yo with
  |mk l r b=>
  cases s with
  |mk sl sr sb=>
  cases hg:gX x.k<;>rw[hg] at k1 k2 k3 k4<;>simp only[dR,if_false,if_true] at k1 k2 k3 k4 hb<;>simp_all
 rw[hyo] at uN;have XT:∃b,(s.r=b\/s.l=b)/\ ∀t,(t=x.o.l\/t=x.o.r)->t=s.l\/t=s.r\/t=(if gX x.k then x.o.r else x.o.l):=by
  obtain⟨k1,k2,k3,k4⟩:=hk;refine⟨s.r,.inl rfl,?_⟩;cases hg:gX x.k<;>rw[hg] at k1 k2 k3 k4<;>simp only[dR,if_false,if_true] at k1 k2 k3 k4 |-
  .rintro t (rfl|rfl)
   .exact .inr (.inr rfl)
   exact .inl k1.symm
  rintro t (rfl|rfl)
  .exact .inr (.inl k3)
  exact .inr (.inr rfl)
 obtain⟨_,_,XT⟩:=XT;have eO:=q.ev;have AW:∀z:j_,aq Let.aD (aT (x::y::z))=aq Let.aD (aT z)+2:=fun z=>by rw[mE,mE,(zK cx).1,(zK cy).1];omega
 have Hn:∀z:j_,aq Let.aF (aT (x::y::z))=aq Let.aF (aT z):=fun z=>by rw[mE,mE,(zK cx).2,(zK cy).2];omega
 have zk:∀(z:j_) k,cg (aT (x::y::z)) k=cg (aT z) k:=fun z k=>by show aq _ _=aq _ _;rw[mE,mE,Jc k cx,Jc k cy];simp
 have mC:aq Let.aD (aT (r.map (aS.mp id (iG [x.k.id]))))=aq Let.aD (aT r):=Di (fun l=>(Cn _).aD l) r;have mP:aq Let.aF (aT (r.map (aS.mp id (iG [x.k.id]))))=aq Let.aF (aT r):=Di (fun l=>(Cn _).aF l) r;have mG:∀k,cg (aT (r.map (aS.mp id (iG [x.k.id])))) k=cg (aT r) k:=fun k=>Di (fun l=>afL _ k l) r;have lowid:∀w∈r,w.k.aD=true->(iG [x.k.id] w.k).id=if x.k.id<w.k.id then w.k.id-1 else w.k.id:=fun w hw hc=>by
  rw[afN hc];by_cases c:x.k.id<w.k.id
  .simp[c]
  simp[c]
 have Km:∀w∈x::y::r,w.k.aD=true->1<=w.k.id/\w.k.id<=((aq Let.aD (aT r)/2:Nat):Int)+1:=fun w hw hc=>by have:=q.ids w hw hc;rw[AW] at this;omega
 have hr:r≠[]:=by
  obtain⟨w,hw,rJ⟩:=c.one;rintro rfl
  simp only[ch,eL,or_false] at hw;rcases hw with rfl|rfl
  .rw[nj cx] at rJ;cases rJ
  rw[nj cy] at rJ;cases rJ
 have inr:∀w∈r,w∈x::y::r:=fun w hw=>by simp[hw]
 have qn:Cq F ([]++r.map (aS.mp id (iG [x.k.id]))) (TF ls) (BF ls):=by
  refine Cq.edit (X:=[x,y]) (r:=r) q (Cn _) (fun w hw=>afM (q.ok w (inr w hw)).bad) (fun u hu v hv cu cv e=>?_) (fun u hu v hv pu pv e1 e2=>?_) (fun _ h=>by cases h) List.Pairwise.nil List.Pairwise.nil (fun _ h=>by cases h) (fun _ h=>by cases h) ?_ (fun _ h=>by cases h) (fun u hu cu=>?_) (fun _ h=>by cases h) (fun u hu pu=>?_) (fun _ h=>by cases h) (fun u hu pu=>?_) (fun k hk=>?_) ?_
  .have h1:=T7 u hu cu;have h2:=T7 v hv cv;rw[lowid u hu cu,lowid v hv cv] at e;split at e<;>split at e<;>omega
  .rw[Cm pu,Cm pv] at e1 e2;exact⟨e1,e2⟩
  .rw[gR,mC];rw[AW] at eO;omega
  .rw[gR,mC,lowid u hu cu];have h1:=Km u (inr u hu) cu;have h2:=T7 u hu cu;have h3:=Km x af cx;split<;>omega
  .rw[gR,Cm pu,mG,<- zk r];exact q.rr u (inr u hu) pu
  .rw[Cm pu];exact⟨⟨rfl,rfl⟩,rfl,rfl⟩
  .rw[gR,mG,<- zk r];exact q.gt k hk
  rw[gR,mG,<- zk r];exact q.gz
 have NZ:Cert F (r.map fun w=>tB [x.k.id] w.p):=by
  refine Cq.done (X:=[x,y]) (r:=r) (X':=[]) (L:=[if gX x.k then x.o.r else x.o.l]) (N:=[]) (V:=mO ls) (z':=r.map (aS.mp id (iG [x.k.id]))) qn c.nd (fun t ht=>c.wit t ht) (List.Perm.refl _) ⟨s,UJ (ψ:=id) uN⟩ ?_ ?_ (fun _ _ _=>rfl) (fun w hw t ht ew hL=>?_) xE (fun t ht=>by cases ht) (fun t ht=>by cases ht) (by rw[EJ];exact cD _) ?_
  .rw[uu];refine Ai fun w _=>?_;rw[afP];rfl
  .obtain⟨w,hw,rJ⟩:=c.one;simp only[ch] at hw;rcases hw with rfl|rfl|hw
   .rw[nj cx] at rJ;cases rJ
   .rw[nj cy] at rJ;cases rJ
   refine⟨w.mp id (iG [x.k.id]),?_,?_⟩
   .rw[gR];exact cV.2 ⟨w,hw,rfl⟩
   show(iG [x.k.id] w.k).aF=true;rw[(Cn _).aF];exact rJ
  .obtain⟨v,hv,hvo⟩:=UI uN hr;have key:t=s.l\/t=s.r:=by
    simp only[ch,eL,or_false] at hw hL;rcases hw with rfl|rfl
    .rcases XT t ew with h|h|h
     .exact .inl h
     .exact .inr h
     exact absurd h hL
    rw[hyo] at ew;exact ew
   refine⟨v.mp id (iG [x.k.id]),by rw[gR];exact cV.2 ⟨v,hv,rfl⟩,?_⟩;show t=id v.o.l\/t=id v.o.r;rw[hvo];exact key
  rw[gR,mC,mP];have h1:=g.nw;have h2:aq Let.aD (aT (x::y::r))=aq Let.aD ls:=by rw[Dj oL,mA]
  have h3:aq Let.aF (aT (x::y::r))=aq Let.aF ls:=by rw[Dj oL,mA]
  rw[AW] at h2;rw[Hn] at h3;simp only[fv,dL];omega
 show Cert F ((qQ (pieces ls) (vl [x.k.id])).map (tB [x.k.id]));rw[afl (l:=pieces ls) (drop:=vl [x.k.id]) (d:=fun p=>(p.l.kind==2)&&[x.k.id].contains p.l.id) fun _ _=>rfl];refine acf (a:=a) ?_;rw[KA];have hf:((x::y::r).map aS.p).filter (fun p=> !((p.l.kind==2)&&[x.k.id].contains p.l.id))=r.map aS.p:=by
  rw[eD,eD,VI (by simp[iZ]),VI (by simp[qJ,hid])];refine filter_all fun p hp=>?_;obtain⟨w,hw,rfl⟩:=cV.1 hp;cases hk:(w.p.l.kind==2)
  .rfl
  have:=T7 w hw hk;simp[this]
 rw[hf,uu];exact NZ
end
end
end Go.Abs
