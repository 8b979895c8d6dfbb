/-
  Certificates: names of faces at each letter show that a code is valid.
-/
import Derived.Test.YtkfngecllhhooaaGreatDoorVe
set_option linter.all false
set_option maxHeartbeats 16000000
namespace Go.Abs
section
variable{F x:Nat}
theorem aab{R:Nat->Nat->Prop}{n:Nat}{L:List Nat}(h:∀x,x<n->∃r∈L,dk R x r):K (dk R) n<=L.length:=by
 have key:∀M:List Nat,M.Nodup->(∀x∈M,x<n/\ld (dk R) x)->∃N:List Nat,N.length=M.length/\N.Nodup/\ ∀r∈N,r∈L/\ ∃x∈M,dk R x r:=by
  intro M
  induction M with
  |nil=>intro _ _;exact⟨[],rfl,ach,by simp⟩
  |cons a M ih=>
   intro hn hm;obtain⟨n1,n2⟩:=abQ.1 hn;obtain⟨N,l1,l2,l3⟩:=ih n2 fun x hx=>hm x (by simp[hx]);obtain⟨ha,la⟩:=hm a (by simp);obtain⟨r,hr,e⟩:=h a ha;refine⟨r::N,by simp[l1],abQ.2 ⟨fun hN=>?_,l2⟩,fun q hq=>?_⟩
   .obtain⟨_,x,hx,ex⟩:=l3 r hN;have e1:=la x (e.trans ex.symm);have e2:=(hm x (by simp[hx])).2 a (ex.trans e.symm);have:a=x:=by omega
    exact n1 (this▸hx)
   rcases aat.1 hq with rfl|hq
   .exact⟨hr,a,by simp,e⟩
   obtain⟨q1,x,hx,ex⟩:=l3 q hq;exact⟨q1,x,by simp[hx],ex⟩
 obtain⟨N,l1,l2,l3⟩:=key ((List.range n).filter (Sk (dk R))) (ac9.filter _) fun x hx=>by obtain⟨h1,h2⟩:=ab4.1 hx;exact⟨aaX.1 h1,rS.1 h2⟩
 unfold K;rw[List.countP_eq_length_filter,<- l1];exact rz _ _ l2 fun r hr=>(l3 r hr).1
theorem DP(p:Nat->Nat)(x:Nat):∀i j,it p (i+j) x=it p i (it p j x):=by
 intro i j
 induction i with
 |zero=>rw[abd];rfl
 |succ i ih=>rw[show i+1+j=(i+j)+1 by omega];show p (it p (i+j) x)=p (it p i (it p j x));rw[ih]
theorem Xb{p:Nat->Nat}{m:Nat}(h:it p m x=x):∀k,it p (k*m) x=x:=by
 intro k
 induction k with
 |zero=>rw[act];rfl
 |succ k ih=>rw[Nat.succ_mul,DP,h,ih]
theorem YB{n:Nat}{p:Nat->Nat}(h:Perm n p){a b:Nat}(e:dk (gr n p) a b):a=b\/(a<n/\b<n/\ ∃k,it p k a=b):=by
 induction e with
 | @rel a b r=>obtain⟨ha,rfl⟩:=r;exact .inr ⟨ha,h.lt _ ha,1,rfl⟩
 |refl _=>exact .inl rfl
 | @symm a b _ ih=>
  rcases ih with rfl|⟨ha,hb,k,hk⟩
  .exact .inl rfl
  obtain⟨m,hm⟩:=h.Wb ha;refine .inr ⟨hb,ha,k*m,?_⟩;rw[<- hk,<- DP,show k*m+k=k*(m+1) by rw[Nat.mul_succ]];exact Xb hm k
 |trans _ _ i1 i2=>
  rcases i1 with rfl|⟨ha,hb,k,hk⟩
  .exact i2
  rcases i2 with rfl|⟨_,hc,j,hj⟩
  .exact .inr ⟨ha,hb,k,hk⟩
  exact .inr ⟨ha,hc,j+k,by rw[DP,hk,hj]⟩
theorem SF{n:Nat}{p:Nat->Nat}(h:Perm n p){a b:Nat}(hab:a≠b)(e:dk (gr n p) a b):¬dk (gr n (tr p (a,b))) a b:=by
 rcases YB h e with he|⟨ha,hb,k0,hk0⟩
 .exact absurd he hab
 obtain⟨k,hk,anq⟩:=uA (p:=fun k=>it p k a=b) k0 hk0;have k1:1<=k:=by
  rcases Nat.eq_zero_or_pos k with rfl|h
  .exact absurd hk hab
  exact h
 have na:∀j,1<=j->j<=k->it p j a≠a:=fun j j1 j2 ej=>by
  rcases Nat.lt_or_eq_of_le j2 with c|rfl
  .have:it p (k-j) a=b:=by
    rw[<- hk,show k=(k-j)+j by omega,DP,ej];congr 1;omega
   have:=anq _ this;omega
  exact hab (ej.symm.trans hk)
 have nb:∀j,j<k->it p j a≠b:=fun j j1 ej=>by have:=anq j ej;omega
 intro e2;have inv:∀x y,gr n (tr p (a,b)) x y->(∃j,1<=j/\j<=k/\x=it p j a)=(∃j,1<=j/\j<=k/\y=it p j a):=by
  rintro x y ⟨hx,rfl⟩
  apply propext;unfold tr;simp only;constructor
  .rintro ⟨j,j1,j2,rfl⟩
   rw[if_neg (na j j1 j2)];by_cases c:it p j a=b
   .rw[if_pos c];exact⟨1,by omega,k1,rfl⟩
   rw[if_neg c];refine⟨j+1,by omega,?_,rfl⟩;rcases Nat.lt_or_eq_of_le j2 with d|rfl
   .exact d
   exact absurd hk c
  by_cases c:x=a
  .rw[if_pos c];rintro ⟨j,j1,j2,ej⟩
   exfalso;have:=h.inj _ _ hb (h.yW ha (j-1)) (by rw[ej,show j=(j-1)+1 by omega];rfl);by_cases d:j=1
   .subst d;exact hab this.symm
   exact nb (j-1) (by omega) this.symm
  rw[if_neg c];by_cases d:x=b
  .subst d;intro _;exact⟨k,k1,aaj _,hk.symm⟩
  rw[if_neg d];rintro ⟨j,j1,j2,ej⟩
  have:=h.inj _ _ hx (h.yW ha (j-1)) (by rw[ej,show j=(j-1)+1 by omega];rfl);by_cases f:j=1
  .subst f;exact absurd this c
  exact⟨j-1,by omega,by omega,this⟩
 have:=e2.inv inv;have hb':∃j,1<=j/\j<=k/\b=it p j a:=⟨k,k1,aaj _,hk.symm⟩;rw[<- this] at hb';obtain⟨j,j1,j2,ej⟩:=hb';exact na j j1 j2 ej.symm
theorem K_tr{n:Nat}{p:Nat->Nat}(h:Perm n p){a b:Nat}(ha:a<n)(hb:b<n)(hab:a≠b):(K (dk (gr n (tr p (a,b)))) n+K (dk (gr n p)) n)%2=1:=by
 have one:∀x y,dk (pQ (gr n (tr p (a,b))) a b) x y↔dk (pQ (gr n p) a b) x y:=fun x y=>by have h:=Jh (p:=p) (S:=fun _ _=>False) ha hb (x:=x) (y:=y);have e:∀q:Nat->Nat,(fun x y=>gr n q x y\/False)=gr n q:=fun q=>funext fun x=>funext fun y=>propext (by simp);rw[e,e] at h;exact h
 have kj:K (dk (pQ (gr n (tr p (a,b))) a b)) n=K (dk (pQ (gr n p) a b)) n:=sB one n;rcases Classical.em (dk (gr n p) a b) with c|c
 .have k1:=Jp c n;have k2:=Jq ha hb (SF h hab c);omega
 have k1:=Jq ha hb c;have k2:=Jp (Jw h ha hb c) n;omega
theorem Z7{n:Nat}:∀(ts:List (Nat×Nat)) (p:Nat->Nat),Perm n p->(∀t∈ts,t.1<n/\t.2<n/\t.1≠t.2)->(K (dk (gr n (ts.foldl tr p))) n+K (dk (gr n p)) n+ts.length)%2=0:=by
 intro ts
 induction ts with
 |nil=>intro p _ _;simp only[List.foldl_nil,aaL];omega
 |cons t ts ih=>
  intro p hp ht;obtain⟨a,b⟩:=t;obtain⟨ha,hb,hab⟩:=ht (a,b) (by simp)
  replace ha:a<n:=ha
  replace hb:b<n:=hb
  replace hab:a≠b:=hab
  have e1:=ih (tr p (a,b)) (hp.tr ha hb) fun t h=>ht t (by simp[h]);have e2:(K (dk (gr n (tr p (a,b)))) n+K (dk (gr n p)) n)%2=1:=K_tr hp ha hb hab;simp only[acT,aaz];omega
def tV(ls:List Let)(x:Nat):Nat:=cq ls (rv x)
def Jv(k:Nat):List (Nat×Nat):=(List.range k).map fun e=>(2*e,2*e+1)
theorem NS(q:Nat->Nat):∀k y,(Jv k).foldl tr q y=if y<2*k then q (rv y) else q y:=by
 intro k
 induction k with
 |zero=>intro y;rw[if_neg (by omega)];rfl
 |succ k ih=>
  intro y;have e:Jv (k+1)=Jv k++[(2*k,2*k+1)]:=by unfold Jv;rw[ack,abq];rfl
  rw[e,adp,acT,List.foldl_nil,Jx];by_cases c1:y=2*k
  .subst c1;rw[if_pos rfl,ih,if_neg (by omega),if_pos (by omega),JO]
  rw[if_neg c1];by_cases c2:y=2*k+1
  .subst c2;rw[if_pos rfl,ih,if_neg (by omega),if_pos (by omega),Sd]
  rw[if_neg c2,ih];by_cases c3:y<2*k
  .rw[if_pos c3,if_pos (by omega)]
  rw[if_neg c3,if_neg (by omega)]
theorem dk.push{R R':Nat->Nat->Prop}{f:Nat->Nat}(h:∀a b,R a b->dk R' (f a) (f b)){y:Nat}(e:dk R x y):dk R' (f x) (f y):=by
 induction e with
 |rel r=>exact h _ _ r
 |refl a=>exact .refl _
 |symm _ ih=>exact ih.symm
 |trans _ _ i1 i2=>exact i1.trans i2
section
variable {F:Nat} {ls:List Let}
theorem yh(ok:dS F ls):Perm (nD ls) (tV ls):=by
 have m:=maps ok;have hN:=yF ls;have hr:∀y,y<nD ls->rv y<nD ls:=fun y hy=>by rw[hN] at hy ⊢;exact sK hy
 refine⟨fun y hy=>m.lt _ (hr y hy),fun x y hx hy e=>?_⟩;have:=m.inj _ _ (hr x hx) (hr y hy) e;rw[<- sJ x,this,sJ]
abbrev E2(ls:List Let):Nat:=ls.length+(ae ls).length
theorem Fj{y:Nat}(hy:y<nD ls):(Jv (E2 ls)).foldl tr (tV ls) y=cq ls y:=by rw[NS,if_pos (by rw[yF] at hy;exact hy)];unfold tV;rw[sJ]
theorem Ub(x y:Nat):dk (gr (nD ls) ((Jv (E2 ls)).foldl tr (tV ls))) x y↔dk (gr (nD ls) (cq ls)) x y:=
 ⟨dk.mono fun a b r=>by obtain⟨h,rfl⟩:=r;exact .rel ⟨h,Fj h⟩,dk.mono fun a b r=>by obtain⟨h,rfl⟩:=r;exact .rel ⟨h,(Fj h).symm⟩⟩
theorem NR{k:Nat}:∀t∈Jv k,t.1<2*k/\t.2<2*k/\t.1≠t.2:=by intro t ht;obtain⟨e,he,rfl⟩:=aaF.1 ht;have:=aaX.1 he;refine⟨?_,?_,?_⟩<;>simp only<;>omega
theorem aaa(ok:dS F ls):K (dk (gr (nD ls) (cq ls))) (nD ls)=dU ls:=by
 obtain⟨hnd,anP⟩:=iQ (cq ls) (nD ls);have hfs:∀w∈cP (cq ls) (nD ls),w≠[]:=fun w hw=>by obtain⟨⟨d,t,e,_⟩,_⟩:=jd ok w hw;rw[e];simp
 have hlen:((cP (cq ls) (nD ls)).map (·.headD 0)).length=dU ls:=by rw[aau];rfl
 refine Nat.le_antisymm ?_ ?_
 .rw[<- hlen];refine aab fun x hx=>?_;obtain⟨w,hw,hxw⟩:=adf.1 (anP x hx);obtain⟨⟨d,t,e,_⟩,_⟩:=jd ok w hw;refine⟨w.headD 0,aaF.2 ⟨w,hw,rfl⟩,?_⟩;exact mL (maps ok) (R:=gr (nD ls) (cq ls)) (fun y hy=>.rel ⟨hy,rfl⟩) hw hxw (by rw[e];simp)
 rw[<- hlen];refine aac (f:=CP (cP (cq ls) (nD ls))) ?_ (fun x hx=>?_) ?_
 .rintro a b ⟨ha,rfl⟩
  obtain⟨u,hu,hau⟩:=adf.1 (anP a ha);obtain⟨i,hi⟩:=abb hu;rw[tK hnd hi hau,tK hnd hi (fI (maps ok) hu hau)]
 .obtain⟨w,hw,rfl⟩:=aaF.1 hx;obtain⟨⟨d,t,e,hd⟩,_⟩:=jd ok w hw;rw[e];simp only[List.headD_cons];have:nD ls=2*ls.length+2*(ae ls).length:=rfl;omega
 rw[MG hnd hfs];exact ac9
abbrev Vm(ls:List Let):Nat->Nat->Prop:=gr (nD ls) (tV ls)
theorem Rw{v:Nat}(hv:v<ls.length)(g:Bool):aI ls.length v g<nD ls:=by have h:=pM hv (!g);rw[<- jf] at h;have:=sK h;rw[sJ] at this;have:nD ls=2*ls.length+2*(ae ls).length:=rfl;omega
theorem OH(v:Nat)(g:Bool):tV ls (aI ls.length v g)=cq ls (gJ ls.length v (!g)):=by unfold tV;rw[jf]
theorem OF(ok:dS F ls){v:Nat}(hv:v<ls.length):dk (Vm ls) (aI ls.length v true) (aI ls.length v false):=by
 obtain⟨l,hl⟩:=ao hv;have st:=EQ ok hv false;have:tV ls (tV ls (aI ls.length v true))=aI ls.length v false:=by rw[OH];exact st
 have p:=yh ok;rw[<- this];exact(dk.rel ⟨Rw hv true,rfl⟩).trans (.rel ⟨p.lt _ (Rw hv true),rfl⟩)
theorem w8(ok:dS F ls){v:Nat}(hv:v<ls.length)(g h:Bool):dk (Vm ls) (aI ls.length v g) (aI ls.length v h):=by
 have e:=OF ok hv;cases g<;>cases h
 .exact .refl _
 .exact e.symm
 .exact e
 exact .refl _
theorem LU(ok:dS F ls){v:Nat}{l:Let}(hl:ls[v]?=some l)(hc:l.aD=true):dk (Vm ls) (aI ls.length v true) (aI ls.length (bN ls v) true):=by
 obtain⟨h1,m,hm,mc,mi,mo,ms⟩:=bt ok.cr hl hc;have hv:=(aai.1 hl).1;have hw:=(aai.1 hm).1;have:tV ls (aI ls.length v true)=aI ls.length (bN ls v) (false==(l.over==(l.sign==1))):=by rw[OH,mN hl hc];rfl
 exact(dk.rel ⟨Rw hv true,this.symm⟩).trans (w8 ok hw _ _)
theorem Tf(ok:dS F ls){k:Nat}(hk:k<(ae ls).length):dk (Vm ls) (2*ls.length+2*k) (aI ls.length ((ae ls).getD k 0) true):=by
 have hlt:2*ls.length+2*k<nD ls:=by unfold nD;omega
 obtain⟨l,h1,h2⟩:=tE hk;have hv:=(aai.1 h1).1;have:tV ls (2*ls.length+2*k)=aI ls.length ((ae ls).getD k 0) (dn ls ((ae ls).getD k 0)):=by unfold tV;rw[show 2*ls.length+2*k=2*(ls.length+k) by omega,JO,show 2*(ls.length+k)+1=2*ls.length+2*k+1 by omega,uW]
 exact(dk.rel ⟨hlt,this.symm⟩).trans (w8 ok hv _ _)
theorem Tg(ok:dS F ls){k:Nat}(hk:k<(ae ls).length):dk (Vm ls) (2*ls.length+2*k+1) (aI ls.length ((ae ls).getD ((k+1)%(ae ls).length) 0) true):=by
 have hlt:2*ls.length+2*k+1<nD ls:=by unfold nD;omega
 obtain⟨l,h1,h2⟩:=tE (aaN (k+1) (show 0<(ae ls).length by omega));have hv:=(aai.1 h1).1;have:tV ls (2*ls.length+2*k+1)=aI ls.length ((ae ls).getD ((k+1)%(ae ls).length) 0) (!dn ls ((ae ls).getD ((k+1)%(ae ls).length) 0)):=by unfold tV;rw[show 2*ls.length+2*k+1=2*(ls.length+k)+1 by omega,Sd,show 2*(ls.length+k)=2*ls.length+2*k by omega,uV]
 exact(dk.rel ⟨hlt,this.symm⟩).trans (w8 ok hv _ _)
theorem OE(ok:dS F ls)(hx:x<nD ls):∃v,v<ls.length/\dk (Vm ls) x (aI ls.length v true):=by
 by_cases c:x<2*ls.length
 .have hy:rv x<2*ls.length:=sK c;obtain⟨v,fw,hv,e⟩:∃v fw,v<ls.length/\rv x=gJ ls.length v fw:=⟨_,_,by
   split
   .exact aaN _ (by omega)
   omega,Er hy⟩
  have:x=aI ls.length v (!fw):=by rw[<- WF,<- e,sJ]
  exact⟨v,hv,by rw[this];exact w8 ok hv _ _⟩
 have hN:nD ls=2*ls.length+2*(ae ls).length:=rfl;have hk:(x-2*ls.length)/2<(ae ls).length:=by omega
 rcases acs x with h|h
 .obtain⟨l,h1,h2⟩:=tE hk;refine⟨_,(aai.1 h1).1,?_⟩;have:=Tf ok hk;rwa[show 2*ls.length+2*((x-2*ls.length)/2)=x by omega] at this
 obtain⟨l,h1,h2⟩:=tE (aaN ((x-2*ls.length)/2+1) (show 0<(ae ls).length by omega));refine⟨_,(aai.1 h1).1,?_⟩;have:=Tg ok hk;rwa[show 2*ls.length+2*((x-2*ls.length)/2)+1=x by omega] at this
theorem Lk(ok:dS F ls):∃L:List Nat,L.length=aA Let.aH ls+aA Let.aD ls/2/\(∀j∈L,j<ls.length)/\(L.map (uS ls)).Nodup/\ ∀v,v<ls.length->∃j∈L,uS ls j=uS ls v:=by
 have hc:=ok.cr;unfold dK at hc;simp only[aay,beq_iff_eq] at hc;obtain⟨L,l1,l2,l3⟩:=NN ok;refine⟨L,l1,l2,l3,fun v hv=>?_⟩
 -- all the names there are
 let A:List (Int×Int):=(ae ls).map (fun i:Nat=>((0:Int),(i:Int)))++(dI ls ls.length).map fun id=>((1:Int),id)
 have hA:A.length=aA Let.aH ls+aA Let.aD ls/2:=by simp only[A,aaY,aau,lK,hc.2]
 have hin:∀v,v<ls.length->uS ls v∈A:=fun v hv=>by
  obtain⟨l,hl⟩:=ao hv;unfold uS;rw[hl];rcases ok.kinds l (aae hl) with hp|hcr
  .simp only[dL hp,aaE,if_false];exact List.mem_append_left _ (aaF.2 ⟨v,dT.2 ⟨l,hl,hp⟩,rfl⟩)
  simp only[hcr,if_true];refine adl _ (aaF.2 ⟨l.id,?_,rfl⟩);exact(oQ (aaj _)).2 ⟨v,l.over,hv,by rw[vw hl hcr];simp⟩
 refine Classical.byContradiction fun hno=>?_;have hn:uS ls v∉L.map (uS ls):=fun h=>by obtain⟨j,hj,e⟩:=aaF.1 h;exact hno ⟨j,hj,e⟩
 have aiS:∀(X Y:List (Int×Int)),X.Nodup->(∀x∈X,x∈Y)->X.length<=Y.length:=by
  intro X
  induction X with
  |nil=>intro Y _ _;exact aan _
  |cons a X ih=>intro Y hn hs;obtain⟨h1,h2⟩:=abQ.1 hn;have ha:=hs a (by simp);have:=ih (Y.erase a) h2 fun x hx=>(List.mem_erase_of_ne (by rintro rfl;exact h1 hx)).2 (hs x (by simp[hx]));rw[List.length_erase_of_mem ha] at this;have:0<Y.length:=adR ha;simp only[aaz];omega
 have:=aiS (uS ls v::L.map (uS ls)) A (abQ.2 ⟨hn,l3⟩) fun x hx=>by
  rcases aat.1 hx with rfl|hx
  .exact hin v hv
  obtain⟨j,hj,rfl⟩:=aaF.1 hx;exact hin j (l2 j hj)
 rw[aaz,aau,l1,hA] at this;omega
theorem Sy(ok:dS F ls){u v:Nat}(hu:u<ls.length)(hv:v<ls.length)(e:uS ls u=uS ls v):dk (Vm ls) (aI ls.length v true) (aI ls.length u true):=by
 obtain⟨l,hl⟩:=ao hu;obtain⟨m,hm⟩:=ao hv;unfold uS at e;rw[hl,hm] at e;simp only at e;cases cl:l.aD<;>cases cm:m.aD
 .simp only[cl,cm,aaE,if_false,abe,true_and] at e;have:u=v:=by omega
  subst this;exact .refl _
 .simp[cl,cm] at e
 .simp[cl,cm] at e
 simp only[cl,cm,if_true,abe,true_and] at e;have hcr:=ok.cr;have hp:oE ls:=by unfold dK at hcr;simp only[aay,beq_iff_eq,aba,aaX] at hcr;exact(xA.1 hcr.1.2).2
 by_cases huv:u=v
 .subst huv;exact .refl _
 obtain⟨h1,w,hw,wc,wi,wo,ws⟩:=bt ok.cr hm cm;have:bN ls v=u:=by refine Classical.byContradiction fun hne=>?_;have d1:=(hp _ _ w l hw hl wc cl (by rw[wi,e]) hne).1;have d2:=(hp _ _ l m hl hm cl cm e huv).1;rw[wo] at d1;revert d1 d2;cases l.over<;>cases m.over<;>simp
 have:=LU ok hm cm;rwa[‹bN ls v=u›] at this
theorem Z8(ok:dS F ls):K (dk (Vm ls)) (nD ls)=aA Let.aH ls+aA Let.aD ls/2:=by
 obtain⟨L,l1,l2,l3,l4⟩:=Lk ok;have hN:=yF ls;have hN':nD ls=2*ls.length+2*(ae ls).length:=rfl;have hrv:∀y,y<nD ls->rv y<nD ls:=fun y hy=>by rw[hN] at hy ⊢;exact sK hy
 have hlen:(L.map (2* ·)).length=aA Let.aH ls+aA Let.aD ls/2:=by rw[aau,l1]
 refine Nat.le_antisymm ?_ ?_
 .rw[<- hlen];refine aab fun x hx=>?_;obtain⟨v,hv,e⟩:=OE ok hx;obtain⟨j,hj,ej⟩:=l4 v hv;exact⟨2*j,aaF.2 ⟨j,hj,rfl⟩,e.trans (Sy ok (l2 j hj) hv ej)⟩
 rw[<- hlen];refine aac (f:=fun x=>uS ls (pS ls (rv x))) ?_ (fun x hx=>?_) ?_
 .rintro a b ⟨ha,rfl⟩
  exact(NP ok (hrv a ha)).1.symm
 .obtain⟨j,hj,rfl⟩:=aaF.1 hx;have:=l2 j hj;omega
 rw[ab3];have:L.map ((fun x=>uS ls (pS ls (rv x))) ∘ (2* ·))=L.map (uS ls):=ac2 fun j hj=>by have:=qO (ls:=ls) (l2 j hj) false;simp only[Function.comp_apply,JO];rw[show 2*j+1=gJ ls.length j false from rfl,this]
 rw[this];exact l3
theorem Mo(ok:dS F ls):K (dk (ND (nD ls) (tV ls) (Jv (E2 ls)))) (nD ls)<=1:=by
 refine Z9 fun x hx=>?_;obtain⟨b,hb⟩:=Xk (p:=fun _=>false) (fun _=>rfl) ok hx;have h:=hb 0 (by decide);have:=h.push (R':=ND (nD ls) (tV ls) (Jv (E2 ls))) (f:=fun y=>y/2) ?_
 .have hf:fx b 0<2:=KD (by decide);rw[show(2*x+0)/2=x by omega,show fx b 0/2=0 by omega] at this;exact this
 intro u v r;rcases r with ⟨hu,rfl⟩|r
 .refine .rel (.inl ⟨by omega,?_⟩);unfold sgC tV fx;simp only[aaE,if_false];omega
 refine .rel (.inr ?_);obtain⟨e,he,hm⟩:=List.mem_flatMap.1 r;have abj:(2*e,2*e+1)∈Jv (E2 ls):=aaF.2 ⟨e,he,rfl⟩;simp only[aat,aa9,or_false,abe] at hm;rcases hm with ⟨rfl,rfl⟩|⟨rfl,rfl⟩
 .rw[Ry];simp only[aaE,if_false];rw[show 4*e/2=2*e by omega,show(4*e+2)/2=2*e+1 by omega];exact abj
 rw[Rx];simp only[aaE,if_false];rw[show(4*e+1)/2=2*e by omega,show(4*e+3)/2=2*e+1 by omega];exact abj
theorem Gr(ok:dS F ls):dU ls<=aA Let.aH ls+aA Let.aD ls/2+2/\(dU ls+(aA Let.aH ls+aA Let.aD ls/2))%2=0:=by
 have hN:=yF ls;have e1:=ZF (Jv (E2 ls)) (tV ls) (yh ok) fun t ht=>by have:=NR t ht;rw[hN];exact⟨this.1,this.2.1⟩
 have e2:=Z7 (Jv (E2 ls)) (tV ls) (yh ok) fun t ht=>by have:=NR t ht;rw[hN];exact this
 have hl:(Jv (E2 ls)).length=ls.length+(ae ls).length:=by simp[Jv]
 rw[sB Ub,aaa ok,show K (dk (gr (nD ls) (tV ls))) (nD ls)=_ from Z8 ok,hl] at e1 e2;have h1:=Mo ok;have hPC:=PM ok;have AN:=lK (ls:=ls);have hcr:=ok.cr;unfold dK at hcr;simp only[aay,beq_iff_eq] at hcr;have hev:=hcr.1.1;omega
end
structure iZ where
 l:Nat
 r:Nat
 b:Bool
structure a8 where
 p:Pc
 i:iZ
 o:iZ
abbrev a8.k(x:a8):Let:=x.p.l
def eH:iZ->List a8->iZ->Prop
 |s,[],t=>s=t
 |s,x::r,t=>x.i=s/\eH x.o r t
theorem qE{s t:iZ}{a b:List a8}:eH s (a++b) t↔ ∃m,eH s a m/\eH m b t:=by
 induction a generalizing s with
 |nil=>exact⟨fun h=>⟨s,rfl,h⟩,fun⟨m,h1,h2⟩=>by cases h1;exact h2⟩
 |cons x a ih=>show(x.i=s/\eH x.o (a++b) t)↔_;rw[ih];exact⟨fun⟨h,m,h1,h2⟩=>⟨m,⟨h,h1⟩,h2⟩,fun⟨m,⟨h,h1⟩,h2⟩=>⟨h,m,h1,h2⟩⟩
theorem O7{s:iZ}{a b:List a8}(h:eH s (a++b) s):∃m,eH m (b++a) m:=by obtain⟨m,h1,h2⟩:=qE.1 h;exact⟨m,qE.2 ⟨s,h2,h1⟩⟩
structure X4 (g:Bool) (i o j q:iZ):Prop where
 a:if g then i.l=q.l else i.l=j.r
 b:if g then o.r=j.r else o.r=q.l
 c:if g then j.l=i.r else j.l=o.l
 d:if g then q.r=o.l else q.r=i.r
def gX (l:Let):Bool:=l.over==(l.sign==1)
structure Xc (x y:a8):Prop where
 ov:x.k.over= !y.k.over
 sg:x.k.sign=y.k.sign
 x4:X4 (gX x.k) x.i x.o y.i y.o
theorem Xc.symm{x y:a8}(h:Xc x y):Xc y x:=by
 obtain⟨h1,h2,a,b,c,d⟩:=h;have e:gX y.k= !gX x.k:=by unfold gX;rw[h1,h2];cases y.k.over<;>cases (y.k.sign==1)<;>rfl
 refine⟨by rw[h1];simp,h2.symm,?_⟩;rw[e];cases hg:gX x.k
 .rw[hg] at a b c d;simp only[aaE,if_false] at a b c d;constructor<;>simp only[Bool.not_false,if_true]
  .exact c
  .exact d
  .exact a
  exact b
 rw[hg] at a b c d;simp only[if_true] at a b c d;constructor<;>simp only[acE,aaE,if_false]
 .exact c
 .exact d
 .exact a
 exact b
def pV(s:iZ):iZ:=⟨s.r,s.l,s.b⟩
def a8.up(x:a8):iZ:=if x.p.d then x.i else pV x.o
def a8.lo(x:a8):iZ:=if x.p.d then x.o else pV x.i
structure Pe (F:Nat) (x:a8):Prop where
 bad:ch F x.k=false
 cb:x.k.aD=true->x.i.b=x.o.b
 pb:x.k.aH=true->x.o.b=x.p.d/\x.i.b= !x.p.d
def Xr (x y:a8):Prop:=x.k.aD=true->y.k.aD=true->x.k.id=y.k.id->Xc x y
theorem Xr.symm{x y:a8}(h:Xr x y):Xr y x:=fun a b c=>(h b a c.symm).symm
def Dr (x y:a8):Prop:=x.k.aH=true->y.k.aH=true->x.k.gate=y.k.gate->x.k.aag≠y.k.aag
theorem Dr.symm{x y:a8}(h:Dr x y):Dr y x:=fun a b c d=>h b a c.symm d.symm
structure WR (T B:Nat->Nat->Nat) (x:a8):Prop where
 wt:x.up.r=T x.k.gate.toNat (x.k.aag.toNat-1)
 et:x.up.l=T x.k.gate.toNat x.k.aag.toNat
 wb:x.lo.r=B x.k.gate.toNat (x.k.aag.toNat-1)
 eb:x.lo.l=B x.k.gate.toNat x.k.aag.toNat
abbrev be(z:List a8):List Let:=z.map a8.k
structure Cz (F:Nat) (z:List a8) (T B:Nat->Nat->Nat) (S:List Nat):Prop where
 path:∃s,eH s z s
 ok:∀x∈z,Pe F x
 cr:z.Pairwise Xr
 ev:aA Let.aD (be z)%2=0
 ids:∀x∈z,x.k.aD=true->1<=x.k.id/\x.k.id<=((aA Let.aD (be z)/2:Nat):Int)
 rk:z.Pairwise Dr
 rr:∀x∈z,x.k.aH=true->1<=x.k.aag/\x.k.aag<=(cg (be z) x.k.gate.toNat:Int)
 pl:∀x∈z,x.k.aH=true->WR T B x
 gt:∀g,g<F->T g (cg (be z) g)=T (g+1) 0/\B g (cg (be z) g)=B (g+1) 0
 gz:T F (cg (be z) F)=T 0 0/\B F (cg (be z) F)=B 0 0
 one:∃x∈z,x.k.aH=true
 nd:S.Nodup
 wit:∀s∈S,∃x∈z,s=x.o.l\/s=x.o.r
 num:aA Let.aH (be z)+aA Let.aD (be z)/2+1<=S.length
def Cert(F:Nat)(l:List Pc):Prop:= ∃z T B S,z.map a8.p=l/\Cz F z T B S
theorem jl{p:Let->Bool}{z z':List a8}(h:z.Perm z'):aA p (be z)=aA p (be z'):=(h.map a8.k).countP_eq p
theorem Cz.perm{z z':List a8}{T B:Nat->Nat->Nat}{S:List Nat}(c:Cz F z T B S)(h:z.Perm z')(hp:∃s,eH s z' s):Cz F z' T B S:=by
 have hm:∀ {x},x∈z'↔x∈z:=fun {x}=>h.symm.mem_iff;have e:∀p,aA p (be z')=aA p (be z):=fun p=>(jl h).symm;have eg:∀g,cg (be z') g=cg (be z) g:=fun g=>e _;refine⟨hp,fun x hx=>c.ok x (hm.1 hx),(h.pairwise_iff fun {x y}=>Xr.symm).1 c.cr,by rw[e];exact c.ev,fun x hx=>by rw[e];exact c.ids x (hm.1 hx),(h.pairwise_iff fun {x y}=>Dr.symm).1 c.rk,
  fun x hx=>by rw[eg];exact c.rr x (hm.1 hx),fun x hx=>c.pl x (hm.1 hx),fun g hg=>by rw[eg];exact c.gt g hg,by rw[eg];exact c.gz,?_,c.nd,fun s hs=>?_,by rw[e,e];exact c.num⟩
 .obtain⟨x,hx,h1⟩:=c.one;exact⟨x,hm.2 hx,h1⟩
 obtain⟨x,hx,h1⟩:=c.wit s hs;exact⟨x,hm.2 hx,h1⟩
theorem Cz.tV{a b:List a8}{T B:Nat->Nat->Nat}{S:List Nat}(c:Cz F (a++b) T B S):Cz F (b++a) T B S:=by obtain⟨s,h⟩:=c.path;exact c.perm (List.perm_append_comm) (O7 h)
theorem Cert.tV{a b:List Pc}(c:Cert F (a++b)):Cert F (b++a):=by obtain⟨z,T,B,S,h,c⟩:=c;obtain⟨x,y,rfl,rfl,rfl⟩:=List.map_eq_append_iff.1 h;exact⟨y++x,T,B,S,by rw[abq],c.tV⟩
theorem Mj:∀ {z:List a8} {s t:iZ},(∀x∈z,Pe F x)->eH s z t->s.b=false->t.b=true->∃x∈z,x.k.aH=true/\x.p.d=true:=by
 intro z
 induction z with
 |nil=>intro s t _ h h1 h2;cases h;rw[h1] at h2;cases h2
 |cons x z ih=>
  intro s t ok h h1 h2;obtain⟨rfl,h⟩:=h;have ox:=ok x (by simp);by_cases hd:x.k.aH=true/\x.p.d=true
  .exact⟨x,by simp,hd⟩
  have hb:x.o.b=false:=by
   rcases fU ox.bad with hp|hc
   .rw[(ox.pb hp).1];cases hd':x.p.d
    .rfl
    exact absurd ⟨hp,hd'⟩ hd
   rw[<- ox.cb hc];exact h1
  obtain⟨y,hy,e⟩:=ih (fun x hx=>ok x (by simp[hx])) h hb h2;exact⟨y,by simp[hy],e⟩
theorem Cz.down{z:List a8}{T B:Nat->Nat->Nat}{S:List Nat}(c:Cz F z T B S):∃x∈z,x.k.aH=true/\x.p.d=true:=by
 obtain⟨x,hx,hp⟩:=c.one;cases hd:x.p.d
 .obtain⟨a,b,rfl⟩:=List.append_of_mem hx;have c2:=c.tV;obtain⟨s,h⟩:=c2.path;obtain⟨rfl,h⟩:=h;obtain⟨e1,e2⟩:=(c.ok x (by simp)).pb hp;rw[hd] at e1 e2;obtain⟨y,hy,e⟩:=Mj (fun y hy=>c.ok y (by
   rcases aaR.1 hy with hy|hy
   .simp[hy]
   simp[hy])) h e1 e2
  refine⟨y,?_,e⟩;rcases aaR.1 hy with hy|hy
  .simp[hy]
  simp[hy]
 exact⟨x,hx,hp,hd⟩
theorem Dk{l:List Pc}{f:Nat}(hf:f<=l.length):tU l f l.length=(l.drop f++l.take f).map Pc.l:=by
 apply adk;intro i;by_cases hi:i<l.length
 .have h1:(tU l f l.length)[i]?=some (l.getD ((f+i)%l.length) ⟨fm,false⟩).l:=by
   simp[tU,hi]
  rw[h1,aa0];by_cases h2:f+i<l.length
  .rw[acN (by simp;omega),acB,aa7 h2];simp[h2]
  rw[acA (by simp;omega),abk];have h3:(f+i)%l.length=i-(l.length-f):=by rw[Nat.mod_eq_sub_mod (by omega),aa7 (by omega)];omega
  have h4:i-(l.length-f)<l.length:=by omega
  rw[h3,aby,if_pos (by omega)];simp[h4]
 have h1:(tU l f l.length).length=l.length:=by simp[tU]
 rw[abS (by rw[h1];omega),abS (by simp;omega)]
theorem Cert.fin{l:List Pc}(c:Cert F l):∃z T B S x r,z=x::r/\x.k.aH=true/\x.p.d=true/\be z=lf l/\z.length=l.length/\Cz F z T B S:=by
 obtain⟨z,T,B,S,h,c⟩:=c;subst h;obtain⟨x,hx,hp,hd⟩:=c.down;have hP:∀y:a8,y.k.aH=(y.p.l.kind==1):=fun y=>rfl;obtain⟨j,hj⟩:=abb hx;have hjl:=(aai.1 hj).1;have hjp:(z.map a8.p)[j]?=some x.p:=by rw[aa0,hj];rfl
 obtain⟨f,hf⟩:∃f,ij (z.map a8.p)=some f:=by
  cases h:ij (z.map a8.p) with
  |some f=>exact⟨f,rfl⟩
  |none=>have:=adn.1 h j (by simpa using hjl);rw[HY hjp] at this;unfold WV at this;rw[hP] at hp;simp[hp,hd] at this
 have h1:=List.find?_some hf;have h2:f<z.length:=by
  have:=ads hf
  simpa using this
 obtain⟨y,hy⟩:=aai.2 ⟨h2,rfl⟩ |> fun h=>(⟨_,h⟩:∃y,z[f]?=some y)
 have hyp:(z.map a8.p)[f]?=some y.p:=by rw[aa0,hy];rfl
 rw[HY hyp] at h1;unfold WV at h1;rw[aay] at h1;have hz:z=z.take f++y::z.drop (f+1):=by obtain⟨hl,e⟩:=aai.1 hy;rw[<- e,abY,abA]
 have hdr:z.drop f=y::z.drop (f+1):=by obtain⟨hl,e⟩:=aai.1 hy;rw[<- e,abY]
 refine⟨y::z.drop (f+1)++z.take f,T,B,S,y,z.drop (f+1)++z.take f,rfl,h1.1,h1.2,?_,?_,?_⟩
 .unfold lf;rw[hf,abv,Dk (by rw[aau];omega),<- hdr];simp only[abq,List.map_drop,List.map_take,ab3];rfl
 .rw[<- hdr,aaY,abk,aa2,aau];omega
 rw[hz] at c;exact c.tV
theorem Nb{ls:List Let}(he:aA Let.aD ls%2=0)(hi:Qk ls)(hp:oE ls):dK ls=true:=by
 rw[vE he (xA.2 ⟨hi,hp⟩)];have agB:=CX ls;have hle:∀id∈dI ls ls.length,aA (tj id) ls<=2:=fun id _=>by rw[oL id];have:=jP hp id true;have:=jP hp id false;omega
 have h1:=NZ (f:=fun id=>aA (tj id) ls) _ hle;have h2:(dI ls ls.length).length<=aA Let.aD ls/2:=by
  have hr:∀id∈dI ls ls.length,1<=id/\id<=((aA Let.aD ls/2:Nat):Int):=fun id hid=>by obtain⟨j,o,hj,hh⟩:=(oQ (aaj _)).1 hid;obtain⟨m,hm,mc,mi,_⟩:=iF hh;rw[<- mi];exact hi m (aae hm) mc
  have:=rz ((dI ls ls.length).map Int.toNat) (List.range' 1 (aA Let.aD ls/2)) ?_ ?_
  .rwa[aau,List.length_range'] at this
  .refine acr.2 (List.Pairwise.imp_of_mem (fun {a b} ha hb h e=>h ?_) (rW ls ls.length));have:=hr a ha;have:=hr b hb;omega
  intro x hx;obtain⟨id,hid,rfl⟩:=aaF.1 hx;have:=hr id hid;rw[List.mem_range'_1];omega
 simp only[beq_iff_eq];omega
theorem nl{s t:iZ}{z:List a8}{x:a8}(h:eH s z t)(hx:z[0]?=some x):x.i=s:=by
 cases z with
 |nil=>cases hx
 |cons y z=>cases hx;exact h.1
theorem Bt:∀ {z:List a8} {s t:iZ} {i:Nat} {x y:a8},eH s z t->z[i]?=some x->z[i+1]?=some y->x.o=y.i:=by
 intro z
 induction z with
 |nil=>intro s t i x y _ hx;cases hx
 |cons a z ih=>
  intro s t i x y h hx hy;cases i with
  |zero=>cases hx;exact(nl h.2 hy).symm
  |succ i=>exact ih h.2 hx hy
theorem Bu:∀ {z:List a8} {s t:iZ} {x:a8},eH s z t->z[z.length-1]?=some x->x.o=t:=by
 intro z
 induction z with
 |nil=>intro s t x _ hx;cases hx
 |cons a z ih=>
  intro s t x h hx;cases z with
  |nil=>cases hx;exact h.2
  |cons b z=>exact ih h.2 hx
theorem Fz{z:List a8}{s:iZ}{j:Nat}{x y:a8}(h:eH s z s)(hx:z[j]?=some x)(hy:z[(j+1)%z.length]?=some y):x.o=y.i:=by
 have hj:=(aai.1 hx).1;by_cases c:j+1<z.length
 .rw[aa7 c] at hy;exact Bt h hx hy
 have:j+1=z.length:=by omega
 rw[this,acK] at hy;rw[Bu h (by rw[<- this];exact hx),nl h hy]
theorem mU{z:List a8}{i:Nat}{x:a8}(h:z[i]?=some x):(be z)[i]?=some x.k:=by rw[aa0,h];rfl
theorem oJ{z:List a8}{i:Nat}{l:Let}(h:(be z)[i]?=some l):∃x,z[i]?=some x/\x.k=l:=by rw[aa0,aaD] at h;exact h
theorem Dy{z:List a8}{s t:iZ}(ok:∀x∈z,Pe F x)(h:eH s z t)(hs:s.b=false):∀i x,z[i]?=some x->x.i.b= !dn (be z) i/\x.o.b= !dn (be z) (i+1):=by
 have step:∀i x,z[i]?=some x->x.i.b=(!dn (be z) i)->x.o.b= !dn (be z) (i+1):=fun i x hx hb=>by
  have ox:=ok x (aae hx);rcases fU ox.bad with hp|hc
  .rw[zH (mU hx) hp,Bool.not_not,(ox.pb hp).1];have:=(ox.pb hp).2;rw[hb] at this;revert this;cases dn (be z) i<;>cases x.p.d<;>simp
  rw[uD (mU hx) (by
   cases hp:x.k.aH
   .rfl
   rw[dL hp] at hc;cases hc),<- hb,ox.cb hc]
 intro i
 induction i with
 |zero=>
  intro x hx;have:x.i.b= !dn (be z) 0:=by rw[nl h hx,hs];rfl
  exact⟨this,step 0 x hx this⟩
 |succ i ih=>intro y hy;obtain⟨x,hx⟩:=ao (ls:=z) (k:=i) (by have:=(aai.1 hy).1;omega);have e:=(ih x hx).2;rw[Bt h hx hy] at e;exact⟨e,step (i+1) y hy e⟩
theorem Fx{ls:List Let}{f:Nat->Nat->Nat}(hf:∀g,g<F->f g (cg ls g)=f (g+1) 0):∀(d g k g' k':Nat),g'=g+d->g'<=F->k<=cg ls g->k'<=cg ls g'->bi ls g+k=bi ls g'+k'->f g k=f g' k':=by
 intro d
 induction d with
 |zero=>intro g k g' k' e _ _ _ h;rw[aco] at e;subst e;rw[show k=k' by omega]
 |succ d ih=>
  intro g k g' k' e hF hk hk' h;have hm:=eo (ls:=ls) (show g+1<=g' by omega);have hs:=cE ls g;have:k=cg ls g:=by omega
  subst this;rw[hf g (by omega)];exact ih (g+1) 0 g' k' (by omega) hF (aan _) hk' (by omega)
theorem ve{ls:List Let}{f:Nat->Nat->Nat}(hf:∀g,g<F->f g (cg ls g)=f (g+1) 0){g k g' k':Nat}(hg:g<=F)(hg':g'<=F)(hk:k<=cg ls g)(hk':k'<=cg ls g')(h:bi ls g+k=bi ls g'+k'):f g k=f g' k':=by
 rcases Nat.le_total g g' with c|c
 .exact Fx hf (g'-g) g k g' k' (by omega) hg' hk hk' h
 exact(Fx hf (g-g') g' k' g k (by omega) hg hk' hk h.symm).symm
def YG:a8:=⟨⟨fm,false⟩,⟨0,0,false⟩,⟨0,0,false⟩⟩
def Ay(z:List a8)(x:Nat):Nat:=
 if x<2*z.length then (if x%2=0 then (z.getD (x/2) YG).o.l else (z.getD (x/2) YG).o.r)
 else if x%2=0 then (z.getD ((ae (be z)).getD ((x-2*z.length)/2) 0) YG).up.l else (z.getD ((ae (be z)).getD ((x-2*z.length)/2) 0) YG).lo.l
theorem mA{z:List a8}{i:Nat}{x:a8}(h:z[i]?=some x):z.getD i YG=x:=by rw[aaC,h];rfl
section
variable {F:Nat} {z:List a8} {s:iZ}
theorem PT(h:eH s z s){v:Nat}{x:a8}(hx:z[v]?=some x)(g:Bool):Ay z (aI z.length v g)=if g then x.o.l else x.i.r:=by
 have hv:=(aai.1 hx).1;cases g with
 |true=>show Ay z (2*v)=_;unfold Ay;rw[if_pos (by omega),if_pos (by omega),show 2*v/2=v by omega,mA hx];rfl
 |false=>show Ay z (2*((v+z.length-1)%z.length)+1)=_;have hm:=aaN (v+z.length-1) (show 0<z.length by omega);obtain⟨y,hy⟩:=ao (ls:=z) hm;have e:=Fz h hy (by rw[ft hv];exact hx);unfold Ay;rw[if_pos (by omega),if_neg (by omega),show(2*((v+z.length-1)%z.length)+1)/2=(v+z.length-1)%z.length by omega,mA hy,e];rfl
theorem W8(h:eH s z s){v:Nat}{x:a8}(hx:z[v]?=some x)(g:Bool):Ay z (gJ z.length v g)=if g then x.i.l else x.o.r:=by
 have hv:=(aai.1 hx).1;cases g with
 |false=>show Ay z (2*v+1)=_;unfold Ay;rw[if_pos (by omega),if_neg (by omega),show(2*v+1)/2=v by omega,mA hx];rfl
 |true=>show Ay z (2*((v+z.length-1)%z.length))=_;have hm:=aaN (v+z.length-1) (show 0<z.length by omega);obtain⟨y,hy⟩:=ao (ls:=z) hm;have e:=Fz h hy (by rw[ft hv];exact hx);unfold Ay;rw[if_pos (by omega),if_pos (by omega),show(2*((v+z.length-1)%z.length))/2=(v+z.length-1)%z.length by omega,mA hy,e];rfl
theorem YT{k v:Nat}{x:a8}(ha:(ae (be z)).getD k 0=v)(hx:z[v]?=some x):Ay z (2*z.length+2*k)=x.up.l:=by unfold Ay;rw[if_neg (by omega),if_pos (by omega),show(2*z.length+2*k-2*z.length)/2=k by omega,ha,mA hx]
theorem YU{k v:Nat}{x:a8}(ha:(ae (be z)).getD k 0=v)(hx:z[v]?=some x):Ay z (2*z.length+2*k+1)=x.lo.l:=by unfold Ay;rw[if_neg (by omega),if_neg (by omega),show(2*z.length+2*k+1-2*z.length)/2=k by omega,ha,mA hx]
theorem Cz.JU{T B:Nat->Nat->Nat}{S:List Nat}(c:Cz F z T B S){i j:Nat}{x y:a8}(hx:z[i]?=some x)(hy:z[j]?=some y)(hij:i≠j):Xr x y/\Dr x y:=by
 obtain⟨hi,ex⟩:=aai.1 hx;obtain⟨hj,ey⟩:=aai.1 hy;subst ex ey;rcases Nat.lt_or_gt_of_ne hij with h|h
 .exact⟨adY.1 c.cr i j hi hj h,adY.1 c.rk i j hi hj h⟩
 exact⟨(adY.1 c.cr j i hj hi h).symm,(adY.1 c.rk j i hj hi h).symm⟩
theorem Cz.dX{T B:Nat->Nat->Nat}{S:List Nat}(c:Cz F z T B S){x:a8}(hx:x∈z)(hp:x.k.aH=true):lU F (be z) x.k:=by obtain⟨⟨⟨⟨g0,g1⟩,_⟩,_⟩,_⟩:=(dG hp).1 (c.ok x hx).bad;obtain⟨r0,r1⟩:=c.rr x hx hp;exact⟨g0,g1,r0,r1⟩
theorem Cz.dg{T B:Nat->Nat->Nat}{S:List Nat}(c:Cz F z T B S)(hl:z.length<=1000000):dS F (be z):=by
 refine⟨by rw[aau];exact hl,⟨fun l hl hp=>?_,fun i j l m hi hj pl pm e=>?_⟩,Nb c.ev (fun l hl hc=>?_) (fun i j l m hi hj cl cm e hij=>?_),fun l hl=>?_⟩
 .obtain⟨x,hx,rfl⟩:=aaF.1 hl;exact c.dX hx hp
 .obtain⟨x,hx,rfl⟩:=oJ hi;obtain⟨y,hy,rfl⟩:=oJ hj;refine Decidable.byContradiction fun hij=>?_;obtain⟨h1,h2⟩:=(yx (c.dX (aae hx) pl) (c.dX (aae hy) pm)).1 e;exact(c.JU hx hy hij).2 pl pm h1 h2
 .obtain⟨x,hx,rfl⟩:=aaF.1 hl;exact c.ids x hx hc
 .obtain⟨x,hx,rfl⟩:=oJ hi;obtain⟨y,hy,rfl⟩:=oJ hj;have:=(c.JU hx hy hij).1 cl cm e;refine⟨?_,this.sg⟩;rw[this.ov];cases y.k.over<;>simp
 obtain⟨x,hx,rfl⟩:=aaF.1 hl;exact fU (c.ok x hx).bad
theorem Cz.iV{T B:Nat->Nat->Nat}{S:List Nat}(c:Cz F z T B S):iV F (be z):=fun l hl hp=>by obtain⟨x,hx,rfl⟩:=aaF.1 hl;exact((dG hp).1 (c.ok x hx).bad).1.1.1
theorem Cz.US{T B:Nat->Nat->Nat}{S:List Nat}(c:Cz F z T B S)(hl:z.length<=1000000){k u v:Nat}{x y:a8}(hu:(ae (be z))[k]?=some u)(hv:(ae (be z))[(k+1)%(ae (be z)).length]?=some v)(hx:z[u]?=some x)(hy:z[v]?=some y):x.up.l=y.up.r/\x.lo.l=y.lo.r:=by
 have ok:=c.dg hl;have hk:=(aai.1 hu).1;obtain⟨l,l1,l2,l3⟩:=lz ok.ax hu;obtain⟨m,m1,m2,m3⟩:=lz ok.ax hv;rw[mU hx] at l1;cases l1;rw[mU hy] at m1;cases m1;have gx:=c.dX (aae hx) l2;have gy:=c.dX (aae hy) m2;have px:=c.pl x (aae hx) l2;have py:=c.pl y (aae hy) m2;obtain⟨x1,x2,x3,x4⟩:=gx;obtain⟨y1,y2,y3,y4⟩:=gy;have key:∀f:Nat->Nat->Nat,(∀g,g<F->f g (cg (be z) g)=f (g+1) 0)->f F (cg (be z) F)=f 0 0->f x.k.gate.toNat x.k.aag.toNat=f y.k.gate.toNat (y.k.aag.toNat-1):=by
  intro f hf hz;unfold cY at l3 m3;by_cases c1:k+1<(ae (be z)).length
  .rw[aa7 c1] at m3;exact ve hf (by omega) (by omega) (by omega) (by omega) (by omega)
  have hT:=Ar c.iV;have hs:=cE (be z) F;have:k+1=(ae (be z)).length:=by omega
  rw[this,acK] at m3;rw[ve hf (g:=x.k.gate.toNat) (k:=x.k.aag.toNat) (g':=F) (k':=cg (be z) F) (by omega) (aaj _) (by omega) (aaj _) (by omega),hz];exact ve hf (aan _) (by omega) (aan _) (by omega) (by show 0+0=_;omega)
 exact⟨by rw[px.et,py.wt];exact key T (fun g hg=>(c.gt g hg).1) c.gz.1,by rw[px.eb,py.wb];exact key B (fun g hg=>(c.gt g hg).2) c.gz.2⟩
theorem Cz.walk{T B:Nat->Nat->Nat}{S:List Nat}(c:Cz F z T B S)(hl:z.length<=1000000)(h:eH s z s)(hs:s.b=false)(hx:x<nD (be z)):Ay z (cq (be z) x)=Ay z x:=by
 have ok:=c.dg hl;have hn:(be z).length=z.length:=aau ..;have hN:nD (be z)=2*z.length+2*(ae (be z)).length:=by unfold nD;rw[hn]
 have hdn:=Dy c.ok h hs;by_cases c1:x<2*z.length
 .obtain⟨v,fw,hv,rfl⟩:∃v fw,v<z.length/\x=gJ z.length v fw:=⟨_,_,by
   split
   .exact aaN _ (by omega)
   omega,Er c1⟩
  obtain⟨e,he⟩:=ao (ls:=z) hv;have hle:=mU he;have oe:=c.ok e (aae he);rw[W8 h he];rcases fU oe.bad with hp|hc
  .have hd:dn (be z) v=e.p.d:=by
    have:=(hdn v e he).1;rw[(oe.pb hp).2] at this;revert this;cases e.p.d<;>cases dn (be z) v<;>simp
   obtain⟨a1,a2⟩:=Ai ok hle hp;have t:=xL hle hp fw;rw[hn] at t;rw[t,hd];by_cases c2:(e.p.d==fw)=true
   .rw[if_pos c2,YT a2 he];unfold a8.up;have:=eq_of_beq c2;subst this;cases e.p.d<;>rfl
   rw[if_neg c2];have hm:=aaN ((ae (be z)).idxOf v+(ae (be z)).length-1) (show 0<(ae (be z)).length by omega);obtain⟨u,hu⟩:=ao hm;obtain⟨l,u1,u2⟩:=dT.1 (aae hu);obtain⟨y,hy,rfl⟩:=oJ u1;have hv':(ae (be z))[(ae (be z)).idxOf v]?=some v:=by obtain⟨q,hq⟩:=ao a1;rw[aaC,hq] at a2;rw[hq];exact congrArg some a2
   have:=(c.US hl hu (by rw[ft a1];exact hv') hy he).2;rw[YU (by rw[aaC,hu];rfl) hy,this];unfold a8.lo;revert c2;cases e.p.d<;>cases fw<;>simp[pV]
  obtain⟨b1,m,hm,mc,mi,mo,ms⟩:=bt ok.cr hle hc;obtain⟨y,hy,rfl⟩:=oJ hm;have hne:v≠bN (be z) v:=by intro ee;rw[<- ee,hle] at hm;have:=abP hm;rw[<- this] at mo;revert mo;cases e.k.over<;>simp
  obtain⟨_,_,xa,xb,xc,xd⟩:=(c.JU he hy hne).1 hc mc mi.symm;have t:=mN hle hc fw;rw[hn] at t;rw[t,PT h hy];unfold gX at xa xb;cases hg:(e.k.over==(e.k.sign==1))<;>rw[hg] at xa xb<;>simp only[aaE,if_false,if_true] at xa xb<;>cases fw<;>simp_all
 have hk:(x-2*z.length)/2<(ae (be z)).length:=by omega
 obtain⟨u,hu⟩:=ao hk;obtain⟨l,u1,u2⟩:=dT.1 (aae hu);obtain⟨e,he,rfl⟩:=oJ u1;have hgu:(ae (be z)).getD ((x-2*z.length)/2) 0=u:=by rw[aaC,hu];rfl
 rcases acs x with hx2|hx2
 .have ex:x=2*z.length+2*((x-2*z.length)/2):=by omega
  have hm:=aaN ((x-2*z.length)/2+1) (show 0<(ae (be z)).length by omega);obtain⟨w,hw⟩:=ao hm;obtain⟨l,w1,w2⟩:=dT.1 (aae hw);obtain⟨y,hy,rfl⟩:=oJ w1;have hgw:(ae (be z)).getD (((x-2*z.length)/2+1)%(ae (be z)).length) 0=w:=by rw[aaC,hw];rfl
  have oy:=c.ok y (aae hy);have hd:dn (be z) w=y.p.d:=by have:=(hdn w y hy).1;rw[(oy.pb w2).2] at this;revert this;cases y.p.d<;>cases dn (be z) w<;>simp
  have t:=uV (ls:=be z) ((x-2*z.length)/2);rw[hn,<- ex] at t;rw[t,hgw,PT h hy,hd];have a:=(c.US hl hu hw he hy).1;have r:=YT hgu he;rw[<- ex] at r;rw[r,a];unfold a8.up;cases y.p.d<;>simp[pV]
 have ex:x=2*z.length+2*((x-2*z.length)/2)+1:=by omega
 have oy:=c.ok e (aae he);have hd:dn (be z) u=e.p.d:=by have:=(hdn u e he).1;rw[(oy.pb u2).2] at this;revert this;cases e.p.d<;>cases dn (be z) u<;>simp
 have t:=uW (ls:=be z) ((x-2*z.length)/2);rw[hn,<- ex] at t;rw[t,hgu,PT h he,hd];have r:=YU hgu he;rw[<- ex] at r;rw[r];unfold a8.lo;cases e.p.d<;>simp[pV]
theorem Cz.check{T B:Nat->Nat->Nat}{S:List Nat}(c:Cz F z T B S){x:a8}{r:List a8}(hz:z=x::r)(hp:x.k.aH=true)(hd:x.p.d=true)(hl:z.length<=400)(hcr:aA Let.aD (be z)<=200)(hF:F<=40):ay F (be z)=0:=by
 have ok:=c.dg (by omega);have hn:(be z).length=z.length:=aau ..;obtain⟨s,h⟩:=c.path;have hx0:z[0]?=some x:=by rw[hz];rfl
 have hs:s.b=false:=by rw[<- nl h hx0,((c.ok x (aae hx0)).pb hp).2,hd];rfl
 have aaP:0<z.length:=by rw[hz];simp
 have hdn:=Dy c.ok h hs;have hev:aA Let.aH (be z)%2=0:=by
  obtain⟨y,hy⟩:=ao (ls:=z) (k:=z.length-1) (by omega);have:=(hdn _ y hy).2;rw[Bu h hy,hs,show z.length-1+1=(be z).length by rw[hn];omega] at this;unfold dn at this;rw[abw] at this
  simpa using this
 have hnw:dU (be z)=aA Let.aH (be z)+aA Let.aD (be z)/2+2:=by
  obtain⟨b1,b2⟩:=Gr ok;have key:∀a∈S,∃d,Ay z d=a/\d<2*z.length:=fun a ha=>by
   obtain⟨y,hy,e⟩:=c.wit a ha;obtain⟨j,hj⟩:=abb hy;have hjl:=(aai.1 hj).1;rcases e with e|e
   .exact⟨2*j,by unfold Ay;rw[if_pos (by omega),if_pos (by omega),show 2*j/2=j by omega,mA hj,e],by omega⟩
   exact⟨2*j+1,by unfold Ay;rw[if_pos (by omega),if_neg (by omega),show(2*j+1)/2=j by omega,mA hj,e],by omega⟩
  obtain⟨M,m1,m2⟩:=wx (P:=fun a d=>Ay z d=a/\d<2*z.length) (f:=Ay z) (fun a d h=>h.1) key;have hN:nD (be z)=2*z.length+2*(ae (be z)).length:=by unfold nD;rw[hn]
  have:=NK (maps ok) (φ:=Ay z) (fun y hy=>c.walk (by omega) h hs hy) (reps:=M) (fun d hd=>by obtain⟨_,_,h⟩:=m2 d hd;omega) (by rw[m1];exact c.nd)
  have hM:M.length=S.length:=by rw[<- m1,aau]
  have hnum:=c.num;have:M.length<=dU (be z):=this;omega
 have hne:be z≠[]:=by intro e;rw[e] at hn;simp at hn;omega
 unfold ay;rw[if_neg (by rw[hn];omega),if_neg (by omega),if_neg hne,if_pos];unfold ib;have hrk:=(jD c.iV).2 ⟨ok.ax.dX,ok.ax.inj⟩;have ary:(be z).any (ch F)=false:=acW.2 fun l hl=>by obtain⟨y,hy,rfl⟩:=aaF.1 hl;rw[(c.ok y hy).bad];decide
 rw[mU hx0,j4.2 ⟨ary,hrk,ok.cr⟩,hnw,hev];have hk:(x.k.kind==1)=true:=hp;simp only[hk,beq_self_eq_true,acj]
theorem Cert.check{l:List Pc}(c:Cert F l)(hl:l.length<=400)(hcr:aA Let.aD (l.map Pc.l)<=200)(hF:F<=40):ay F (lf l)=0:=by
 obtain⟨w,T,B,S,x,r,hz,hp,hd,hls,hlen,cz⟩:=c.fin;have aaM:aA Let.aD (be w)=aA Let.aD (l.map Pc.l):=by
  rw[hls];have hf:(ij l).getD 0<=l.length:=by
   cases h:ij l with
   |none=>exact aan _
   |some f=>have:=ads h;simp at this;simp only[abv];omega
  unfold lf;rw[Dk hf];show List.countP _ _=List.countP _ _;rw[abq,acb,Nat.add_comm,<- acb,<- abq,abA]
 rw[<- hls];exact cz.check hz hp hd (by omega) (by omega) hF
end
def Mh(ls:List Let)(x:Nat):Nat:=CP (cP (cq ls) (nD ls)) x
def Bk(ls:List Let)(i:Nat):iZ:=⟨Mh ls (2*i),Mh ls (2*i+1),!dn ls (i+1)⟩
def hU(ls:List Let)(i:Nat):a8:=⟨⟨ls.getD i fm,r8 ls i⟩,Bk ls ((i+ls.length-1)%ls.length),Bk ls i⟩
def zF (ls:List Let):List a8:=(List.range ls.length).map (hU ls)
def TF (ls:List Let)(g k:Nat):Nat:=Mh ls (2*ls.length+2*((bi ls g+k+(ae ls).length-1)%(ae ls).length))
def BF (ls:List Let)(g k:Nat):Nat:=Mh ls (2*ls.length+2*((bi ls g+k+(ae ls).length-1)%(ae ls).length)+1)
theorem Hp(ls:List Let):(zF ls).map a8.p=pieces ls:=by unfold zF pieces;rw[ab3];rfl
theorem fq(ls:List Let):be (zF ls)=ls:=by
 have h:be (zF ls)=(pieces ls).map Pc.l:=by rw[<- Hp,ab3];rfl
 rw[h];apply adk;intro i;rw[aa0];by_cases hi:i<ls.length
 .obtain⟨l,hl⟩:=ao hi;rw[cZ hl,hl];rfl
 rw[abS (by rw[aB];omega),abS (by omega)];rfl
theorem uU(ls:List Let):(zF ls).length=ls.length:=by simp[zF]
theorem vS{ls:List Let}{i:Nat}(h:i<ls.length):(zF ls)[i]?=some (hU ls i):=by simp[zF,h]
theorem bk{ls:List Let}{i:Nat}{l:Let}(h:ls[i]?=some l):(hU ls i).k=l:=by show ls.getD i fm=l;rw[aaC,h];rfl
theorem Fy(f:Nat->a8)(e:Nat->iZ):∀k a,(∀i,a<=i->i<a+k->(f i).i=e i/\(f i).o=e (i+1))->eH (e a) ((List.range' a k).map f) (e (a+k)):=by
 intro k
 induction k with
 |zero=>intro a _;rfl
 |succ k ih=>intro a h;rw[List.range'_succ,aaK];obtain⟨h1,h2⟩:=h a (aaj _) (by omega);refine⟨h1,?_⟩;rw[h2,show a+(k+1)=a+1+k by omega];exact ih (a+1) fun i hi hk=>h i (by omega) (by omega)
theorem t7{R:a8->a8->Prop}{f:Nat->a8}{n:Nat}(h:∀i j,i<n->j<n->i≠j->R (f i) (f j)):((List.range n).map f).Pairwise R:=acr.2 (List.Pairwise.imp_of_mem (fun {a b} ha hb hab=>h a b (aaX.1 ha) (aaX.1 hb) hab) (ac9 (n:=n)))
section
variable {F:Nat} {ls:List Let}
theorem HX(g:cV F ls){i:Nat}{w:List Nat}(hi:(cP (cq ls) (nD ls))[i]?=some w)(hx:x∈w):Mh ls x=i:=tK (iQ _ _).1 hi hx
theorem WS(g:cV F ls)(hx:x<nD ls):∃w,(cP (cq ls) (nD ls))[Mh ls x]?=some w/\x∈w:=by obtain⟨u,hu,hxu⟩:=adf.1 ((iQ (cq ls) (nD ls)).2 x hx);obtain⟨i,hi⟩:=abb hu;rw[HX g hi hxu];exact⟨u,hi,hxu⟩
theorem jV(g:cV F ls)(hx:x<nD ls):Mh ls (cq ls x)=Mh ls x:=by obtain⟨w,hw,hxw⟩:=WS g hx;exact HX g hw (fI (maps g.ok) (aae hw) hxw)
theorem Dw(g:cV F ls){v:Nat}(hv:v<ls.length)(fw:Bool):Mh ls (gJ ls.length v fw)=if fw then (hU ls v).i.l else (hU ls v).o.r:=by cases fw<;>rfl
theorem Dx{v:Nat}(fw:Bool):Mh ls (aI ls.length v fw)=if fw then (hU ls v).o.l else (hU ls v).i.r:=by cases fw<;>rfl
theorem QO(g:cV F ls):dn ls ls.length=true:=by unfold dn;rw[abw];have:=g.even;simp[this]
theorem Xg(g:cV F ls){i:Nat}(hi:i<ls.length):(hU ls i).i.b= !dn ls i:=by
 show(!dn ls ((i+ls.length-1)%ls.length+1))=_;by_cases h:i=0
 .subst h;rw[abd,aa7 (by omega),show ls.length-1+1=ls.length by omega,QO g];rfl
 rw[show i+ls.length-1=(i-1)+ls.length by omega,acn,aa7 (by omega),show i-1+1=i by omega]
theorem vL{v:Nat}(hv:v<ls.length)(fw:Bool):gJ ls.length v fw<nD ls:=by have:=pM hv fw;unfold nD;omega
theorem KL(g:cV F ls){v:Nat}{l:Let}(hl:ls[v]?=some l)(hp:l.aH=true):(hU ls v).p.d=dn ls v:=by show r8 ls v=_;simp[r8,hl,hp]
theorem qT(g:cV F ls){i:Nat}(hi:i<ls.length):Pe F (hU ls i):=by
 obtain⟨l,hl⟩:=ao hi;have hk:=bk hl;refine⟨by rw[hk];exact g.bad l (aae hl),fun hc=>?_,fun hp=>?_⟩
 .rw[hk] at hc;rw[Xg g hi];show _= !dn ls (i+1);rw[uD hl (by
   cases hp:l.aH
   .rfl
   rw[dL hp] at hc;cases hc)]
 rw[hk] at hp;rw[Xg g hi,KL g hl hp];refine⟨?_,rfl⟩;show(!dn ls (i+1))=_;rw[zH hl hp,Bool.not_not]
theorem zE(g:cV F ls){i j:Nat}(hi:i<ls.length)(hj:j<ls.length)(hij:i≠j):Xr (hU ls i) (hU ls j):=by
 obtain⟨l,hl⟩:=ao hi;obtain⟨m,hm⟩:=ao hj;intro hc mc e;rw[bk hl] at hc e;rw[bk hm] at mc e;obtain⟨_,hp⟩:=g.ids;obtain⟨d1,d2⟩:=hp i j l m hl hm hc mc e hij;obtain⟨b1,w,hw,wc,wi,wo,ws⟩:=bt g.ok.cr hl hc;have hoj:bN ls i=j:=by refine Classical.byContradiction fun hne=>?_;have d3:=(hp _ _ w m hw hm wc mc (by rw[wi,e]) hne).1;rw[wo] at d3;revert d1 d3;cases l.over<;>cases m.over<;>simp
 refine⟨?_,by rw[bk hl,bk hm];exact d2,?_⟩
 .rw[bk hl,bk hm];revert d1;cases l.over<;>cases m.over<;>simp
 rw[bk hl];have t1:=jV g (vL hi true);have t2:=jV g (vL hi false);have t3:=jV g (vL hj true);have t4:=jV g (vL hj false);rw[mN hl hc,hoj,Dx,Dw g hi] at t1 t2;rw[mN hm mc,<- hoj,b1,hoj,Dx,Dw g hj] at t3 t4;have hg:(m.over==(m.sign==1))= !gX l:=by unfold gX;rw[<- d2];revert d1;cases l.over<;>cases m.over<;>cases (l.sign==1)<;>simp
 rw[hg] at t3 t4;have hg':(l.over==(l.sign==1))=gX l:=rfl;rw[hg'] at t1 t2;cases hgx:gX l<;>rw[hgx] at t1 t2 t3 t4<;>simp at t1 t2 t3 t4<;>constructor<;>simp[t1,t2,t3,t4]
theorem Eb(g:cV F ls){v:Nat}{l:Let}(hl:ls[v]?=some l)(hp:l.aH=true):WR (TF ls) (BF ls) (hU ls v):=by
 have hv:=(aai.1 hl).1;have ok:=g.ok;have gd:=ok.ax.dX l (aae hl) hp;obtain⟨g0,g1,r0,r1⟩:=gd;obtain⟨a1,a2⟩:=Ai ok hl hp;have ak0:=nN ok.ax hl hp;have hP:bi ls l.gate.toNat+l.aag.toNat=(ae ls).idxOf v+1:=by rw[ak0];unfold cY;omega
 have hPm:bi ls l.gate.toNat+(l.aag.toNat-1)=(ae ls).idxOf v:=by omega
 have eR:(bi ls l.gate.toNat+l.aag.toNat+(ae ls).length-1)%(ae ls).length=(ae ls).idxOf v:=by rw[hP,show(ae ls).idxOf v+1+(ae ls).length-1=(ae ls).idxOf v+(ae ls).length by omega,acn,aa7 a1]
 have hk:=bk hl;have hd:=KL g hl hp;have nR:∀k,k<(ae ls).length->2*ls.length+2*k<nD ls/\2*ls.length+2*k+1<nD ls:=fun k hk=>by unfold nD;omega
 have hm:=aaN ((ae ls).idxOf v+(ae ls).length-1) (show 0<(ae ls).length by omega);have q1:=jV g (vL hv (dn ls v));have q2:=jV g (vL hv (!dn ls v));have q3:=jV g (nR _ a1).2;have q4:=jV g (nR _ hm).1;rw[xL hl hp,Dw g hv] at q1 q2;rw[uW,a2,Dx] at q3;rw[uV,ft a1,a2,Dx] at q4;constructor
 .rw[hk];unfold TF;rw[hPm];unfold a8.up;rw[hd];cases hdn:dn ls v<;>rw[hdn] at q4<;>exact q4
 .rw[hk];unfold TF;rw[eR];unfold a8.up;rw[hd];cases hdn:dn ls v<;>rw[hdn] at q1<;>exact q1.symm
 .rw[hk];unfold BF;rw[hPm];unfold a8.lo;rw[hd];cases hdn:dn ls v<;>rw[hdn] at q2<;>exact q2.symm
 rw[hk];unfold BF;rw[eR];unfold a8.lo;rw[hd];cases hdn:dn ls v<;>rw[hdn] at q3<;>exact q3
theorem cV.cz(g:cV F ls):Cz F (zF ls) (TF ls) (BF ls) (List.range (dU ls)):=by
 have hn:0<ls.length:=abh.2 g.ne;have mem:∀x∈zF ls,∃i,i<ls.length/\x=hU ls i:=fun x hx=>by obtain⟨i,hi,rfl⟩:=aaF.1 hx;exact⟨i,aaX.1 hi,rfl⟩
 have hT:bi ls (F+1)=(ae ls).length:=Ar fun l hl hp=>((dG hp).1 (g.bad l hl)).1.1.1;have hs:=cE ls F;have hm:0<(ae ls).length:=by obtain⟨l,h1,h2⟩:=g.first;exact adR (dT.2 ⟨l,h1,h2⟩)
 have hcr:=g.ok.cr;unfold dK at hcr;simp only[aay,beq_iff_eq] at hcr;refine⟨⟨Bk ls (ls.length-1),?_⟩,fun x hx=>?_,t7 fun i j hi hj hij=>zE g hi hj hij,by rw[fq];exact hcr.1.1,fun x hx hc=>?_,t7 fun i j hi hj hij=>?_,fun x hx hp=>?_,fun x hx hp=>?_,
  fun k hk=>?_,?_,?_,ac9,fun s hs=>?_,?_⟩
 .have:=Fy (hU ls) (fun i=>Bk ls ((i+ls.length-1)%ls.length)) ls.length 0 fun i _ hi=>⟨rfl,?_⟩
  .simp only[abd] at this;rw[aa7 (by omega),show ls.length+ls.length-1=(ls.length-1)+ls.length by omega,acn,aa7 (by omega),<- List.range_eq_range'] at this;exact this
  show Bk ls i=Bk ls ((i+1+ls.length-1)%ls.length);rw[show i+1+ls.length-1=i+ls.length by omega,acn,aa7 (by omega)]
 .obtain⟨i,hi,rfl⟩:=mem x hx;exact qT g hi
 .obtain⟨i,hi,rfl⟩:=mem x hx;obtain⟨l,hl⟩:=ao hi;rw[bk hl] at hc ⊢;rw[fq];exact g.ids.1 l (aae hl) hc
 .obtain⟨l,hl⟩:=ao hi;obtain⟨m,hm⟩:=ao hj;intro pl pm e1 e2;rw[bk hl] at pl e1 e2;rw[bk hm] at pm e1 e2;exact hij (g.ok.ax.inj i j l m hl hm pl pm ((yx (g.ok.ax.dX l (aae hl) pl) (g.ok.ax.dX m (aae hm) pm)).2 ⟨e1,e2⟩))
 .obtain⟨i,hi,rfl⟩:=mem x hx;obtain⟨l,hl⟩:=ao hi;rw[bk hl] at hp ⊢;rw[fq];obtain⟨_,_,r0,r1⟩:=g.ok.ax.dX l (aae hl) hp;exact⟨r0,r1⟩
 .obtain⟨i,hi,rfl⟩:=mem x hx;obtain⟨l,hl⟩:=ao hi;rw[bk hl] at hp;exact Eb g hl hp
 .rw[fq];unfold TF BF;rw[cE ls k,aco];exact⟨rfl,rfl⟩
 .rw[fq];unfold TF BF;have e1:bi ls F+cg ls F=(ae ls).length:=by omega
  have e0:bi ls 0=0:=rfl;rw[e1,e0,abd,show(ae ls).length+(ae ls).length-1=((ae ls).length-1)+(ae ls).length by omega,acn];exact⟨rfl,rfl⟩
 .obtain⟨l,h1,h2⟩:=g.first;exact⟨hU ls 0,aae (vS hn),by rw[bk h1];exact h2⟩
 .obtain⟨w,hw⟩:=ao (aaX.1 hs);obtain⟨⟨d,t,e,hd⟩,_⟩:=jd g.ok w (aae hw);have hp:Mh ls d=s:=HX g hw (by rw[e];simp);refine⟨hU ls (d/2),aae (vS (by omega)),?_⟩;rcases acs d with h|h
  .refine .inl ?_;show s=Mh ls (2*(d/2));rw[show 2*(d/2)=d by omega,hp]
  refine .inr ?_;show s=Mh ls (2*(d/2)+1);rw[show 2*(d/2)+1=d by omega,hp]
 rw[fq,ac3,g.nw];omega
end
structure Cq (F:Nat) (z:List a8) (T B:Nat->Nat->Nat):Prop where
 ok:∀x∈z,Pe F x
 cr:z.Pairwise Xr
 ev:aA Let.aD (be z)%2=0
 ids:∀x∈z,x.k.aD=true->1<=x.k.id/\x.k.id<=((aA Let.aD (be z)/2:Nat):Int)
 rk:z.Pairwise Dr
 rr:∀x∈z,x.k.aH=true->1<=x.k.aag/\x.k.aag<=(cg (be z) x.k.gate.toNat:Int)
 pl:∀x∈z,x.k.aH=true->WR T B x
 gt:∀g,g<F->T g (cg (be z) g)=T (g+1) 0/\B g (cg (be z) g)=B (g+1) 0
 gz:T F (cg (be z) F)=T 0 0/\B F (cg (be z) F)=B 0 0
def iZ.mp(ψ:Nat->Nat)(s:iZ):iZ:=⟨ψ s.l,ψ s.r,s.b⟩
def a8.mp(ψ:Nat->Nat)(h:Let->Let)(x:a8):a8:=⟨⟨h x.p.l,x.p.d⟩,x.i.mp ψ,x.o.mp ψ⟩
theorem X4.mp{g:Bool}{i o j q:iZ}(h:X4 g i o j q)(ψ:Nat->Nat):X4 g (i.mp ψ) (o.mp ψ) (j.mp ψ) (q.mp ψ):=by obtain⟨a,b,c,d⟩:=h;cases g<;>simp only[aaE,if_false,if_true] at a b c d<;>constructor<;>simp[iZ.mp,a,b,c,d]
theorem Vs(ψ:Nat->Nat)(h:Let->Let)(x:a8):(x.mp ψ h).up=x.up.mp ψ:=by unfold a8.up a8.mp;cases x.p.d<;>rfl
theorem Vt(ψ:Nat->Nat)(h:Let->Let)(x:a8):(x.mp ψ h).lo=x.lo.mp ψ:=by unfold a8.lo a8.mp;cases x.p.d<;>rfl
theorem xh{ψ:Nat->Nat}{h:Let->Let}:∀ {z:List a8} {s t:iZ},eH s z t->eH (s.mp ψ) (z.map (a8.mp ψ h)) (t.mp ψ):=by
 intro z
 induction z with
 |nil=>intro s t e;cases e;rfl
 |cons x z ih=>intro s t e;obtain⟨rfl,e⟩:=e;exact⟨rfl,ih e⟩
theorem zw{S L:List Nat}(hn:S.Nodup):S.length<=(S.filter fun s=> !L.contains s).length+L.length:=by
 have h1:S.length=(S.filter fun s=> !L.contains s).length+(S.filter fun s=>L.contains s).length:=by have:=List.length_eq_countP_add_countP (fun s=> !L.contains s) (l:=S);rw[List.countP_eq_length_filter,List.countP_eq_length_filter] at this;rw[this];congr 2;apply List.filter_congr;intro x _;simp
 have h2:=rz (S.filter fun s=>L.contains s) L (hn.filter _) fun x hx=>by simpa using (ab4.1 hx).2
 omega
structure sV (h:Let->Let):Prop where
 kind:∀l,(h l).kind=l.kind
 over:∀l,(h l).over=l.over
 sign:∀l,(h l).sign=l.sign
theorem sV.aH{h:Let->Let}(s:sV h)(l:Let):(h l).aH=l.aH:=by unfold Let.aH;rw[s.kind]
theorem sV.aD{h:Let->Let}(s:sV h)(l:Let):(h l).aD=l.aD:=by unfold Let.aD;rw[s.kind]
theorem sV.id:sV id:=⟨fun _=>rfl,fun _=>rfl,fun _=>rfl⟩
section
variable {F:Nat} {X r X':List a8} {T B T' B':Nat->Nat->Nat} {S:List Nat} {ψ:Nat->Nat} {h:Let->Let}
theorem Cz.q{z:List a8}(c:Cz F z T B S):Cq F z T B:=⟨c.ok,c.cr,c.ev,c.ids,c.rk,c.rr,c.pl,c.gt,c.gz⟩
theorem Cq.perm{z z':List a8}(c:Cq F z T B)(hh:z.Perm z'):Cq F z' T B:=by
 have hm:∀ {x},x∈z'↔x∈z:=fun {x}=>hh.symm.mem_iff;have e:∀p,aA p (be z')=aA p (be z):=fun p=>(jl hh).symm;have eg:∀g,cg (be z') g=cg (be z) g:=fun g=>e _;exact⟨fun x hx=>c.ok x (hm.1 hx),(hh.pairwise_iff fun {x y}=>Xr.symm).1 c.cr,by rw[e];exact c.ev,fun x hx=>by rw[e];exact c.ids x (hm.1 hx),(hh.pairwise_iff fun {x y}=>Dr.symm).1 c.rk,
  fun x hx=>by rw[eg];exact c.rr x (hm.1 hx),fun x hx=>c.pl x (hm.1 hx),fun g hg=>by rw[eg];exact c.gt g hg,by rw[eg];exact c.gz⟩
theorem Pe.mp{x:a8}(o:Pe F x)(s:sV h)(hb:ch F (h x.k)=false):Pe F (x.mp ψ h):=by
 refine⟨hb,fun hc=>?_,fun hp=>?_⟩
 .exact o.cb (by rw[<- s.aD];exact hc)
 exact o.pb (by rw[<- s.aH];exact hp)
theorem Cq.edit(q:Cq F (X++r) T B)(s:sV h)(hb:∀x∈r,ch F (h x.k)=false)
  (hid:∀x∈r,∀y∈r,x.k.aD=true->y.k.aD=true->(h x.k).id=(h y.k).id->x.k.id=y.k.id)
  (hrk:∀x∈r,∀y∈r,x.k.aH=true->y.k.aH=true->(h x.k).gate=(h y.k).gate->(h x.k).aag=(h y.k).aag->x.k.gate=y.k.gate/\x.k.aag=y.k.aag)
  (n1:∀x∈X',Pe F x) (n2:X'.Pairwise Xr) (n3:X'.Pairwise Dr) (n4:∀x∈X',∀y∈r,Xr x (y.mp ψ h)) (n5:∀x∈X',∀y∈r,Dr x (y.mp ψ h))
  (ev:aA Let.aD (be (X'++r.map (a8.mp ψ h)))%2=0)
  (ids:∀x∈X',x.k.aD=true->1<=x.k.id/\x.k.id<=((aA Let.aD (be (X'++r.map (a8.mp ψ h)))/2:Nat):Int))
  (ap5:∀x∈r,x.k.aD=true->1<=(h x.k).id/\(h x.k).id<=((aA Let.aD (be (X'++r.map (a8.mp ψ h)))/2:Nat):Int))
  (rr:∀x∈X',x.k.aH=true->1<=x.k.aag/\x.k.aag<=(cg (be (X'++r.map (a8.mp ψ h))) x.k.gate.toNat:Int))
  (rr':∀x∈r,x.k.aH=true->1<=(h x.k).aag/\(h x.k).aag<=(cg (be (X'++r.map (a8.mp ψ h))) (h x.k).gate.toNat:Int))
  (pl:∀x∈X',x.k.aH=true->WR T' B' x)
  (pl':∀x∈r,x.k.aH=true->(ψ (T x.k.gate.toNat (x.k.aag.toNat-1))=T' (h x.k).gate.toNat ((h x.k).aag.toNat-1)/\ψ (B x.k.gate.toNat (x.k.aag.toNat-1))=B' (h x.k).gate.toNat ((h x.k).aag.toNat-1))/\ψ (T x.k.gate.toNat x.k.aag.toNat)=T' (h x.k).gate.toNat (h x.k).aag.toNat/\ψ (B x.k.gate.toNat x.k.aag.toNat)=B' (h x.k).gate.toNat (h x.k).aag.toNat)
  (gt:∀g,g<F->T' g (cg (be (X'++r.map (a8.mp ψ h))) g)=T' (g+1) 0/\B' g (cg (be (X'++r.map (a8.mp ψ h))) g)=B' (g+1) 0)
  (gz:T' F (cg (be (X'++r.map (a8.mp ψ h))) F)=T' 0 0/\B' F (cg (be (X'++r.map (a8.mp ψ h))) F)=B' 0 0):Cq F (X'++r.map (a8.mp ψ h)) T' B':=by
 have crr:=(adB.1 q.cr).2.1;have rkr:=(adB.1 q.rk).2.1;have mem:∀x∈X'++r.map (a8.mp ψ h),x∈X'\/ ∃y∈r,x=y.mp ψ h:=fun x hx=>by
  rcases aaR.1 hx with hx|hx
  .exact .inl hx
  obtain⟨y,hy,rfl⟩:=aaF.1 hx;exact .inr ⟨y,hy,rfl⟩
 have in':∀y∈r,y∈X++r:=fun y hy=>adl _ hy;refine⟨fun x hx=>?_,?_,ev,fun x hx hc=>?_,?_,fun x hx hp=>?_,fun x hx hp=>?_,gt,gz⟩
 .rcases mem x hx with hx|⟨y,hy,rfl⟩
  .exact n1 x hx
  exact(q.ok y (in' y hy)).mp s (hb y hy)
 .refine adB.2 ⟨n2,acr.2 (crr.imp_of_mem fun {x y} hx hy hxy hc hd e=>?_),fun x hx y hy=>?_⟩
  .have hc:x.k.aD=true:=by rw[<- s.aD];exact hc
   have hd:y.k.aD=true:=by rw[<- s.aD];exact hd
   obtain⟨h1,h2,h3⟩:=hxy hc hd (hid x hx y hy hc hd e);refine⟨?_,?_,?_⟩
   .show(h x.k).over= !(h y.k).over;rw[s.over,s.over];exact h1
   .show(h x.k).sign=(h y.k).sign;rw[s.sign,s.sign];exact h2
   have:gX (x.mp ψ h).k=gX x.k:=by show((h x.k).over==((h x.k).sign==1))=_;rw[s.over,s.sign];rfl
   rw[this];exact h3.mp ψ
  obtain⟨w,hw,rfl⟩:=aaF.1 hy;exact n4 x hx w hw
 .rcases mem x hx with hx|⟨y,hy,rfl⟩
  .exact ids x hx hc
  exact ap5 y hy (by rw[<- s.aD];exact hc)
 .refine adB.2 ⟨n3,acr.2 (rkr.imp_of_mem fun {x y} hx hy hxy hc hd e1 e2=>?_),fun x hx y hy=>?_⟩
  .have hc:x.k.aH=true:=by rw[<- s.aH];exact hc
   have hd:y.k.aH=true:=by rw[<- s.aH];exact hd
   obtain⟨f1,f2⟩:=hrk x hx y hy hc hd e1 e2;exact hxy hc hd f1 f2
  obtain⟨w,hw,rfl⟩:=aaF.1 hy;exact n5 x hx w hw
 .rcases mem x hx with hx|⟨y,hy,rfl⟩
  .exact rr x hx hp
  exact rr' y hy (by rw[<- s.aH];exact hp)
 rcases mem x hx with hx|⟨y,hy,rfl⟩
 .exact pl x hx hp
 have hp:y.k.aH=true:=by rw[<- s.aH];exact hp
 obtain⟨p1,p2,p3,p4⟩:=q.pl y (in' y hy) hp;obtain⟨⟨a1,a2⟩,a3,a4⟩:=pl' y hy hp;constructor
 .rw[Vs];show ψ y.up.r=_;rw[p1];exact a1
 .rw[Vs];show ψ y.up.l=_;rw[p2];exact a3
 .rw[Vt];show ψ y.lo.r=_;rw[p3];exact a2
 rw[Vt];show ψ y.lo.l=_;rw[p4];exact a4
theorem Cq.done{l:List Pc}{z':List a8}{L N:List Nat}{V:Nat}(q:Cq F (X'++r.map (a8.mp ψ h)) T' B')(hnd:S.Nodup)(wit:∀s∈S,∃x∈X++r,s=x.o.l\/s=x.o.r)
  (aaM:z'.Perm (X'++r.map (a8.mp ψ h))) (agF:∃s,eH s z' s) (hl:z'.map a8.p=l) (one:∃x∈X'++r.map (a8.mp ψ h),x.k.aH=true)
  (hψ:∀s∈S,s∉L->ψ s=s) (hX:∀x∈X,∀s∈S,(s=x.o.l\/s=x.o.r)->s∉L->∃y∈X'++r.map (a8.mp ψ h),s=y.o.l\/s=y.o.r)
  (hN:N.Nodup) (hNS:∀s∈N,s∉S) (hNw:∀s∈N,∃y∈X'++r.map (a8.mp ψ h),s=y.o.l\/s=y.o.r)
  (hS:V<=S.length) (num:aA Let.aH (be (X'++r.map (a8.mp ψ h)))+aA Let.aD (be (X'++r.map (a8.mp ψ h)))/2+1+L.length<=V+N.length):Cert F l:=by
 have qz:=q.perm aaM.symm;have hm:∀ {x},x∈z'↔x∈X'++r.map (a8.mp ψ h):=fun {x}=>aaM.mem_iff;refine⟨z',T',B',N++S.filter (fun s=> !L.contains s),hl,⟨agF,qz.ok,qz.cr,qz.ev,qz.ids,qz.rk,qz.rr,qz.pl,qz.gt,qz.gz,?_,?_,fun s hs=>?_,?_⟩⟩
 .obtain⟨x,hx,e⟩:=one;exact⟨x,hm.2 hx,e⟩
 .refine adi.2 ⟨hN,hnd.filter _,fun a ha b hb e=>?_⟩;subst e;exact hNS a ha (ab4.1 hb).1
 .have key:∃y∈X'++r.map (a8.mp ψ h),s=y.o.l\/s=y.o.r:=by
   rcases aaR.1 hs with hs|hs
   .exact hNw s hs
   obtain⟨h1,h2⟩:=ab4.1 hs;have h2:s∉L:=by simpa using h2
   obtain⟨x,hx,e⟩:=wit s h1;rcases aaR.1 hx with hx|hx
   .exact hX x hx s h1 e h2
   refine⟨x.mp ψ h,adl _ (aaF.2 ⟨x,hx,rfl⟩),?_⟩;have hp:=hψ s h1 h2;rcases e with e|e
   .left;show s=ψ x.o.l;rw[<- e,hp]
   right;show s=ψ x.o.r;rw[<- e,hp]
  obtain⟨y,hy,e⟩:=key;exact⟨y,hm.2 hy,e⟩
 have e:∀p,aA p (be z')=aA p (be (X'++r.map (a8.mp ψ h))):=fun p=>jl aaM;rw[e,e,aaY];have:=zw (L:=L) hnd;omega
end
theorem Ei(p:Let->Bool)(a b:List a8):aA p (be (a++b))=aA p (be a)+aA p (be b):=by show List.countP p (List.map _ _)=List.countP p (List.map _ _)+List.countP p (List.map _ _);rw[abq,acb]
theorem bR(p:Let->Bool)(x:a8)(b:List a8):aA p (be (x::b))=(if p x.k then 1 else 0)+aA p (be b):=by show List.countP p (List.map _ _)=_+List.countP p (List.map _ _);rw[aaK,acl,Nat.add_comm]
theorem Eh(p:Let->Bool):aA p (be [])=0:=rfl
theorem pI{p:Let->Bool}{ψ:Nat->Nat}{h:Let->Let}(hp:∀l,p (h l)=p l)(r:List a8):aA p (be (r.map (a8.mp ψ h)))=aA p (be r):=by
 induction r with
 |nil=>rfl
 |cons x r ih=>rw[aaK,bR,bR,ih];show(if p (h x.k) then 1 else 0)+_=_;rw[hp]
theorem CI{l:Let}(g:Nat)(h:l.aD=true):Aj g l=false:=by
 unfold Aj;cases hp:l.aH
 .rfl
 rw[dL hp] at h;cases h
theorem cF{l:Let}(h:l.aD=true):l.aH=false:=by
 cases hp:l.aH
 .rfl
 rw[dL hp] at h;cases h
theorem Ul{α:Type}{z:List α}{a:Nat}(ha:a<z.length)(h2:2<=z.length):∃x y r,z.drop a++z.take a=x::y::r/\z[a]?=some x/\z[(a+1)%z.length]?=some y:=by
 obtain⟨x,hx⟩:=ao ha;obtain⟨hl,e⟩:=aai.1 hx;have hd:z.drop a=x::z.drop (a+1):=by rw[<- e,abY]
 by_cases c:a+1<z.length
 .obtain⟨y,hy⟩:=ao c;obtain⟨hl2,e2⟩:=aai.1 hy;have hd2:z.drop (a+1)=y::z.drop (a+1+1):=by rw[<- e2,abY]
  exact⟨x,y,z.drop (a+1+1)++z.take a,by rw[hd,hd2];rfl,hx,by rw[aa7 c];exact hy⟩
 have ea:a+1=z.length:=by omega
 obtain⟨y,hy⟩:=ao (ls:=z) (k:=0) (by omega);have hd2:z.drop (a+1)=[]:=List.drop_eq_nil_of_le (by omega);have ht:z.take a=y::(z.take a).drop 1:=by
  have h0:(z.take a)[0]?=some y:=by rw[aby,if_pos (by omega)];exact hy
  obtain⟨hl3,e3⟩:=aai.1 h0;have:=abY (h:=hl3);rw[e3,List.drop_zero] at this;exact this.symm
 refine⟨x,y,(z.take a).drop 1,?_,hx,by rw[ea,acK];exact hy⟩;rw[hd,hd2]
 conv=>lhs;rw[ht]
 rfl
section
variable {F:Nat} {ls:List Let}
theorem NC{l:Let}(h:l.aD=true):(if Let.aD l=true then 1 else 0)=1/\(if Let.aH l=true then 1 else 0)=0:=by simp[h,cF h]
theorem ifP{l:Let}(h:l.aH=true):(if Let.aD l=true then 1 else 0)=0/\(if Let.aH l=true then 1 else 0)=1:=by simp[h,dL h]
end
def fv(ids:List Int)(l:Let):Let:=if l.kind==2 then {l with id:=l.id-((ids.take ids.length).countP (fun i=>decide (i<l.id)):Nat)} else l
theorem fX(ids:List Int):sV (fv ids):=by refine⟨fun l=>?_,fun l=>?_,fun l=>?_⟩<;>unfold fv<;>split<;>rfl
theorem Pz(ids:List Int)(p:Pc):pY ids p=⟨fv ids p.l,p.d⟩:=by unfold pY fv iC;split<;>rfl
theorem mV{ids:List Int}{l:Let}(h:l.aH=true):fv ids l=l:=by unfold fv;have:=dL h;unfold Let.aD at this;rw[if_neg (by rw[this];decide)]
theorem FO{ids:List Int}{l:Let}(h:ch F l=false):ch F (fv ids l)=false:=by
 rcases fU h with hp|hc
 .rw[mV hp];exact h
 have hc':(fv ids l).aD=true:=by rw[(fX ids).aD];exact hc
 rw[uf hc] at h;rw[uf hc'];unfold fv;split<;>exact h
theorem FP(ids:List Int)(g:Nat)(l:Let):Aj g (fv ids l)=Aj g l:=by
 cases hp:l.aH
 .unfold Aj;rw[(fX ids).aH,hp];rfl
 rw[mV hp]
theorem Kk{ids:List Int}{l:Let}(h:l.aD=true):(fv ids l).id=l.id-((ids.countP fun i=>decide (i<l.id):Nat):Int):=by unfold fv;unfold Let.aD at h;rw[if_pos h,abw]
theorem wy{l:List Pc}{drop:Nat->Pc->Bool}{d:Pc->Bool}(h:∀i p,drop i p=d p):iD l drop=l.filter fun p=> !d p:=by
 have key:∀k,k<=l.length->kS l drop k=(l.take k).filter fun p=> !d p:=by
  intro k
  induction k with
  |zero=>intro _;rfl
  |succ k ih=>
   intro hk;obtain⟨p,hp⟩:=ao (ls:=l) (k:=k) (by omega);rw[abM,hp,List.filter_append,<- ih (by omega)];cases hd:d p
   .rw[jG hp (by rw[h];exact hd)];simp[hd]
   rw[fh hp (by rw[h];exact hd)];simp[hd]
 unfold iD;rw[key _ (aaj _),abw]
theorem oD:∀ {z:List a8} {s t:iZ},eH s z t->z≠[]->∃w∈z,w.o=t:=by
 intro z
 induction z with
 |nil=>intro s t _ h;exact absurd rfl h
 |cons x z ih=>
  intro s t h _;obtain⟨_,h⟩:=h;cases z with
  |nil=>cases h;exact⟨x,by simp,rfl⟩
  |cons y z=>obtain⟨w,hw,e⟩:=ih h (by simp);exact⟨w,acI _ hw,e⟩
section
variable {F:Nat} {ls:List Let}
theorem Pj{x y:a8}{r:List a8}{T B:Nat->Nat->Nat}(q:Cq F (x::y::r) T B)(cx:x.k.aD=true)(cy:y.k.aD=true)(e:x.k.id=y.k.id):∀w∈r,w.k.aD=true->w.k.id≠x.k.id:=by intro w hw cw ew;obtain⟨p1,p2⟩:=ab0.1 q.cr;obtain⟨p3,_⟩:=ab0.1 p2;have a:=(p1 y (by simp) cx cy e).ov;have b:=(p1 w (by simp[hw]) cx cw ew.symm).ov;have d:=(p3 w hw cy cw (by rw[<- e,ew])).ov;rw[b] at a;rw[d] at a;revert a;cases w.k.over<;>simp
theorem Hq(g:cV F ls){a:Nat}(ha:a<ls.length):∃x y r s,(zF ls).drop a++(zF ls).take a=x::y::r/\(pieces ls)[a]?=some x.p/\(pieces ls)[nx ls a]?=some y.p/\
  Cz F (x::y::r) (TF ls) (BF ls) (List.range (dU ls))/\eH s (x::y::r) s/\(pieces ls).drop a++(pieces ls).take a=(x::y::r).map a8.p/\(zF ls)[a]?=some x/\(zF ls)[nx ls a]?=some y/\(x::y::r).Perm (zF ls):=by
 have h2:2<=ls.length:=by obtain⟨l,h1,hp⟩:=g.first;have:=g.even;have:0<aA Let.aH ls:=acJ.2 ⟨l,aae h1,hp⟩;have:=kI Let.aH ls;omega
 have hl:=uU ls;obtain⟨x,y,r,e,hx,hy⟩:=Ul (z:=zF ls) (a:=a) (by omega) (by omega);rw[hl] at hy;have c:Cz F ((zF ls).drop a++(zF ls).take a) (TF ls) (BF ls) (List.range (dU ls)):=by refine Cz.tV ?_;rw[abA];exact g.cz
 rw[e] at c;obtain⟨s,hs⟩:=c.path;refine⟨x,y,r,s,e,?_,?_,c,hs,?_,hx,hy,?_⟩
 .rw[<- Hp,aa0,hx];rfl
 .rw[<- Hp,aa0,hy];rfl
 .rw[<- e,abq,List.map_drop,List.map_take,Hp]
 rw[<- e];exact List.perm_append_comm.trans (by rw[abA])
theorem Gz{a:Nat}{d:Pc->Bool}{f:Pc->Pc}(c:Cert F ((((pieces ls).drop a++(pieces ls).take a).filter d).map f)):Cert F (((pieces ls).filter d).map f):=by rw[List.filter_append,abq] at c;have:=c.tV;rwa[<- abq,<- List.filter_append,abA] at this
theorem FY{l:Let}:l.aD=(l.kind==2):=rfl
theorem filter_all{α:Type}{l:List α}{p:α->Bool}(h:∀x∈l,p x=true):l.filter p=l:=List.filter_eq_self.2 h
theorem ZT(g:cV F ls){a:Nat}(ha:a<ls.length){L:List Pc}(h:Sl ls a=some L):Cert F L:=by
 obtain⟨x,y,r,s,e,hx,hy,c,hp,afE,_,_,aaM⟩:=Hq g ha;have q:=c.q;unfold Sl at h;have e1:(pieces ls).getD a ⟨fm,false⟩=x.p:=by rw[aaC,hx];rfl
 have e2:(pieces ls).getD ((a+1)%ls.length) ⟨fm,false⟩=y.p:=by rw[aaC,hy];rfl
 simp only[e1,e2] at h;split at h
 case isFalse=>cases h
 rename_i hc;simp only[aay,beq_iff_eq] at hc;obtain⟨hc1,hc2,hid⟩:=hc;have cx:x.k.aD=true:=by rw[FY];simp[hc1]
 have cy:y.k.aD=true:=by rw[FY];simp[hc2]
 have abR:x.k.id=y.k.id:=hid;cases h;have adt:=Pj q cx cy abR;have hxy:Xc x y:=(ab0.1 q.cr).1 y (by simp) cx cy abR;obtain⟨hs1,hs2,hpr⟩:=hp
 -- both ends of the kink look alike
 have ix:=(q.ok x (by simp)).cb cx;have iy:=(q.ok y (by simp)).cb cy;have hk:=hxy.x4;rw[hs1,hs2] at hk;rw[hs1] at ix;rw[hs2] at iy;have hyo:y.o=s:=by
  obtain⟨k1,k2,k3,k4⟩:=hk;have hb:y.o.b=s.b:=by rw[<- iy,<- ix]
  cases y with
  |mk yp yi yo=>
  cases yo with
  |mk l r b=>
  cases s with
  |mk sl sr sb=>
  cases hg:gX x.k<;>rw[hg] at k1 k2 k3 k4<;>simp only[aaE,if_false,if_true] at k1 k2 k3 k4 hb<;>simp_all
 rw[hyo] at hpr;have agQ:∃b,(s.r=b\/s.l=b)/\ ∀t,(t=x.o.l\/t=x.o.r)->t=s.l\/t=s.r\/t=(if gX x.k then x.o.r else x.o.l):=by
  obtain⟨k1,k2,k3,k4⟩:=hk;refine⟨s.r,.inl rfl,?_⟩;cases hg:gX x.k<;>rw[hg] at k1 k2 k3 k4<;>simp only[aaE,if_false,if_true] at k1 k2 k3 k4 ⊢
  .rintro t (rfl|rfl)
   .exact .inr (.inr rfl)
   exact .inl k1.symm
  rintro t (rfl|rfl)
  .exact .inr (.inl k3)
  exact .inr (.inr rfl)
 obtain⟨_,_,agQ⟩:=agQ;have hev:=q.ev;have hcC:∀z:List a8,aA Let.aD (be (x::y::z))=aA Let.aD (be z)+2:=fun z=>by rw[bR,bR,(NC cx).1,(NC cy).1];omega
 have hcP:∀z:List a8,aA Let.aH (be (x::y::z))=aA Let.aH (be z):=fun z=>by rw[bR,bR,(NC cx).2,(NC cy).2];omega
 have hcG:∀(z:List a8) k,cg (be (x::y::z)) k=cg (be z) k:=fun z k=>by show aA _ _=aA _ _;rw[bR,bR,CI k cx,CI k cy];simp
 have mC:aA Let.aD (be (r.map (a8.mp id (fv [x.k.id]))))=aA Let.aD (be r):=pI (fun l=>(fX _).aD l) r;have mP:aA Let.aH (be (r.map (a8.mp id (fv [x.k.id]))))=aA Let.aH (be r):=pI (fun l=>(fX _).aH l) r;have mG:∀k,cg (be (r.map (a8.mp id (fv [x.k.id])))) k=cg (be r) k:=fun k=>pI (fun l=>FP _ k l) r;have lowid:∀w∈r,w.k.aD=true->(fv [x.k.id] w.k).id=if x.k.id<w.k.id then w.k.id-1 else w.k.id:=fun w hw hc=>by
  rw[Kk hc];by_cases c:x.k.id<w.k.id
  .simp[c]
  simp[c]
 have afK:∀w∈x::y::r,w.k.aD=true->1<=w.k.id/\w.k.id<=((aA Let.aD (be r)/2:Nat):Int)+1:=fun w hw hc=>by have:=q.ids w hw hc;rw[hcC] at this;omega
 have hr:r≠[]:=by
  obtain⟨w,hw,hwp⟩:=c.one;rintro rfl
  simp only[aat,aa9,or_false] at hw;rcases hw with rfl|rfl
  .rw[cF cx] at hwp;cases hwp
  rw[cF cy] at hwp;cases hwp
 have inr:∀w∈r,w∈x::y::r:=fun w hw=>by simp[hw]
 have qn:Cq F ([]++r.map (a8.mp id (fv [x.k.id]))) (TF ls) (BF ls):=by
  refine Cq.edit (X:=[x,y]) (r:=r) q (fX _) (fun w hw=>FO (q.ok w (inr w hw)).bad) (fun u hu v hv cu cv e=>?_) (fun u hu v hv pu pv e1 e2=>?_) (fun _ h=>by cases h) List.Pairwise.nil List.Pairwise.nil (fun _ h=>by cases h) (fun _ h=>by cases h) ?_ (fun _ h=>by cases h) (fun u hu cu=>?_) (fun _ h=>by cases h) (fun u hu pu=>?_) (fun _ h=>by cases h) (fun u hu pu=>?_) (fun k hk=>?_) ?_
  .have h1:=adt u hu cu;have h2:=adt v hv cv;rw[lowid u hu cu,lowid v hv cv] at e;split at e<;>split at e<;>omega
  .rw[mV pu,mV pv] at e1 e2;exact⟨e1,e2⟩
  .rw[aaZ,mC];rw[hcC] at hev;omega
  .rw[aaZ,mC,lowid u hu cu];have h1:=afK u (inr u hu) cu;have h2:=adt u hu cu;have h3:=afK x (by simp) cx;split<;>omega
  .rw[aaZ,mV pu,mG,<- hcG r];exact q.rr u (inr u hu) pu
  .rw[mV pu];exact⟨⟨rfl,rfl⟩,rfl,rfl⟩
  .rw[aaZ,mG,<- hcG r];exact q.gt k hk
  rw[aaZ,mG,<- hcG r];exact q.gz
 have aek:Cert F (r.map fun w=>pY [x.k.id] w.p):=by
  refine Cq.done (X:=[x,y]) (r:=r) (X':=[]) (L:=[if gX x.k then x.o.r else x.o.l]) (N:=[]) (V:=dU ls) (z':=r.map (a8.mp id (fv [x.k.id]))) qn c.nd (fun t ht=>c.wit t ht) (List.Perm.refl _) ⟨s,xh (ψ:=id) hpr⟩ ?_ ?_ (fun _ _ _=>rfl) (fun w hw t ht ew hL=>?_) ach (fun t ht=>by cases ht) (fun t ht=>by cases ht) (by rw[ac3];exact aaj _) ?_
  .rw[ab3];refine ac2 fun w _=>?_;rw[Pz];rfl
  .obtain⟨w,hw,hwp⟩:=c.one;simp only[aat] at hw;rcases hw with rfl|rfl|hw
   .rw[cF cx] at hwp;cases hwp
   .rw[cF cy] at hwp;cases hwp
   refine⟨w.mp id (fv [x.k.id]),?_,?_⟩
   .rw[aaZ];exact aaF.2 ⟨w,hw,rfl⟩
   show(fv [x.k.id] w.k).aH=true;rw[(fX _).aH];exact hwp
  .obtain⟨v,hv,hvo⟩:=oD hpr hr;have key:t=s.l\/t=s.r:=by
    simp only[aat,aa9,or_false] at hw hL;rcases hw with rfl|rfl
    .rcases agQ t ew with h|h|h
     .exact .inl h
     .exact .inr h
     exact absurd h hL
    rw[hyo] at ew;exact ew
   refine⟨v.mp id (fv [x.k.id]),by rw[aaZ];exact aaF.2 ⟨v,hv,rfl⟩,?_⟩;show t=id v.o.l\/t=id v.o.r;rw[hvo];exact key
  rw[aaZ,mC,mP];have h1:=g.nw;have h2:aA Let.aD (be (x::y::r))=aA Let.aD ls:=by rw[jl aaM,fq]
  have h3:aA Let.aH (be (x::y::r))=aA Let.aH ls:=by rw[jl aaM,fq]
  rw[hcC] at h2;rw[hcP] at h3;simp only[aaL,aaz];omega
 show Cert F ((iD (pieces ls) (lY [x.k.id])).map (pY [x.k.id]));rw[wy (l:=pieces ls) (drop:=lY [x.k.id]) (d:=fun p=>(p.l.kind==2)&&[x.k.id].contains p.l.id) fun _ _=>rfl];refine Gz (a:=a) ?_;rw[afE];have hf:((x::y::r).map a8.p).filter (fun p=> !((p.l.kind==2)&&[x.k.id].contains p.l.id))=r.map a8.p:=by
  rw[aaK,aaK,List.filter_cons_of_neg (by simp[hc1]),List.filter_cons_of_neg (by simp[hc2,hid])];refine filter_all fun p hp=>?_;obtain⟨w,hw,rfl⟩:=aaF.1 hp;cases hk:(w.p.l.kind==2)
  .rfl
  have:=adt w hw hk;simp[this]
 rw[hf,ab3];exact aek
end
end
end Go.Abs
