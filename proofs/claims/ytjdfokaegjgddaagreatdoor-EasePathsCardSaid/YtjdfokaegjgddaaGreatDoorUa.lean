/-
  Certificates: names of faces at each letter show that a code is valid.
-/
import Derived.Test.YtjdfokaegjgddaaGreatDoorVe
set_option linter.all false
set_option maxHeartbeats 16000000
namespace Go.Abs
section
variable{F v x:Nat}
theorem X7{R:Nat->Nat->Prop}{n:Nat}{L:List Nat}(h:∀x,x<n->∃r∈L,cT R x r):K (cT R) n<=L.length:=by
 have key:∀M:List Nat,M.Nodup->(∀x∈M,x<n/\ld (cT R) x)->∃N:List Nat,N.length=M.length/\N.Nodup/\ ∀r∈N,r∈L/\ ∃x∈M,cT R x r:=by
  intro M
  induction M with
  |nil=>intro _ _;exact⟨[],rfl,abr,by simp⟩
  |cons a M ih=>
   intro hn hm;obtain⟨n1,n2⟩:=abk.1 hn;obtain⟨N,l1,l2,l3⟩:=ih n2 fun x hx=>hm x (by simp[hx]);obtain⟨ha,la⟩:=hm a (by simp);obtain⟨r,hr,e⟩:=h a ha;refine⟨r::N,by simp[l1],abk.2 ⟨fun hN=>?_,l2⟩,fun q hq=>?_⟩
   .obtain⟨_,x,hx,ex⟩:=l3 r hN;have e1:=la x (e.trans ex.symm);have e2:=(hm x (by simp[hx])).2 a (ex.trans e.symm);have:a=x:=by omega
    exact n1 (this▸hx)
   rcases aag.1 hq with rfl|hq
   .exact⟨hr,a,by simp,e⟩
   obtain⟨q1,x,hx,ex⟩:=l3 q hq;exact⟨q1,x,by simp[hx],ex⟩
 obtain⟨N,l1,l2,l3⟩:=key ((List.range n).filter (QZ (cT R))) (ac6.filter _) fun x hx=>by obtain⟨h1,h2⟩:=abD.1 hx;exact⟨aav.1 h1,rG.1 h2⟩
 unfold K;rw[List.countP_eq_length_filter,<- l1];exact rh _ _ l2 fun r hr=>(l3 r hr).1
theorem Dv(p:Nat->Nat)(x:Nat):∀i j,it p (i+j) x=it p i (it p j x):=by
 intro i j
 induction i with
 |zero=>rw[aa0];rfl
 |succ i ih=>rw[show i+1+j=(i+j)+1 by omega];show p (it p (i+j) x)=p (it p i (it p j x));rw[ih]
theorem VH{p:Nat->Nat}{m:Nat}(h:it p m x=x):∀k,it p (k*m) x=x:=by
 intro k
 induction k with
 |zero=>rw[acv];rfl
 |succ k ih=>rw[Nat.succ_mul,Dv,h,ih]
theorem WR{n:Nat}{p:Nat->Nat}(h:Perm n p){a b:Nat}(e:cT (gr n p) a b):a=b\/(a<n/\b<n/\ ∃k,it p k a=b):=by
 induction e with
 | @rel a b r=>obtain⟨ha,rfl⟩:=r;exact .inr ⟨ha,h.lt _ ha,1,rfl⟩
 |refl _=>exact .inl rfl
 | @symm a b _ ih=>
  rcases ih with rfl|⟨ha,hb,k,hk⟩
  .exact .inl rfl
  obtain⟨m,hm⟩:=h.UJ ha;refine .inr ⟨hb,ha,k*m,?_⟩;rw[<- hk,<- Dv,show k*m+k=k*(m+1) by rw[Nat.mul_succ]];exact VH hm k
 |trans _ _ i1 i2=>
  rcases i1 with rfl|⟨ha,hb,k,hk⟩
  .exact i2
  rcases i2 with rfl|⟨_,hc,j,hj⟩
  .exact .inr ⟨ha,hb,k,hk⟩
  exact .inr ⟨ha,hc,j+k,by rw[Dv,hk,hj]⟩
theorem Rf{n:Nat}{p:Nat->Nat}(h:Perm n p){a b:Nat}(Zv:a≠b)(e:cT (gr n p) a b):¬cT (gr n (tr p (a,b))) a b:=by
 rcases WR h e with he|⟨ha,hb,k0,hk0⟩
 .exact absurd he Zv
 obtain⟨k,hk,ak8⟩:=uD (p:=fun k=>it p k a=b) k0 hk0;have k1:1<=k:=by
  rcases Nat.eq_zero_or_pos k with rfl|h
  .exact absurd hk Zv
  exact h
 have na:∀j,1<=j->j<=k->it p j a≠a:=fun j j1 j2 ej=>by
  rcases Nat.lt_or_eq_of_le j2 with c|rfl
  .have:it p (k-j) a=b:=by
    rw[<- hk,show k=(k-j)+j by omega,Dv,ej];congr 1;omega
   have:=ak8 _ this;omega
  exact Zv (ej.symm.trans hk)
 have nb:∀j,j<k->it p j a≠b:=fun j j1 ej=>by have:=ak8 j ej;omega
 intro e2;have inv:∀x y,gr n (tr p (a,b)) x y->(∃j,1<=j/\j<=k/\x=it p j a)=(∃j,1<=j/\j<=k/\y=it p j a):=by
  rintro x y ⟨hx,rfl⟩
  apply propext;unfold tr;simp only;constructor
  .rintro ⟨j,j1,j2,rfl⟩
   rw[if_neg (na j j1 j2)];by_cases c:it p j a=b
   .rw[if_pos c];exact⟨1,by omega,k1,rfl⟩
   rw[if_neg c];refine⟨j+1,by omega,?_,rfl⟩;rcases Nat.lt_or_eq_of_le j2 with d|rfl
   .exact d
   exact absurd hk c
  by_cases c:x=a
  .rw[if_pos c];rintro ⟨j,j1,j2,ej⟩
   exfalso;have:=h.inj _ _ hb (h.zb ha (j-1)) (by rw[ej,show j=(j-1)+1 by omega];rfl);by_cases d:j=1
   .subst d;exact Zv this.symm
   exact nb (j-1) (by omega) this.symm
  rw[if_neg c];by_cases d:x=b
  .subst d;intro _;exact⟨k,k1,aad _,hk.symm⟩
  rw[if_neg d];rintro ⟨j,j1,j2,ej⟩
  have:=h.inj _ _ hx (h.zb ha (j-1)) (by rw[ej,show j=(j-1)+1 by omega];rfl);by_cases f:j=1
  .subst f;exact absurd this c
  exact⟨j-1,by omega,by omega,this⟩
 have:=e2.inv inv;have hb':∃j,1<=j/\j<=k/\b=it p j a:=⟨k,k1,aad _,hk.symm⟩;rw[<- this] at hb';obtain⟨j,j1,j2,ej⟩:=hb';exact na j j1 j2 ej.symm
theorem K_tr{n:Nat}{p:Nat->Nat}(h:Perm n p){a b:Nat}(ha:a<n)(hb:b<n)(Zv:a≠b):(K (cT (gr n (tr p (a,b)))) n+K (cT (gr n p)) n)%2=1:=by
 have one:∀x y,cT (pJ (gr n (tr p (a,b))) a b) x y↔cT (pJ (gr n p) a b) x y:=fun x y=>by have h:=I5 (p:=p) (S:=fun _ _=>False) ha hb (x:=x) (y:=y);have e:∀q:Nat->Nat,(fun x y=>gr n q x y\/False)=gr n q:=fun q=>funext fun x=>funext fun y=>propext (by simp);rw[e,e] at h;exact h
 have kj:K (cT (pJ (gr n (tr p (a,b))) a b)) n=K (cT (pJ (gr n p) a b)) n:=r5 one n;rcases Classical.em (cT (gr n p) a b) with c|c
 .have k1:=Jc c n;have k2:=Jd ha hb (Rf h Zv c);omega
 have k1:=Jd ha hb c;have k2:=Jc (Jk h ha hb c) n;omega
theorem X3{n:Nat}:∀(ts:List (Nat×Nat)) (p:Nat->Nat),Perm n p->(∀t∈ts,t.1<n/\t.2<n/\t.1≠t.2)->(K (cT (gr n (ts.foldl tr p))) n+K (cT (gr n p)) n+ts.length)%2=0:=by
 intro ts
 induction ts with
 |nil=>intro p _ _;simp only[List.foldl_nil,aaA];omega
 |cons t ts ih=>
  intro p hp ht;obtain⟨a,b⟩:=t;obtain⟨ha,hb,Zv⟩:=ht (a,b) (by simp)
  replace ha:a<n:=ha
  replace hb:b<n:=hb
  replace Zv:a≠b:=Zv
  have e1:=ih (tr p (a,b)) (hp.tr ha hb) fun t h=>ht t (by simp[h]);have e2:(K (cT (gr n (tr p (a,b)))) n+K (cT (gr n p)) n)%2=1:=K_tr hp ha hb Zv;simp only[ab3,aas];omega
def t6(ls:List Let)(x:Nat):Nat:=bU ls (rv x)
def Jj(k:Nat):List (Nat×Nat):=(List.range k).map fun e=>(2*e,2*e+1)
theorem Nq(q:Nat->Nat):∀k y,(Jj k).foldl tr q y=if y<2*k then q (rv y) else q y:=by
 intro k
 induction k with
 |zero=>intro y;rw[if_neg (by omega)];rfl
 |succ k ih=>
  intro y;have e:Jj (k+1)=Jj k++[(2*k,2*k+1)]:=by unfold Jj;rw[abZ,aaN];rfl
  rw[e,adp,ab3,List.foldl_nil,A8];by_cases c1:y=2*k
  .subst c1;rw[if_pos rfl,ih,if_neg (by omega),if_pos (by omega),ER]
  rw[if_neg c1];by_cases c2:y=2*k+1
  .subst c2;rw[if_pos rfl,ih,if_neg (by omega),if_pos (by omega),N6]
  rw[if_neg c2,ih];by_cases c3:y<2*k
  .rw[if_pos c3,if_pos (by omega)]
  rw[if_neg c3,if_neg (by omega)]
theorem cT.push{R R':Nat->Nat->Prop}{f:Nat->Nat}(h:∀a b,R a b->cT R' (f a) (f b)){y:Nat}(e:cT R x y):cT R' (f x) (f y):=by
 induction e with
 |rel r=>exact h _ _ r
 |refl a=>exact .refl _
 |symm _ ih=>exact ih.symm
 |trans _ _ i1 i2=>exact i1.trans i2
section
variable {F:Nat} {ls:List Let}
theorem yA(ok:dT F ls):Perm (nD ls) (t6 ls):=by
 have m:=maps ok;have hN:=uh ls;have hr:∀y,y<nD ls->rv y<nD ls:=fun y hy=>by rw[hN] at hy ⊢;exact mr hy
 refine⟨fun y hy=>m.lt _ (hr y hy),fun x y hx hy e=>?_⟩;have:=m.inj _ _ (hr x hx) (hr y hy) e;rw[<- mq x,this,mq]
abbrev E2(ls:List Let):Nat:=ls.length+(aa ls).length
theorem EU{y:Nat}(hy:y<nD ls):(Jj (E2 ls)).foldl tr (t6 ls) y=bU ls y:=by rw[Nq,if_pos (by rw[uh] at hy;exact hy)];unfold t6;rw[mq]
theorem SR(x y:Nat):cT (gr (nD ls) ((Jj (E2 ls)).foldl tr (t6 ls))) x y↔cT (gr (nD ls) (bU ls)) x y:=
 ⟨cT.mono fun a b r=>by obtain⟨h,rfl⟩:=r;exact .rel ⟨h,EU h⟩,cT.mono fun a b r=>by obtain⟨h,rfl⟩:=r;exact .rel ⟨h,(EU h).symm⟩⟩
theorem Np{k:Nat}:∀t∈Jj k,t.1<2*k/\t.2<2*k/\t.1≠t.2:=by intro t ht;obtain⟨e,he,rfl⟩:=aan.1 ht;have:=aav.1 he;refine⟨?_,?_,?_⟩<;>simp only<;>omega
theorem X6(ok:dT F ls):K (cT (gr (nD ls) (bU ls))) (nD ls)=bb ls:=by
 obtain⟨Zx,ag6⟩:=gH (bU ls) (nD ls);have hfs:∀w∈bY (bU ls) (nD ls),w≠[]:=fun w hw=>by obtain⟨⟨d,t,e,_⟩,_⟩:=dY ok w hw;rw[e];simp
 have hlen:((bY (bU ls) (nD ls)).map (·.headD 0)).length=bb ls:=by rw[aah];rfl
 refine Nat.le_antisymm ?_ ?_
 .rw[<- hlen];refine X7 fun x hx=>?_;obtain⟨w,hw,hxw⟩:=ac9.1 (ag6 x hx);obtain⟨⟨d,t,e,_⟩,_⟩:=dY ok w hw;refine⟨w.headD 0,aan.2 ⟨w,hw,rfl⟩,?_⟩;exact jM (maps ok) (R:=gr (nD ls) (bU ls)) (fun y hy=>.rel ⟨hy,rfl⟩) hw hxw (by rw[e];simp)
 rw[<- hlen];refine TS (f:=xP (bY (bU ls) (nD ls))) ?_ (fun x hx=>?_) ?_
 .rintro a b ⟨ha,rfl⟩
  obtain⟨u,hu,hau⟩:=ac9.1 (ag6 a ha);obtain⟨i,hi⟩:=aaO hu;rw[nZ Zx hi hau,nZ Zx hi (eT (maps ok) hu hau)]
 .obtain⟨w,hw,rfl⟩:=aan.1 hx;obtain⟨⟨d,t,e,hd⟩,_⟩:=dY ok w hw;rw[e];simp only[List.headD_cons];have:nD ls=2*ls.length+2*(aa ls).length:=rfl;omega
 rw[BZ Zx hfs];exact ac6
abbrev TW(ls:List Let):Nat->Nat->Prop:=gr (nD ls) (t6 ls)
theorem QG(hv:v<ls.length)(g:Bool):aJ ls.length v g<nD ls:=by have h:=l7 hv (!g);rw[<- fK] at h;have:=mr h;rw[mq] at this;have:nD ls=2*ls.length+2*(aa ls).length:=rfl;omega
theorem Oc(v:Nat)(g:Bool):t6 ls (aJ ls.length v g)=bU ls (fR ls.length v (!g)):=by unfold t6;rw[fK]
theorem N9(ok:dT F ls)(hv:v<ls.length):cT (TW ls) (aJ ls.length v true) (aJ ls.length v false):=by
 obtain⟨l,hl⟩:=ai hv;have st:=ya ok hv false;have:t6 ls (t6 ls (aJ ls.length v true))=aJ ls.length v false:=by rw[Oc];exact st
 have p:=yA ok;rw[<- this];exact(cT.rel ⟨QG hv true,rfl⟩).trans (.rel ⟨p.lt _ (QG hv true),rfl⟩)
theorem xg(ok:dT F ls)(hv:v<ls.length)(g h:Bool):cT (TW ls) (aJ ls.length v g) (aJ ls.length v h):=by
 have e:=N9 ok hv;cases g<;>cases h
 .exact .refl _
 .exact e.symm
 .exact e
 exact .refl _
theorem Lp(ok:dT F ls){l:Let}(hl:ls[v]?=some l)(hc:l.aw=true):cT (TW ls) (aJ ls.length v true) (aJ ls.length (bQ ls v) true):=by
 obtain⟨h1,m,hm,mc,mi,mo,ms⟩:=bG ok.cr hl hc;have hv:=(aac.1 hl).1;have hw:=(aac.1 hm).1;have:t6 ls (aJ ls.length v true)=aJ ls.length (bQ ls v) (false==(l.over==(l.sign==1))):=by rw[Oc,kr hl hc];rfl
 exact(cT.rel ⟨QG hv true,this.symm⟩).trans (xg ok hw _ _)
theorem R0(ok:dT F ls){k:Nat}(hk:k<(aa ls).length):cT (TW ls) (2*ls.length+2*k) (aJ ls.length ((aa ls).getD k 0) true):=by
 have Ye:2*ls.length+2*k<nD ls:=by unfold nD;omega
 obtain⟨l,h1,h2⟩:=l6 hk;have hv:=(aac.1 h1).1;have:t6 ls (2*ls.length+2*k)=aJ ls.length ((aa ls).getD k 0) (dn ls ((aa ls).getD k 0)):=by unfold t6;rw[show 2*ls.length+2*k=2*(ls.length+k) by omega,ER,show 2*(ls.length+k)+1=2*ls.length+2*k+1 by omega,qh]
 exact(cT.rel ⟨Ye,this.symm⟩).trans (xg ok hv _ _)
theorem R1(ok:dT F ls){k:Nat}(hk:k<(aa ls).length):cT (TW ls) (2*ls.length+2*k+1) (aJ ls.length ((aa ls).getD ((k+1)%(aa ls).length) 0) true):=by
 have Ye:2*ls.length+2*k+1<nD ls:=by unfold nD;omega
 obtain⟨l,h1,h2⟩:=l6 (aat (k+1) (show 0<(aa ls).length by omega));have hv:=(aac.1 h1).1;have:t6 ls (2*ls.length+2*k+1)=aJ ls.length ((aa ls).getD ((k+1)%(aa ls).length) 0) (!dn ls ((aa ls).getD ((k+1)%(aa ls).length) 0)):=by unfold t6;rw[show 2*ls.length+2*k+1=2*(ls.length+k)+1 by omega,N6,show 2*(ls.length+k)=2*ls.length+2*k by omega,qf]
 exact(cT.rel ⟨Ye,this.symm⟩).trans (xg ok hv _ _)
theorem N8(ok:dT F ls)(hx:x<nD ls):∃v,v<ls.length/\cT (TW ls) x (aJ ls.length v true):=by
 by_cases c:x<2*ls.length
 .have hy:rv x<2*ls.length:=mr c;obtain⟨v,fw,hv,e⟩:∃v fw,v<ls.length/\rv x=fR ls.length v fw:=⟨_,_,by
   split
   .exact aat _ (by omega)
   omega,Aj hy⟩
  have:x=aJ ls.length v (!fw):=by rw[<- Vh,<- e,mq]
  exact⟨v,hv,by rw[this];exact xg ok hv _ _⟩
 have hN:nD ls=2*ls.length+2*(aa ls).length:=rfl;have hk:(x-2*ls.length)/2<(aa ls).length:=by omega
 rcases abL x with h|h
 .obtain⟨l,h1,h2⟩:=l6 hk;refine⟨_,(aac.1 h1).1,?_⟩;have:=R0 ok hk;rwa[show 2*ls.length+2*((x-2*ls.length)/2)=x by omega] at this
 obtain⟨l,h1,h2⟩:=l6 (aat ((x-2*ls.length)/2+1) (show 0<(aa ls).length by omega));refine⟨_,(aac.1 h1).1,?_⟩;have:=R1 ok hk;rwa[show 2*ls.length+2*((x-2*ls.length)/2)+1=x by omega] at this
theorem KS(ok:dT F ls):∃L:List Nat,L.length=ao Let.aA ls+ao Let.aw ls/2/\(∀j∈L,j<ls.length)/\(L.map (ss ls)).Nodup/\ ∀v,v<ls.length->∃j∈L,ss ls j=ss ls v:=by
 have hc:=ok.cr;unfold dN at hc;simp only[aaf,beq_iff_eq] at hc;obtain⟨L,l1,l2,l3⟩:=En ok;refine⟨L,l1,l2,l3,fun v hv=>?_⟩
 -- all the names there are
 let A:List (Int×Int):=(aa ls).map (fun i:Nat=>((0:Int),(i:Int)))++(dR ls ls.length).map fun id=>((1:Int),id)
 have hA:A.length=ao Let.aA ls+ao Let.aw ls/2:=by simp only[A,aaF,aah,jJ,hc.2]
 have hin:∀v,v<ls.length->ss ls v∈A:=fun v hv=>by
  obtain⟨l,hl⟩:=ai hv;unfold ss;rw[hl];rcases ok.kinds l (aab hl) with hp|YV
  .simp only[dz hp,aaq,if_false];exact List.mem_append_left _ (aan.2 ⟨v,dK.2 ⟨l,hl,hp⟩,rfl⟩)
  simp only[YV,if_true];refine acJ _ (aan.2 ⟨l.id,?_,rfl⟩);exact(oO (aad _)).2 ⟨v,l.over,hv,by rw[vh hl YV];simp⟩
 refine Classical.byContradiction fun YH=>?_;have hn:ss ls v∉L.map (ss ls):=fun h=>by obtain⟨j,hj,e⟩:=aan.1 h;exact YH ⟨j,hj,e⟩
 have agH:∀(X Y:List (Int×Int)),X.Nodup->(∀x∈X,x∈Y)->X.length<=Y.length:=by
  intro X
  induction X with
  |nil=>intro Y _ _;exact aae _
  |cons a X ih=>intro Y hn hs;obtain⟨h1,h2⟩:=abk.1 hn;have ha:=hs a (by simp);have:=ih (Y.erase a) h2 fun x hx=>(List.mem_erase_of_ne (by rintro rfl;exact h1 hx)).2 (hs x (by simp[hx]));rw[List.length_erase_of_mem ha] at this;have:0<Y.length:=List.length_pos_of_mem ha;simp only[aas];omega
 have:=agH (ss ls v::L.map (ss ls)) A (abk.2 ⟨hn,l3⟩) fun x hx=>by
  rcases aag.1 hx with rfl|hx
  .exact hin v hv
  obtain⟨j,hj,rfl⟩:=aan.1 hx;exact hin j (l2 j hj)
 rw[aas,aah,l1,hA] at this;omega
theorem Q6(ok:dT F ls){u:Nat}(hu:u<ls.length)(hv:v<ls.length)(e:ss ls u=ss ls v):cT (TW ls) (aJ ls.length v true) (aJ ls.length u true):=by
 obtain⟨l,hl⟩:=ai hu;obtain⟨m,hm⟩:=ai hv;unfold ss at e;rw[hl,hm] at e;simp only at e;cases cl:l.aw<;>cases cm:m.aw
 .simp only[cl,cm,aaq,if_false,aaT,true_and] at e;have:u=v:=by omega
  subst this;exact .refl _
 .simp[cl,cm] at e
 .simp[cl,cm] at e
 simp only[cl,cm,if_true,aaT,true_and] at e;have YV:=ok.cr;have hp:oE ls:=by unfold dN at YV;simp only[aaf,beq_iff_eq,aaP,aav] at YV;exact(xK.1 YV.1.2).2
 by_cases huv:u=v
 .subst huv;exact .refl _
 obtain⟨h1,w,hw,wc,wi,wo,ws⟩:=bG ok.cr hm cm;have:bQ ls v=u:=by refine Classical.byContradiction fun Yk=>?_;have d1:=(hp _ _ w l hw hl wc cl (by rw[wi,e]) Yk).1;have d2:=(hp _ _ l m hl hm cl cm e huv).1;rw[wo] at d1;revert d1 d2;cases l.over<;>cases m.over<;>simp
 have:=Lp ok hm cm;rwa[‹bQ ls v=u›] at this
theorem X5(ok:dT F ls):K (cT (TW ls)) (nD ls)=ao Let.aA ls+ao Let.aw ls/2:=by
 obtain⟨L,l1,l2,l3,l4⟩:=KS ok;have hN:=uh ls;have hN':nD ls=2*ls.length+2*(aa ls).length:=rfl;have hrv:∀y,y<nD ls->rv y<nD ls:=fun y hy=>by rw[hN] at hy ⊢;exact mr hy
 have hlen:(L.map (2* ·)).length=ao Let.aA ls+ao Let.aw ls/2:=by rw[aah,l1]
 refine Nat.le_antisymm ?_ ?_
 .rw[<- hlen];refine X7 fun x hx=>?_;obtain⟨v,hv,e⟩:=N8 ok hx;obtain⟨j,hj,ej⟩:=l4 v hv;exact⟨2*j,aan.2 ⟨j,hj,rfl⟩,e.trans (Q6 ok (l2 j hj) hv ej)⟩
 rw[<- hlen];refine TS (f:=fun x=>ss ls (j6 ls (rv x))) ?_ (fun x hx=>?_) ?_
 .rintro a b ⟨ha,rfl⟩
  exact(Ep ok (hrv a ha)).1.symm
 .obtain⟨j,hj,rfl⟩:=aan.1 hx;have:=l2 j hj;omega
 rw[abq];have:L.map ((fun x=>ss ls (j6 ls (rv x))) ∘ (2* ·))=L.map (ss ls):=act fun j hj=>by have:=lS (ls:=ls) (l2 j hj) false;simp only[Function.comp_apply,ER];rw[show 2*j+1=fR ls.length j false from rfl,this]
 rw[this];exact l3
theorem LV(ok:dT F ls):K (cT (Na (nD ls) (t6 ls) (Jj (E2 ls)))) (nD ls)<=1:=by
 refine UT fun x hx=>?_;obtain⟨b,hb⟩:=Pu (p:=fun _=>false) (fun _=>rfl) ok hx;have h:=hb 0 (by decide);have:=h.push (R':=Na (nD ls) (t6 ls) (Jj (E2 ls))) (f:=fun y=>y/2) ?_
 .have hf:fx b 0<2:=qJ (by decide);rw[show(2*x+0)/2=x by omega,show fx b 0/2=0 by omega] at this;exact this
 intro u v r;rcases r with ⟨hu,rfl⟩|r
 .refine .rel (.inl ⟨by omega,?_⟩);unfold GZ t6 fx;simp only[aaq,if_false];omega
 refine .rel (.inr ?_);obtain⟨e,he,hm⟩:=List.mem_flatMap.1 r;have aaa:(2*e,2*e+1)∈Jj (E2 ls):=aan.2 ⟨e,he,rfl⟩;simp only[aag,aaC,or_false,aaT] at hm;rcases hm with ⟨rfl,rfl⟩|⟨rfl,rfl⟩
 .rw[Cs];simp only[aaq,if_false];rw[show 4*e/2=2*e by omega,show(4*e+2)/2=2*e+1 by omega];exact aaa
 rw[Cr];simp only[aaq,if_false];rw[show(4*e+1)/2=2*e by omega,show(4*e+3)/2=2*e+1 by omega];exact aaa
theorem Ge(ok:dT F ls):bb ls<=ao Let.aA ls+ao Let.aw ls/2+2/\(bb ls+(ao Let.aA ls+ao Let.aw ls/2))%2=0:=by
 have hN:=uh ls;have e1:=UG (Jj (E2 ls)) (t6 ls) (yA ok) fun t ht=>by have:=Np t ht;rw[hN];exact⟨this.1,this.2.1⟩
 have e2:=X3 (Jj (E2 ls)) (t6 ls) (yA ok) fun t ht=>by have:=Np t ht;rw[hN];exact this
 have hl:(Jj (E2 ls)).length=ls.length+(aa ls).length:=by simp[Jj]
 rw[r5 SR,X6 ok,show K (cT (gr (nD ls) (t6 ls))) (nD ls)=_ from X5 ok,hl] at e1 e2;have h1:=LV ok;have hPC:=Ia ok;have sE:=jJ (ls:=ls);have YV:=ok.cr;unfold dN at YV;simp only[aaf,beq_iff_eq] at YV;have YU:=YV.1.1;omega
end
structure gC where
 l:Nat
 r:Nat
 b:Bool
structure aM where
 p:Pc
 i:gC
 o:gC
abbrev aM.k(x:aM):Let:=x.p.l
def dq:gC->List aM->gC->Prop
 |s,[],t=>s=t
 |s,x::r,t=>x.i=s/\dq x.o r t
theorem fL{s t:gC}{a b:List aM}:dq s (a++b) t↔ ∃m,dq s a m/\dq m b t:=by
 induction a generalizing s with
 |nil=>exact⟨fun h=>⟨s,rfl,h⟩,fun⟨m,h1,h2⟩=>by cases h1;exact h2⟩
 |cons x a ih=>show(x.i=s/\dq x.o (a++b) t)↔_;rw[ih];exact⟨fun⟨h,m,h1,h2⟩=>⟨m,⟨h,h1⟩,h2⟩,fun⟨m,⟨h,h1⟩,h2⟩=>⟨h,m,h1,h2⟩⟩
theorem OA{s:gC}{a b:List aM}(h:dq s (a++b) s):∃m,dq m (b++a) m:=by obtain⟨m,h1,h2⟩:=fL.1 h;exact⟨m,fL.2 ⟨s,h2,h1⟩⟩
structure X4 (g:Bool) (i o j q:gC):Prop where
 a:if g then i.l=q.l else i.l=j.r
 b:if g then o.r=j.r else o.r=q.l
 c:if g then j.l=i.r else j.l=o.l
 d:if g then q.r=o.l else q.r=i.r
def gX (l:Let):Bool:=l.over==(l.sign==1)
structure Xc (x y:aM):Prop where
 ov:x.k.over= !y.k.over
 sg:x.k.sign=y.k.sign
 x4:X4 (gX x.k) x.i x.o y.i y.o
theorem Xc.symm{x y:aM}(h:Xc x y):Xc y x:=by
 obtain⟨h1,h2,a,b,c,d⟩:=h;have e:gX y.k= !gX x.k:=by unfold gX;rw[h1,h2];cases y.k.over<;>cases (y.k.sign==1)<;>rfl
 refine⟨by rw[h1];simp,h2.symm,?_⟩;rw[e];cases hg:gX x.k
 .rw[hg] at a b c d;simp only[aaq,if_false] at a b c d;constructor<;>simp only[Bool.not_false,if_true]
  .exact c
  .exact d
  .exact a
  exact b
 rw[hg] at a b c d;simp only[if_true] at a b c d;constructor<;>simp only[acC,aaq,if_false]
 .exact c
 .exact d
 .exact a
 exact b
def mZ(s:gC):gC:=⟨s.r,s.l,s.b⟩
def aM.up(x:aM):gC:=if x.p.d then x.i else mZ x.o
def aM.lo(x:aM):gC:=if x.p.d then x.o else mZ x.i
structure LW (F:Nat) (x:aM):Prop where
 bad:cF F x.k=false
 cb:x.k.aw=true->x.i.b=x.o.b
 pb:x.k.aA=true->x.o.b=x.p.d/\x.i.b= !x.p.d
def Xr (x y:aM):Prop:=x.k.aw=true->y.k.aw=true->x.k.id=y.k.id->Xc x y
theorem Xr.symm{x y:aM}(h:Xr x y):Xr y x:=fun a b c=>(h b a c.symm).symm
def Dr (x y:aM):Prop:=x.k.aA=true->y.k.aA=true->x.k.gate=y.k.gate->x.k.Yb≠y.k.Yb
theorem Dr.symm{x y:aM}(h:Dr x y):Dr y x:=fun a b c d=>h b a c.symm d.symm
structure QY (T B:Nat->Nat->Nat) (x:aM):Prop where
 wt:x.up.r=T x.k.gate.toNat (x.k.Yb.toNat-1)
 et:x.up.l=T x.k.gate.toNat x.k.Yb.toNat
 wb:x.lo.r=B x.k.gate.toNat (x.k.Yb.toNat-1)
 eb:x.lo.l=B x.k.gate.toNat x.k.Yb.toNat
abbrev be(z:List aM):List Let:=z.map aM.k
structure Cz (F:Nat) (z:List aM) (T B:Nat->Nat->Nat) (S:List Nat):Prop where
 path:∃s,dq s z s
 ok:∀x∈z,LW F x
 cr:z.Pairwise Xr
 ev:ao Let.aw (be z)%2=0
 ids:∀x∈z,x.k.aw=true->1<=x.k.id/\x.k.id<=((ao Let.aw (be z)/2:Nat):Int)
 rk:z.Pairwise Dr
 rr:∀x∈z,x.k.aA=true->1<=x.k.Yb/\x.k.Yb<=(cg (be z) x.k.gate.toNat:Int)
 pl:∀x∈z,x.k.aA=true->QY T B x
 gt:∀g,g<F->T g (cg (be z) g)=T (g+1) 0/\B g (cg (be z) g)=B (g+1) 0
 gz:T F (cg (be z) F)=T 0 0/\B F (cg (be z) F)=B 0 0
 one:∃x∈z,x.k.aA=true
 nd:S.Nodup
 wit:∀s∈S,∃x∈z,s=x.o.l\/s=x.o.r
 num:ao Let.aA (be z)+ao Let.aw (be z)/2+1<=S.length
def Cert(F:Nat)(l:List Pc):Prop:= ∃z T B S,z.map aM.p=l/\Cz F z T B S
theorem fW{p:Let->Bool}{z z':List aM}(h:z.Perm z'):ao p (be z)=ao p (be z'):=(h.map aM.k).countP_eq p
theorem Cz.perm{z z':List aM}{T B:Nat->Nat->Nat}{S:List Nat}(c:Cz F z T B S)(h:z.Perm z')(hp:∃s,dq s z' s):Cz F z' T B S:=by
 have hm:∀ {x},x∈z'↔x∈z:=fun {x}=>h.symm.mem_iff;have e:∀p,ao p (be z')=ao p (be z):=fun p=>(fW h).symm;have eg:∀g,cg (be z') g=cg (be z) g:=fun g=>e _;refine⟨hp,fun x hx=>c.ok x (hm.1 hx),(h.pairwise_iff fun {x y}=>Xr.symm).1 c.cr,by rw[e];exact c.ev,fun x hx=>by rw[e];exact c.ids x (hm.1 hx),(h.pairwise_iff fun {x y}=>Dr.symm).1 c.rk,
  fun x hx=>by rw[eg];exact c.rr x (hm.1 hx),fun x hx=>c.pl x (hm.1 hx),fun g hg=>by rw[eg];exact c.gt g hg,by rw[eg];exact c.gz,?_,c.nd,fun s hs=>?_,by rw[e,e];exact c.num⟩
 .obtain⟨x,hx,h1⟩:=c.one;exact⟨x,hm.2 hx,h1⟩
 obtain⟨x,hx,h1⟩:=c.wit s hs;exact⟨x,hm.2 hx,h1⟩
theorem Cz.t6{a b:List aM}{T B:Nat->Nat->Nat}{S:List Nat}(c:Cz F (a++b) T B S):Cz F (b++a) T B S:=by obtain⟨s,h⟩:=c.path;exact c.perm (adU) (OA h)
theorem Cert.t6{a b:List Pc}(c:Cert F (a++b)):Cert F (b++a):=by obtain⟨z,T,B,S,h,c⟩:=c;obtain⟨x,y,rfl,rfl,rfl⟩:=List.map_eq_append_iff.1 h;exact⟨y++x,T,B,S,by rw[aaN],c.t6⟩
theorem LR:∀ {z:List aM} {s t:gC},(∀x∈z,LW F x)->dq s z t->s.b=false->t.b=true->∃x∈z,x.k.aA=true/\x.p.d=true:=by
 intro z
 induction z with
 |nil=>intro s t _ h h1 h2;cases h;rw[h1] at h2;cases h2
 |cons x z ih=>
  intro s t ok h h1 h2;obtain⟨rfl,h⟩:=h;have ox:=ok x (by simp);by_cases hd:x.k.aA=true/\x.p.d=true
  .exact⟨x,by simp,hd⟩
  have hb:x.o.b=false:=by
   rcases gR ox.bad with hp|hc
   .rw[(ox.pb hp).1];cases hd':x.p.d
    .rfl
    exact absurd ⟨hp,hd'⟩ hd
   rw[<- ox.cb hc];exact h1
  obtain⟨y,hy,e⟩:=ih (fun x hx=>ok x (by simp[hx])) h hb h2;exact⟨y,by simp[hy],e⟩
theorem Cz.down{z:List aM}{T B:Nat->Nat->Nat}{S:List Nat}(c:Cz F z T B S):∃x∈z,x.k.aA=true/\x.p.d=true:=by
 obtain⟨x,hx,hp⟩:=c.one;cases hd:x.p.d
 .obtain⟨a,b,rfl⟩:=List.append_of_mem hx;have c2:=c.t6;obtain⟨s,h⟩:=c2.path;obtain⟨rfl,h⟩:=h;obtain⟨e1,e2⟩:=(c.ok x (by simp)).pb hp;rw[hd] at e1 e2;obtain⟨y,hy,e⟩:=LR (fun y hy=>c.ok y (by
   rcases aaw.1 hy with hy|hy
   .simp[hy]
   simp[hy])) h e1 e2
  refine⟨y,?_,e⟩;rcases aaw.1 hy with hy|hy
  .simp[hy]
  simp[hy]
 exact⟨x,hx,hp,hd⟩
theorem JB{l:List Pc}{f:Nat}(hf:f<=l.length):tZ l f l.length=(l.drop f++l.take f).map Pc.l:=by
 apply adx;intro i;by_cases hi:i<l.length
 .have h1:(tZ l f l.length)[i]?=some (l.getD ((f+i)%l.length) ⟨fG,false⟩).l:=by
   simp[tZ,hi]
  rw[h1,aaz];by_cases h2:f+i<l.length
  .rw[acw (by simp;omega),acA,aaB h2];simp[h2]
  rw[acz (by simp;omega),aa1];have h3:(f+i)%l.length=i-(l.length-f):=by rw[Nat.mod_eq_sub_mod (by omega),aaB (by omega)];omega
  have h4:i-(l.length-f)<l.length:=by omega
  rw[h3,aa3,if_pos (by omega)];simp[h4]
 have h1:(tZ l f l.length).length=l.length:=by simp[tZ]
 rw[abz (by rw[h1];omega),abz (by simp;omega)]
theorem Cert.fin{l:List Pc}(c:Cert F l):∃z T B S x r,z=x::r/\x.k.aA=true/\x.p.d=true/\be z=mT l/\z.length=l.length/\Cz F z T B S:=by
 obtain⟨z,T,B,S,h,c⟩:=c;subst h;obtain⟨x,hx,hp,hd⟩:=c.down;have hP:∀y:aM,y.k.aA=(y.p.l.kind==1):=fun y=>rfl;obtain⟨j,hj⟩:=aaO hx;have hjl:=(aac.1 hj).1;have hjp:(z.map aM.p)[j]?=some x.p:=by rw[aaz,hj];rfl
 obtain⟨f,hf⟩:∃f,jm (z.map aM.p)=some f:=by
  cases h:jm (z.map aM.p) with
  |some f=>exact⟨f,rfl⟩
  |none=>have:=adD.1 h j (by simpa using hjl);rw[HK hjp] at this;unfold Vs at this;rw[hP] at hp;simp[hp,hd] at this
 have h1:=List.find?_some hf;have h2:f<z.length:=by
  have:=adS hf
  simpa using this
 obtain⟨y,hy⟩:=aac.2 ⟨h2,rfl⟩ |> fun h=>(⟨_,h⟩:∃y,z[f]?=some y)
 have hyp:(z.map aM.p)[f]?=some y.p:=by rw[aaz,hy];rfl
 rw[HK hyp] at h1;unfold Vs at h1;rw[aaf] at h1;have hz:z=z.take f++y::z.drop (f+1):=by obtain⟨hl,e⟩:=aac.1 hy;rw[<- e,abH,aa2]
 have hdr:z.drop f=y::z.drop (f+1):=by obtain⟨hl,e⟩:=aac.1 hy;rw[<- e,abH]
 refine⟨y::z.drop (f+1)++z.take f,T,B,S,y,z.drop (f+1)++z.take f,rfl,h1.1,h1.2,?_,?_,?_⟩
 .unfold mT;rw[hf,aaS,JB (by rw[aah];omega),<- hdr];simp only[aaN,ac2,acy,abq];rfl
 .rw[<- hdr,aaF,aa1,aay,aah];omega
 rw[hz] at c;exact c.t6
theorem MH{ls:List Let}(he:ao Let.aw ls%2=0)(hi:Pl ls)(hp:oE ls):dN ls=true:=by
 rw[vx he (xK.2 ⟨hi,hp⟩)];have aen:=CH ls;have hle:∀id∈dR ls ls.length,ao (jE id) ls<=2:=fun id _=>by rw[oJ id];have:=jP hp id true;have:=jP hp id false;omega
 have h1:=Ny (f:=fun id=>ao (jE id) ls) _ hle;have h2:(dR ls ls.length).length<=ao Let.aw ls/2:=by
  have hr:∀id∈dR ls ls.length,1<=id/\id<=((ao Let.aw ls/2:Nat):Int):=fun id hid=>by obtain⟨j,o,hj,hh⟩:=(oO (aad _)).1 hid;obtain⟨m,hm,mc,mi,_⟩:=iJ hh;rw[<- mi];exact hi m (aab hm) mc
  have:=rh ((dR ls ls.length).map Int.toNat) (List.range' 1 (ao Let.aw ls/2)) ?_ ?_
  .rwa[aah,List.length_range'] at this
  .refine acu.2 (List.Pairwise.imp_of_mem (fun {a b} ha hb h e=>h ?_) (rK ls ls.length));have:=hr a ha;have:=hr b hb;omega
  intro x hx;obtain⟨id,hid,rfl⟩:=aan.1 hx;have:=hr id hid;rw[List.mem_range'_1];omega
 simp only[beq_iff_eq];omega
theorem nk{s t:gC}{z:List aM}{x:aM}(h:dq s z t)(hx:z[0]?=some x):x.i=s:=by
 cases z with
 |nil=>cases hx
 |cons y z=>cases hx;exact h.1
theorem Bs:∀ {z:List aM} {s t:gC} {i:Nat} {x y:aM},dq s z t->z[i]?=some x->z[i+1]?=some y->x.o=y.i:=by
 intro z
 induction z with
 |nil=>intro s t i x y _ hx;cases hx
 |cons a z ih=>
  intro s t i x y h hx hy;cases i with
  |zero=>cases hx;exact(nk h.2 hy).symm
  |succ i=>exact ih h.2 hx hy
theorem u5:∀ {z:List aM} {s t:gC} {x:aM},dq s z t->z[z.length-1]?=some x->x.o=t:=by
 intro z
 induction z with
 |nil=>intro s t x _ hx;cases hx
 |cons a z ih=>
  intro s t x h hx;cases z with
  |nil=>cases hx;exact h.2
  |cons b z=>exact ih h.2 hx
theorem Fo{z:List aM}{s:gC}{j:Nat}{x y:aM}(h:dq s z s)(hx:z[j]?=some x)(hy:z[(j+1)%z.length]?=some y):x.o=y.i:=by
 have hj:=(aac.1 hx).1;by_cases c:j+1<z.length
 .rw[aaB c] at hy;exact Bs h hx hy
 have:j+1=z.length:=by omega
 rw[this,acx] at hy;rw[u5 h (by rw[<- this];exact hx),nk h hy]
theorem mO{z:List aM}{i:Nat}{x:aM}(h:z[i]?=some x):(be z)[i]?=some x.k:=by rw[aaz,h];rfl
theorem oI{z:List aM}{i:Nat}{l:Let}(h:(be z)[i]?=some l):∃x,z[i]?=some x/\x.k=l:=by rw[aaz,aap] at h;exact h
theorem Dg{z:List aM}{s t:gC}(ok:∀x∈z,LW F x)(h:dq s z t)(hs:s.b=false):∀i x,z[i]?=some x->x.i.b= !dn (be z) i/\x.o.b= !dn (be z) (i+1):=by
 have step:∀i x,z[i]?=some x->x.i.b=(!dn (be z) i)->x.o.b= !dn (be z) (i+1):=fun i x hx hb=>by
  have ox:=ok x (aab hx);rcases gR ox.bad with hp|hc
  .rw[qM (mO hx) hp,Bool.not_not,(ox.pb hp).1];have:=(ox.pb hp).2;rw[hb] at this;revert this;cases dn (be z) i<;>cases x.p.d<;>simp
  rw[rV (mO hx) (by
   cases hp:x.k.aA
   .rfl
   rw[dz hp] at hc;cases hc),<- hb,ox.cb hc]
 intro i
 induction i with
 |zero=>
  intro x hx;have:x.i.b= !dn (be z) 0:=by rw[nk h hx,hs];rfl
  exact⟨this,step 0 x hx this⟩
 |succ i ih=>intro y hy;obtain⟨x,hx⟩:=ai (ls:=z) (k:=i) (by have:=(aac.1 hy).1;omega);have e:=(ih x hx).2;rw[Bs h hx hy] at e;exact⟨e,step (i+1) y hy e⟩
theorem Fk{ls:List Let}{f:Nat->Nat->Nat}(hf:∀g,g<F->f g (cg ls g)=f (g+1) 0):∀(d g k g' k':Nat),g'=g+d->g'<=F->k<=cg ls g->k'<=cg ls g'->bk ls g+k=bk ls g'+k'->f g k=f g' k':=by
 intro d
 induction d with
 |zero=>intro g k g' k' e _ _ _ h;rw[abY] at e;subst e;rw[show k=k' by omega]
 |succ d ih=>
  intro g k g' k' e hF hk hk' h;have hm:=eo (ls:=ls) (show g+1<=g' by omega);have hs:=cK ls g;have:k=cg ls g:=by omega
  subst this;rw[hf g (by omega)];exact ih (g+1) 0 g' k' (by omega) hF (aae _) hk' (by omega)
theorem u0{ls:List Let}{f:Nat->Nat->Nat}(hf:∀g,g<F->f g (cg ls g)=f (g+1) 0){g k g' k':Nat}(hg:g<=F)(hg':g'<=F)(hk:k<=cg ls g)(hk':k'<=cg ls g')(h:bk ls g+k=bk ls g'+k'):f g k=f g' k':=by
 rcases Nat.le_total g g' with c|c
 .exact Fk hf (g'-g) g k g' k' (by omega) hg' hk hk' h
 exact(Fk hf (g-g') g' k' g k (by omega) hg hk' hk h.symm).symm
def WT:aM:=⟨⟨fG,false⟩,⟨0,0,false⟩,⟨0,0,false⟩⟩
def Ay(z:List aM)(x:Nat):Nat:=
 if x<2*z.length then (if x%2=0 then (z.getD (x/2) WT).o.l else (z.getD (x/2) WT).o.r)
 else if x%2=0 then (z.getD ((aa (be z)).getD ((x-2*z.length)/2) 0) WT).up.l else (z.getD ((aa (be z)).getD ((x-2*z.length)/2) 0) WT).lo.l
theorem mB{z:List aM}{i:Nat}{x:aM}(h:z[i]?=some x):z.getD i WT=x:=by rw[aal,h];rfl
section
variable {F:Nat} {z:List aM} {s:gC}
theorem O3(h:dq s z s){x:aM}(hx:z[v]?=some x)(g:Bool):Ay z (aJ z.length v g)=if g then x.o.l else x.i.r:=by
 have hv:=(aac.1 hx).1;cases g with
 |true=>show Ay z (2*v)=_;unfold Ay;rw[if_pos (by omega),if_pos (by omega),show 2*v/2=v by omega,mB hx];rfl
 |false=>show Ay z (2*((v+z.length-1)%z.length)+1)=_;have hm:=aat (v+z.length-1) (show 0<z.length by omega);obtain⟨y,hy⟩:=ai (ls:=z) hm;have e:=Fo h hy (by rw[fM hv];exact hx);unfold Ay;rw[if_pos (by omega),if_neg (by omega),show(2*((v+z.length-1)%z.length)+1)/2=(v+z.length-1)%z.length by omega,mB hy,e];rfl
theorem VE(h:dq s z s){x:aM}(hx:z[v]?=some x)(g:Bool):Ay z (fR z.length v g)=if g then x.i.l else x.o.r:=by
 have hv:=(aac.1 hx).1;cases g with
 |false=>show Ay z (2*v+1)=_;unfold Ay;rw[if_pos (by omega),if_neg (by omega),show(2*v+1)/2=v by omega,mB hx];rfl
 |true=>show Ay z (2*((v+z.length-1)%z.length))=_;have hm:=aat (v+z.length-1) (show 0<z.length by omega);obtain⟨y,hy⟩:=ai (ls:=z) hm;have e:=Fo h hy (by rw[fM hv];exact hx);unfold Ay;rw[if_pos (by omega),if_pos (by omega),show(2*((v+z.length-1)%z.length))/2=(v+z.length-1)%z.length by omega,mB hy,e];rfl
theorem W7{k:Nat}{x:aM}(ha:(aa (be z)).getD k 0=v)(hx:z[v]?=some x):Ay z (2*z.length+2*k)=x.up.l:=by unfold Ay;rw[if_neg (by omega),if_pos (by omega),show(2*z.length+2*k-2*z.length)/2=k by omega,ha,mB hx]
theorem W8{k:Nat}{x:aM}(ha:(aa (be z)).getD k 0=v)(hx:z[v]?=some x):Ay z (2*z.length+2*k+1)=x.lo.l:=by unfold Ay;rw[if_neg (by omega),if_neg (by omega),show(2*z.length+2*k+1-2*z.length)/2=k by omega,ha,mB hx]
theorem Cz.yO{T B:Nat->Nat->Nat}{S:List Nat}(c:Cz F z T B S){i j:Nat}{x y:aM}(hx:z[i]?=some x)(hy:z[j]?=some y)(Zp:i≠j):Xr x y/\Dr x y:=by
 obtain⟨hi,ex⟩:=aac.1 hx;obtain⟨hj,ey⟩:=aac.1 hy;subst ex ey;rcases Nat.lt_or_gt_of_ne Zp with h|h
 .exact⟨ad1.1 c.cr i j hi hj h,ad1.1 c.rk i j hi hj h⟩
 exact⟨(ad1.1 c.cr j i hj hi h).symm,(ad1.1 c.rk j i hj hi h).symm⟩
theorem Cz.d9{T B:Nat->Nat->Nat}{S:List Nat}(c:Cz F z T B S){x:aM}(hx:x∈z)(hp:x.k.aA=true):j7 F (be z) x.k:=by obtain⟨⟨⟨⟨g0,g1⟩,_⟩,_⟩,_⟩:=(cJ hp).1 (c.ok x hx).bad;obtain⟨r0,r1⟩:=c.rr x hx hp;exact⟨g0,g1,r0,r1⟩
theorem Cz.dg{T B:Nat->Nat->Nat}{S:List Nat}(c:Cz F z T B S)(hl:z.length<=1000000):dT F (be z):=by
 refine⟨by rw[aah];exact hl,⟨fun l hl hp=>?_,fun i j l m hi hj pl pm e=>?_⟩,MH c.ev (fun l hl hc=>?_) (fun i j l m hi hj cl cm e Zp=>?_),fun l hl=>?_⟩
 .obtain⟨x,hx,rfl⟩:=aan.1 hl;exact c.d9 hx hp
 .obtain⟨x,hx,rfl⟩:=oI hi;obtain⟨y,hy,rfl⟩:=oI hj;refine Decidable.byContradiction fun Zp=>?_;obtain⟨h1,h2⟩:=(yK (c.d9 (aab hx) pl) (c.d9 (aab hy) pm)).1 e;exact(c.yO hx hy Zp).2 pl pm h1 h2
 .obtain⟨x,hx,rfl⟩:=aan.1 hl;exact c.ids x hx hc
 .obtain⟨x,hx,rfl⟩:=oI hi;obtain⟨y,hy,rfl⟩:=oI hj;have:=(c.yO hx hy Zp).1 cl cm e;refine⟨?_,this.sg⟩;rw[this.ov];cases y.k.over<;>simp
 obtain⟨x,hx,rfl⟩:=aan.1 hl;exact gR (c.ok x hx).bad
theorem Cz.jc{T B:Nat->Nat->Nat}{S:List Nat}(c:Cz F z T B S):jc F (be z):=fun l hl hp=>by obtain⟨x,hx,rfl⟩:=aan.1 hl;exact((cJ hp).1 (c.ok x hx).bad).1.1.1
theorem Cz.Tw{T B:Nat->Nat->Nat}{S:List Nat}(c:Cz F z T B S)(hl:z.length<=1000000){k u:Nat}{x y:aM}(hu:(aa (be z))[k]?=some u)(hv:(aa (be z))[(k+1)%(aa (be z)).length]?=some v)(hx:z[u]?=some x)(hy:z[v]?=some y):x.up.l=y.up.r/\x.lo.l=y.lo.r:=by
 have ok:=c.dg hl;have hk:=(aac.1 hu).1;obtain⟨l,l1,l2,l3⟩:=jr ok.ax hu;obtain⟨m,m1,m2,m3⟩:=jr ok.ax hv;rw[mO hx] at l1;cases l1;rw[mO hy] at m1;cases m1;have gx:=c.d9 (aab hx) l2;have gy:=c.d9 (aab hy) m2;have px:=c.pl x (aab hx) l2;have py:=c.pl y (aab hy) m2;obtain⟨x1,x2,x3,x4⟩:=gx;obtain⟨y1,y2,y3,y4⟩:=gy;have key:∀f:Nat->Nat->Nat,(∀g,g<F->f g (cg (be z) g)=f (g+1) 0)->f F (cg (be z) F)=f 0 0->f x.k.gate.toNat x.k.Yb.toNat=f y.k.gate.toNat (y.k.Yb.toNat-1):=by
  intro f hf hz;unfold dk at l3 m3;by_cases c1:k+1<(aa (be z)).length
  .rw[aaB c1] at m3;exact u0 hf (by omega) (by omega) (by omega) (by omega) (by omega)
  have hT:=wU c.jc;have hs:=cK (be z) F;have:k+1=(aa (be z)).length:=by omega
  rw[this,acx] at m3;rw[u0 hf (g:=x.k.gate.toNat) (k:=x.k.Yb.toNat) (g':=F) (k':=cg (be z) F) (by omega) (aad _) (by omega) (aad _) (by omega),hz];exact u0 hf (aae _) (by omega) (aae _) (by omega) (by show 0+0=_;omega)
 exact⟨by rw[px.et,py.wt];exact key T (fun g hg=>(c.gt g hg).1) c.gz.1,by rw[px.eb,py.wb];exact key B (fun g hg=>(c.gt g hg).2) c.gz.2⟩
theorem Cz.walk{T B:Nat->Nat->Nat}{S:List Nat}(c:Cz F z T B S)(hl:z.length<=1000000)(h:dq s z s)(hs:s.b=false)(hx:x<nD (be z)):Ay z (bU (be z) x)=Ay z x:=by
 have ok:=c.dg hl;have hn:(be z).length=z.length:=aah ..;have hN:nD (be z)=2*z.length+2*(aa (be z)).length:=by unfold nD;rw[hn]
 have Ze:=Dg c.ok h hs;by_cases c1:x<2*z.length
 .obtain⟨v,fw,hv,rfl⟩:∃v fw,v<z.length/\x=fR z.length v fw:=⟨_,_,by
   split
   .exact aat _ (by omega)
   omega,Aj c1⟩
  obtain⟨e,he⟩:=ai (ls:=z) hv;have hle:=mO he;have oe:=c.ok e (aab he);rw[VE h he];rcases gR oe.bad with hp|hc
  .have hd:dn (be z) v=e.p.d:=by
    have:=(Ze v e he).1;rw[(oe.pb hp).2] at this;revert this;cases e.p.d<;>cases dn (be z) v<;>simp
   obtain⟨a1,a2⟩:=tB ok hle hp;have t:=sM hle hp fw;rw[hn] at t;rw[t,hd];by_cases c2:(e.p.d==fw)=true
   .rw[if_pos c2,W7 a2 he];unfold aM.up;have:=eq_of_beq c2;subst this;cases e.p.d<;>rfl
   rw[if_neg c2];have hm:=aat ((aa (be z)).idxOf v+(aa (be z)).length-1) (show 0<(aa (be z)).length by omega);obtain⟨u,hu⟩:=ai hm;obtain⟨l,u1,u2⟩:=dK.1 (aab hu);obtain⟨y,hy,rfl⟩:=oI u1;have hv':(aa (be z))[(aa (be z)).idxOf v]?=some v:=by obtain⟨q,hq⟩:=ai a1;rw[aal,hq] at a2;rw[hq];exact congrArg some a2
   have:=(c.Tw hl hu (by rw[fM a1];exact hv') hy he).2;rw[W8 (by rw[aal,hu];rfl) hy,this];unfold aM.lo;revert c2;cases e.p.d<;>cases fw<;>simp[mZ]
  obtain⟨b1,m,hm,mc,mi,mo,ms⟩:=bG ok.cr hle hc;obtain⟨y,hy,rfl⟩:=oI hm;have Yk:v≠bQ (be z) v:=by intro ee;rw[<- ee,hle] at hm;have:=abu hm;rw[<- this] at mo;revert mo;cases e.k.over<;>simp
  obtain⟨_,_,xa,xb,xc,xd⟩:=(c.yO he hy Yk).1 hc mc mi.symm;have t:=kr hle hc fw;rw[hn] at t;rw[t,O3 h hy];unfold gX at xa xb;cases hg:(e.k.over==(e.k.sign==1))<;>rw[hg] at xa xb<;>simp only[aaq,if_false,if_true] at xa xb<;>cases fw<;>simp_all
 have hk:(x-2*z.length)/2<(aa (be z)).length:=by omega
 obtain⟨u,hu⟩:=ai hk;obtain⟨l,u1,u2⟩:=dK.1 (aab hu);obtain⟨e,he,rfl⟩:=oI u1;have hgu:(aa (be z)).getD ((x-2*z.length)/2) 0=u:=by rw[aal,hu];rfl
 rcases abL x with hx2|hx2
 .have ex:x=2*z.length+2*((x-2*z.length)/2):=by omega
  have hm:=aat ((x-2*z.length)/2+1) (show 0<(aa (be z)).length by omega);obtain⟨w,hw⟩:=ai hm;obtain⟨l,w1,w2⟩:=dK.1 (aab hw);obtain⟨y,hy,rfl⟩:=oI w1;have hgw:(aa (be z)).getD (((x-2*z.length)/2+1)%(aa (be z)).length) 0=w:=by rw[aal,hw];rfl
  have oy:=c.ok y (aab hy);have hd:dn (be z) w=y.p.d:=by have:=(Ze w y hy).1;rw[(oy.pb w2).2] at this;revert this;cases y.p.d<;>cases dn (be z) w<;>simp
  have t:=qf (ls:=be z) ((x-2*z.length)/2);rw[hn,<- ex] at t;rw[t,hgw,O3 h hy,hd];have a:=(c.Tw hl hu hw he hy).1;have r:=W7 hgu he;rw[<- ex] at r;rw[r,a];unfold aM.up;cases y.p.d<;>simp[mZ]
 have ex:x=2*z.length+2*((x-2*z.length)/2)+1:=by omega
 have oy:=c.ok e (aab he);have hd:dn (be z) u=e.p.d:=by have:=(Ze u e he).1;rw[(oy.pb u2).2] at this;revert this;cases e.p.d<;>cases dn (be z) u<;>simp
 have t:=qh (ls:=be z) ((x-2*z.length)/2);rw[hn,<- ex] at t;rw[t,hgu,O3 h he,hd];have r:=W8 hgu he;rw[<- ex] at r;rw[r];unfold aM.lo;cases e.p.d<;>simp[mZ]
theorem Cz.check{T B:Nat->Nat->Nat}{S:List Nat}(c:Cz F z T B S){x:aM}{r:List aM}(hz:z=x::r)(hp:x.k.aA=true)(hd:x.p.d=true)(hl:z.length<=400)(YV:ao Let.aw (be z)<=200)(hF:F<=40):aO F (be z)=0:=by
 have ok:=c.dg (by omega);have hn:(be z).length=z.length:=aah ..;obtain⟨s,h⟩:=c.path;have hx0:z[0]?=some x:=by rw[hz];rfl
 have hs:s.b=false:=by rw[<- nk h hx0,((c.ok x (aab hx0)).pb hp).2,hd];rfl
 have YG:0<z.length:=by rw[hz];simp
 have Ze:=Dg c.ok h hs;have YU:ao Let.aA (be z)%2=0:=by
  obtain⟨y,hy⟩:=ai (ls:=z) (k:=z.length-1) (by omega);have:=(Ze _ y hy).2;rw[u5 h hy,hs,show z.length-1+1=(be z).length by rw[hn];omega] at this;unfold dn at this;rw[aaV] at this
  simpa using this
 have hnw:bb (be z)=ao Let.aA (be z)+ao Let.aw (be z)/2+2:=by
  obtain⟨b1,b2⟩:=Ge ok;have key:∀a∈S,∃d,Ay z d=a/\d<2*z.length:=fun a ha=>by
   obtain⟨y,hy,e⟩:=c.wit a ha;obtain⟨j,hj⟩:=aaO hy;have hjl:=(aac.1 hj).1;rcases e with e|e
   .exact⟨2*j,by unfold Ay;rw[if_pos (by omega),if_pos (by omega),show 2*j/2=j by omega,mB hj,e],by omega⟩
   exact⟨2*j+1,by unfold Ay;rw[if_pos (by omega),if_neg (by omega),show(2*j+1)/2=j by omega,mB hj,e],by omega⟩
  obtain⟨M,m1,m2⟩:=wx (P:=fun a d=>Ay z d=a/\d<2*z.length) (f:=Ay z) (fun a d h=>h.1) key;have hN:nD (be z)=2*z.length+2*(aa (be z)).length:=by unfold nD;rw[hn]
  have:=Nj (maps ok) (φ:=Ay z) (fun y hy=>c.walk (by omega) h hs hy) (reps:=M) (fun d hd=>by obtain⟨_,_,h⟩:=m2 d hd;omega) (by rw[m1];exact c.nd)
  have hM:M.length=S.length:=by rw[<- m1,aah]
  have hnum:=c.num;have:M.length<=bb (be z):=this;omega
 have Yk:be z≠[]:=by intro e;rw[e] at hn;simp at hn;omega
 unfold aO;rw[if_neg (by rw[hn];omega),if_neg (by omega),if_neg Yk,if_pos];unfold dS;have hrk:=(jB c.jc).2 ⟨ok.ax.d9,ok.ax.inj⟩;have adL:(be z).any (cF F)=false:=ac4.2 fun l hl=>by obtain⟨y,hy,rfl⟩:=aan.1 hl;rw[(c.ok y hy).bad];decide
 rw[mO hx0,jZ.2 ⟨adL,hrk,ok.cr⟩,hnw,YU];have hk:(x.k.kind==1)=true:=hp;simp only[hk,beq_self_eq_true,Bool.and_self]
theorem Cert.check{l:List Pc}(c:Cert F l)(hl:l.length<=400)(YV:ao Let.aw (l.map Pc.l)<=200)(hF:F<=40):aO F (mT l)=0:=by
 obtain⟨w,T,B,S,x,r,hz,hp,hd,ZK,hlen,cz⟩:=c.fin;have Ys:ao Let.aw (be w)=ao Let.aw (l.map Pc.l):=by
  rw[ZK];have hf:(jm l).getD 0<=l.length:=by
   cases h:jm l with
   |none=>exact aae _
   |some f=>have:=adS h;simp at this;simp only[aaS];omega
  unfold mT;rw[JB hf];show List.countP _ _=List.countP _ _;rw[aaN,abF,Nat.add_comm,<- abF,<- aaN,aa2]
 rw[<- ZK];exact cz.check hz hp hd (by omega) (by omega) hF
end
def yM(ls:List Let)(x:Nat):Nat:=xP (bY (bU ls) (nD ls)) x
def tK(ls:List Let)(i:Nat):gC:=⟨yM ls (2*i),yM ls (2*i+1),!dn ls (i+1)⟩
def gG(ls:List Let)(i:Nat):aM:=⟨⟨ls.getD i fG,rW ls i⟩,tK ls ((i+ls.length-1)%ls.length),tK ls i⟩
def zF (ls:List Let):List aM:=(List.range ls.length).map (gG ls)
def TF (ls:List Let)(g k:Nat):Nat:=yM ls (2*ls.length+2*((bk ls g+k+(aa ls).length-1)%(aa ls).length))
def BF (ls:List Let)(g k:Nat):Nat:=yM ls (2*ls.length+2*((bk ls g+k+(aa ls).length-1)%(aa ls).length)+1)
theorem tL(ls:List Let):(zF ls).map aM.p=pieces ls:=by unfold zF pieces;rw[abq];rfl
theorem dy(ls:List Let):be (zF ls)=ls:=by
 have h:be (zF ls)=(pieces ls).map Pc.l:=by rw[<- tL,abq];rfl
 rw[h];apply adx;intro i;rw[aaz];by_cases hi:i<ls.length
 .obtain⟨l,hl⟩:=ai hi;rw[dw hl,hl];rfl
 rw[abz (by rw[aB];omega),abz (by omega)];rfl
theorem kn(ls:List Let):(zF ls).length=ls.length:=by simp[zF]
theorem qc{ls:List Let}{i:Nat}(h:i<ls.length):(zF ls)[i]?=some (gG ls i):=by simp[zF,h]
theorem bR{ls:List Let}{i:Nat}{l:Let}(h:ls[i]?=some l):(gG ls i).k=l:=by show ls.getD i fG=l;rw[aal,h];rfl
theorem Fn(f:Nat->aM)(e:Nat->gC):∀k a,(∀i,a<=i->i<a+k->(f i).i=e i/\(f i).o=e (i+1))->dq (e a) ((List.range' a k).map f) (e (a+k)):=by
 intro k
 induction k with
 |zero=>intro a _;rfl
 |succ k ih=>intro a h;rw[List.range'_succ,aar];obtain⟨h1,h2⟩:=h a (aad _) (by omega);refine⟨h1,?_⟩;rw[h2,show a+(k+1)=a+1+k by omega];exact ih (a+1) fun i hi hk=>h i (by omega) (by omega)
theorem ub{R:aM->aM->Prop}{f:Nat->aM}{n:Nat}(h:∀i j,i<n->j<n->i≠j->R (f i) (f j)):((List.range n).map f).Pairwise R:=acu.2 (List.Pairwise.imp_of_mem (fun {a b} ha hb Zv=>h a b (aav.1 ha) (aav.1 hb) Zv) (ac6 (n:=n)))
section
variable {F:Nat} {ls:List Let}
theorem u4(g:cD F ls){i:Nat}{w:List Nat}(hi:(bY (bU ls) (nD ls))[i]?=some w)(hx:x∈w):yM ls x=i:=nZ (gH _ _).1 hi hx
theorem Vq(g:cD F ls)(hx:x<nD ls):∃w,(bY (bU ls) (nD ls))[yM ls x]?=some w/\x∈w:=by obtain⟨u,hu,hxu⟩:=ac9.1 ((gH (bU ls) (nD ls)).2 x hx);obtain⟨i,hi⟩:=aaO hu;rw[u4 g hi hxu];exact⟨u,hi,hxu⟩
theorem jV(g:cD F ls)(hx:x<nD ls):yM ls (bU ls x)=yM ls x:=by obtain⟨w,hw,hxw⟩:=Vq g hx;exact u4 g hw (eT (maps g.ok) (aab hw) hxw)
theorem Dd(g:cD F ls)(hv:v<ls.length)(fw:Bool):yM ls (fR ls.length v fw)=if fw then (gG ls v).i.l else (gG ls v).o.r:=by cases fw<;>rfl
theorem De(fw:Bool):yM ls (aJ ls.length v fw)=if fw then (gG ls v).o.l else (gG ls v).i.r:=by cases fw<;>rfl
theorem PZ(g:cD F ls):dn ls ls.length=true:=by unfold dn;rw[aaV];have:=g.even;simp[this]
theorem SM(g:cD F ls){i:Nat}(hi:i<ls.length):(gG ls i).i.b= !dn ls i:=by
 show(!dn ls ((i+ls.length-1)%ls.length+1))=_;by_cases h:i=0
 .subst h;rw[aa0,aaB (by omega),show ls.length-1+1=ls.length by omega,PZ g];rfl
 rw[show i+ls.length-1=(i-1)+ls.length by omega,abX,aaB (by omega),show i-1+1=i by omega]
theorem vH(hv:v<ls.length)(fw:Bool):fR ls.length v fw<nD ls:=by have:=l7 hv fw;unfold nD;omega
theorem Ks(g:cD F ls){l:Let}(hl:ls[v]?=some l)(hp:l.aA=true):(gG ls v).p.d=dn ls v:=by show rW ls v=_;simp[rW,hl,hp]
theorem qL(g:cD F ls){i:Nat}(hi:i<ls.length):LW F (gG ls i):=by
 obtain⟨l,hl⟩:=ai hi;have hk:=bR hl;refine⟨by rw[hk];exact g.bad l (aab hl),fun hc=>?_,fun hp=>?_⟩
 .rw[hk] at hc;rw[SM g hi];show _= !dn ls (i+1);rw[rV hl (by
   cases hp:l.aA
   .rfl
   rw[dz hp] at hc;cases hc)]
 rw[hk] at hp;rw[SM g hi,Ks g hl hp];refine⟨?_,rfl⟩;show(!dn ls (i+1))=_;rw[qM hl hp,Bool.not_not]
theorem zM(g:cD F ls){i j:Nat}(hi:i<ls.length)(hj:j<ls.length)(Zp:i≠j):Xr (gG ls i) (gG ls j):=by
 obtain⟨l,hl⟩:=ai hi;obtain⟨m,hm⟩:=ai hj;intro hc mc e;rw[bR hl] at hc e;rw[bR hm] at mc e;obtain⟨_,hp⟩:=g.ids;obtain⟨d1,d2⟩:=hp i j l m hl hm hc mc e Zp;obtain⟨b1,w,hw,wc,wi,wo,ws⟩:=bG g.ok.cr hl hc;have hoj:bQ ls i=j:=by refine Classical.byContradiction fun Yk=>?_;have d3:=(hp _ _ w m hw hm wc mc (by rw[wi,e]) Yk).1;rw[wo] at d3;revert d1 d3;cases l.over<;>cases m.over<;>simp
 refine⟨?_,by rw[bR hl,bR hm];exact d2,?_⟩
 .rw[bR hl,bR hm];revert d1;cases l.over<;>cases m.over<;>simp
 rw[bR hl];have t1:=jV g (vH hi true);have t2:=jV g (vH hi false);have t3:=jV g (vH hj true);have t4:=jV g (vH hj false);rw[kr hl hc,hoj,De,Dd g hi] at t1 t2;rw[kr hm mc,<- hoj,b1,hoj,De,Dd g hj] at t3 t4;have hg:(m.over==(m.sign==1))= !gX l:=by unfold gX;rw[<- d2];revert d1;cases l.over<;>cases m.over<;>cases (l.sign==1)<;>simp
 rw[hg] at t3 t4;have hg':(l.over==(l.sign==1))=gX l:=rfl;rw[hg'] at t1 t2;cases hgx:gX l<;>rw[hgx] at t1 t2 t3 t4<;>simp at t1 t2 t3 t4<;>constructor<;>simp[t1,t2,t3,t4]
theorem DJ(g:cD F ls){l:Let}(hl:ls[v]?=some l)(hp:l.aA=true):QY (TF ls) (BF ls) (gG ls v):=by
 have hv:=(aac.1 hl).1;have ok:=g.ok;have gd:=ok.ax.d9 l (aab hl) hp;obtain⟨g0,g1,r0,r1⟩:=gd;obtain⟨a1,a2⟩:=tB ok hl hp;have ai5:=nT ok.ax hl hp;have hP:bk ls l.gate.toNat+l.Yb.toNat=(aa ls).idxOf v+1:=by rw[ai5];unfold dk;omega
 have hPm:bk ls l.gate.toNat+(l.Yb.toNat-1)=(aa ls).idxOf v:=by omega
 have eR:(bk ls l.gate.toNat+l.Yb.toNat+(aa ls).length-1)%(aa ls).length=(aa ls).idxOf v:=by rw[hP,show(aa ls).idxOf v+1+(aa ls).length-1=(aa ls).idxOf v+(aa ls).length by omega,abX,aaB a1]
 have hk:=bR hl;have hd:=Ks g hl hp;have nR:∀k,k<(aa ls).length->2*ls.length+2*k<nD ls/\2*ls.length+2*k+1<nD ls:=fun k hk=>by unfold nD;omega
 have hm:=aat ((aa ls).idxOf v+(aa ls).length-1) (show 0<(aa ls).length by omega);have q1:=jV g (vH hv (dn ls v));have q2:=jV g (vH hv (!dn ls v));have q3:=jV g (nR _ a1).2;have q4:=jV g (nR _ hm).1;rw[sM hl hp,Dd g hv] at q1 q2;rw[qh,a2,De] at q3;rw[qf,fM a1,a2,De] at q4;constructor
 .rw[hk];unfold TF;rw[hPm];unfold aM.up;rw[hd];cases Ze:dn ls v<;>rw[Ze] at q4<;>exact q4
 .rw[hk];unfold TF;rw[eR];unfold aM.up;rw[hd];cases Ze:dn ls v<;>rw[Ze] at q1<;>exact q1.symm
 .rw[hk];unfold BF;rw[hPm];unfold aM.lo;rw[hd];cases Ze:dn ls v<;>rw[Ze] at q2<;>exact q2.symm
 rw[hk];unfold BF;rw[eR];unfold aM.lo;rw[hd];cases Ze:dn ls v<;>rw[Ze] at q3<;>exact q3
theorem cD.cz(g:cD F ls):Cz F (zF ls) (TF ls) (BF ls) (List.range (bb ls)):=by
 have hn:0<ls.length:=aaQ.2 g.ne;have mem:∀x∈zF ls,∃i,i<ls.length/\x=gG ls i:=fun x hx=>by obtain⟨i,hi,rfl⟩:=aan.1 hx;exact⟨i,aav.1 hi,rfl⟩
 have hT:bk ls (F+1)=(aa ls).length:=wU fun l hl hp=>((cJ hp).1 (g.bad l hl)).1.1.1;have hs:=cK ls F;have hm:0<(aa ls).length:=by obtain⟨l,h1,h2⟩:=g.first;exact List.length_pos_of_mem (dK.2 ⟨l,h1,h2⟩)
 have YV:=g.ok.cr;unfold dN at YV;simp only[aaf,beq_iff_eq] at YV;refine⟨⟨tK ls (ls.length-1),?_⟩,fun x hx=>?_,ub fun i j hi hj Zp=>zM g hi hj Zp,by rw[dy];exact YV.1.1,fun x hx hc=>?_,ub fun i j hi hj Zp=>?_,fun x hx hp=>?_,fun x hx hp=>?_,
  fun k hk=>?_,?_,?_,ac6,fun s hs=>?_,?_⟩
 .have:=Fn (gG ls) (fun i=>tK ls ((i+ls.length-1)%ls.length)) ls.length 0 fun i _ hi=>⟨rfl,?_⟩
  .simp only[aa0] at this;rw[aaB (by omega),show ls.length+ls.length-1=(ls.length-1)+ls.length by omega,abX,aaB (by omega),<- List.range_eq_range'] at this;exact this
  show tK ls i=tK ls ((i+1+ls.length-1)%ls.length);rw[show i+1+ls.length-1=i+ls.length by omega,abX,aaB (by omega)]
 .obtain⟨i,hi,rfl⟩:=mem x hx;exact qL g hi
 .obtain⟨i,hi,rfl⟩:=mem x hx;obtain⟨l,hl⟩:=ai hi;rw[bR hl] at hc ⊢;rw[dy];exact g.ids.1 l (aab hl) hc
 .obtain⟨l,hl⟩:=ai hi;obtain⟨m,hm⟩:=ai hj;intro pl pm e1 e2;rw[bR hl] at pl e1 e2;rw[bR hm] at pm e1 e2;exact Zp (g.ok.ax.inj i j l m hl hm pl pm ((yK (g.ok.ax.d9 l (aab hl) pl) (g.ok.ax.d9 m (aab hm) pm)).2 ⟨e1,e2⟩))
 .obtain⟨i,hi,rfl⟩:=mem x hx;obtain⟨l,hl⟩:=ai hi;rw[bR hl] at hp ⊢;rw[dy];obtain⟨_,_,r0,r1⟩:=g.ok.ax.d9 l (aab hl) hp;exact⟨r0,r1⟩
 .obtain⟨i,hi,rfl⟩:=mem x hx;obtain⟨l,hl⟩:=ai hi;rw[bR hl] at hp;exact DJ g hl hp
 .rw[dy];unfold TF BF;rw[cK ls k,abY];exact⟨rfl,rfl⟩
 .rw[dy];unfold TF BF;have e1:bk ls F+cg ls F=(aa ls).length:=by omega
  have e0:bk ls 0=0:=rfl;rw[e1,e0,aa0,show(aa ls).length+(aa ls).length-1=((aa ls).length-1)+(aa ls).length by omega,abX];exact⟨rfl,rfl⟩
 .obtain⟨l,h1,h2⟩:=g.first;exact⟨gG ls 0,aab (qc hn),by rw[bR h1];exact h2⟩
 .obtain⟨w,hw⟩:=ai (aav.1 hs);obtain⟨⟨d,t,e,hd⟩,_⟩:=dY g.ok w (aab hw);have hp:yM ls d=s:=u4 g hw (by rw[e];simp);refine⟨gG ls (d/2),aab (qc (by omega)),?_⟩;rcases abL d with h|h
  .refine .inl ?_;show s=yM ls (2*(d/2));rw[show 2*(d/2)=d by omega,hp]
  refine .inr ?_;show s=yM ls (2*(d/2)+1);rw[show 2*(d/2)+1=d by omega,hp]
 rw[dy,acm,g.nw];omega
end
structure Cq (F:Nat) (z:List aM) (T B:Nat->Nat->Nat):Prop where
 ok:∀x∈z,LW F x
 cr:z.Pairwise Xr
 ev:ao Let.aw (be z)%2=0
 ids:∀x∈z,x.k.aw=true->1<=x.k.id/\x.k.id<=((ao Let.aw (be z)/2:Nat):Int)
 rk:z.Pairwise Dr
 rr:∀x∈z,x.k.aA=true->1<=x.k.Yb/\x.k.Yb<=(cg (be z) x.k.gate.toNat:Int)
 pl:∀x∈z,x.k.aA=true->QY T B x
 gt:∀g,g<F->T g (cg (be z) g)=T (g+1) 0/\B g (cg (be z) g)=B (g+1) 0
 gz:T F (cg (be z) F)=T 0 0/\B F (cg (be z) F)=B 0 0
def gC.mp(ψ:Nat->Nat)(s:gC):gC:=⟨ψ s.l,ψ s.r,s.b⟩
def aM.mp(ψ:Nat->Nat)(h:Let->Let)(x:aM):aM:=⟨⟨h x.p.l,x.p.d⟩,x.i.mp ψ,x.o.mp ψ⟩
theorem X4.mp{g:Bool}{i o j q:gC}(h:X4 g i o j q)(ψ:Nat->Nat):X4 g (i.mp ψ) (o.mp ψ) (j.mp ψ) (q.mp ψ):=by obtain⟨a,b,c,d⟩:=h;cases g<;>simp only[aaq,if_false,if_true] at a b c d<;>constructor<;>simp[gC.mp,a,b,c,d]
theorem T3(ψ:Nat->Nat)(h:Let->Let)(x:aM):(x.mp ψ h).up=x.up.mp ψ:=by unfold aM.up aM.mp;cases x.p.d<;>rfl
theorem T4(ψ:Nat->Nat)(h:Let->Let)(x:aM):(x.mp ψ h).lo=x.lo.mp ψ:=by unfold aM.lo aM.mp;cases x.p.d<;>rfl
theorem oz{ψ:Nat->Nat}{h:Let->Let}:∀ {z:List aM} {s t:gC},dq s z t->dq (s.mp ψ) (z.map (aM.mp ψ h)) (t.mp ψ):=by
 intro z
 induction z with
 |nil=>intro s t e;cases e;rfl
 |cons x z ih=>intro s t e;obtain⟨rfl,e⟩:=e;exact⟨rfl,ih e⟩
theorem zD{S L:List Nat}(hn:S.Nodup):S.length<=(S.filter fun s=> !L.contains s).length+L.length:=by
 have h1:S.length=(S.filter fun s=> !L.contains s).length+(S.filter fun s=>L.contains s).length:=by have:=List.length_eq_countP_add_countP (fun s=> !L.contains s) (l:=S);rw[List.countP_eq_length_filter,List.countP_eq_length_filter] at this;rw[this];congr 2;apply List.filter_congr;intro x _;simp
 have h2:=rh (S.filter fun s=>L.contains s) L (hn.filter _) fun x hx=>by simpa using (abD.1 hx).2
 omega
structure pO (h:Let->Let):Prop where
 kind:∀l,(h l).kind=l.kind
 over:∀l,(h l).over=l.over
 sign:∀l,(h l).sign=l.sign
theorem pO.aA{h:Let->Let}(s:pO h)(l:Let):(h l).aA=l.aA:=by unfold Let.aA;rw[s.kind]
theorem pO.aw{h:Let->Let}(s:pO h)(l:Let):(h l).aw=l.aw:=by unfold Let.aw;rw[s.kind]
theorem pO.id:pO id:=⟨fun _=>rfl,fun _=>rfl,fun _=>rfl⟩
section
variable {F:Nat} {X r X':List aM} {T B T' B':Nat->Nat->Nat} {S:List Nat} {ψ:Nat->Nat} {h:Let->Let}
theorem Cz.q{z:List aM}(c:Cz F z T B S):Cq F z T B:=⟨c.ok,c.cr,c.ev,c.ids,c.rk,c.rr,c.pl,c.gt,c.gz⟩
theorem Cq.perm{z z':List aM}(c:Cq F z T B)(hh:z.Perm z'):Cq F z' T B:=by
 have hm:∀ {x},x∈z'↔x∈z:=fun {x}=>hh.symm.mem_iff;have e:∀p,ao p (be z')=ao p (be z):=fun p=>(fW hh).symm;have eg:∀g,cg (be z') g=cg (be z) g:=fun g=>e _;exact⟨fun x hx=>c.ok x (hm.1 hx),(hh.pairwise_iff fun {x y}=>Xr.symm).1 c.cr,by rw[e];exact c.ev,fun x hx=>by rw[e];exact c.ids x (hm.1 hx),(hh.pairwise_iff fun {x y}=>Dr.symm).1 c.rk,
  fun x hx=>by rw[eg];exact c.rr x (hm.1 hx),fun x hx=>c.pl x (hm.1 hx),fun g hg=>by rw[eg];exact c.gt g hg,by rw[eg];exact c.gz⟩
theorem LW.mp{x:aM}(o:LW F x)(s:pO h)(hb:cF F (h x.k)=false):LW F (x.mp ψ h):=by
 refine⟨hb,fun hc=>?_,fun hp=>?_⟩
 .exact o.cb (by rw[<- s.aw];exact hc)
 exact o.pb (by rw[<- s.aA];exact hp)
theorem Cq.edit(q:Cq F (X++r) T B)(s:pO h)(hb:∀x∈r,cF F (h x.k)=false)
  (hid:∀x∈r,∀y∈r,x.k.aw=true->y.k.aw=true->(h x.k).id=(h y.k).id->x.k.id=y.k.id)
  (hrk:∀x∈r,∀y∈r,x.k.aA=true->y.k.aA=true->(h x.k).gate=(h y.k).gate->(h x.k).Yb=(h y.k).Yb->x.k.gate=y.k.gate/\x.k.Yb=y.k.Yb)
  (n1:∀x∈X',LW F x) (n2:X'.Pairwise Xr) (n3:X'.Pairwise Dr) (n4:∀x∈X',∀y∈r,Xr x (y.mp ψ h)) (n5:∀x∈X',∀y∈r,Dr x (y.mp ψ h))
  (ev:ao Let.aw (be (X'++r.map (aM.mp ψ h)))%2=0)
  (ids:∀x∈X',x.k.aw=true->1<=x.k.id/\x.k.id<=((ao Let.aw (be (X'++r.map (aM.mp ψ h)))/2:Nat):Int))
  (anM:∀x∈r,x.k.aw=true->1<=(h x.k).id/\(h x.k).id<=((ao Let.aw (be (X'++r.map (aM.mp ψ h)))/2:Nat):Int))
  (rr:∀x∈X',x.k.aA=true->1<=x.k.Yb/\x.k.Yb<=(cg (be (X'++r.map (aM.mp ψ h))) x.k.gate.toNat:Int))
  (rr':∀x∈r,x.k.aA=true->1<=(h x.k).Yb/\(h x.k).Yb<=(cg (be (X'++r.map (aM.mp ψ h))) (h x.k).gate.toNat:Int))
  (pl:∀x∈X',x.k.aA=true->QY T' B' x)
  (pl':∀x∈r,x.k.aA=true->(ψ (T x.k.gate.toNat (x.k.Yb.toNat-1))=T' (h x.k).gate.toNat ((h x.k).Yb.toNat-1)/\ψ (B x.k.gate.toNat (x.k.Yb.toNat-1))=B' (h x.k).gate.toNat ((h x.k).Yb.toNat-1))/\ψ (T x.k.gate.toNat x.k.Yb.toNat)=T' (h x.k).gate.toNat (h x.k).Yb.toNat/\ψ (B x.k.gate.toNat x.k.Yb.toNat)=B' (h x.k).gate.toNat (h x.k).Yb.toNat)
  (gt:∀g,g<F->T' g (cg (be (X'++r.map (aM.mp ψ h))) g)=T' (g+1) 0/\B' g (cg (be (X'++r.map (aM.mp ψ h))) g)=B' (g+1) 0)
  (gz:T' F (cg (be (X'++r.map (aM.mp ψ h))) F)=T' 0 0/\B' F (cg (be (X'++r.map (aM.mp ψ h))) F)=B' 0 0):Cq F (X'++r.map (aM.mp ψ h)) T' B':=by
 have crr:=(adR.1 q.cr).2.1;have rkr:=(adR.1 q.rk).2.1;have mem:∀x∈X'++r.map (aM.mp ψ h),x∈X'\/ ∃y∈r,x=y.mp ψ h:=fun x hx=>by
  rcases aaw.1 hx with hx|hx
  .exact .inl hx
  obtain⟨y,hy,rfl⟩:=aan.1 hx;exact .inr ⟨y,hy,rfl⟩
 have in':∀y∈r,y∈X++r:=fun y hy=>acJ _ hy;refine⟨fun x hx=>?_,?_,ev,fun x hx hc=>?_,?_,fun x hx hp=>?_,fun x hx hp=>?_,gt,gz⟩
 .rcases mem x hx with hx|⟨y,hy,rfl⟩
  .exact n1 x hx
  exact(q.ok y (in' y hy)).mp s (hb y hy)
 .refine adR.2 ⟨n2,acu.2 (crr.imp_of_mem fun {x y} hx hy hxy hc hd e=>?_),fun x hx y hy=>?_⟩
  .have hc:x.k.aw=true:=by rw[<- s.aw];exact hc
   have hd:y.k.aw=true:=by rw[<- s.aw];exact hd
   obtain⟨h1,h2,h3⟩:=hxy hc hd (hid x hx y hy hc hd e);refine⟨?_,?_,?_⟩
   .show(h x.k).over= !(h y.k).over;rw[s.over,s.over];exact h1
   .show(h x.k).sign=(h y.k).sign;rw[s.sign,s.sign];exact h2
   have:gX (x.mp ψ h).k=gX x.k:=by show((h x.k).over==((h x.k).sign==1))=_;rw[s.over,s.sign];rfl
   rw[this];exact h3.mp ψ
  obtain⟨w,hw,rfl⟩:=aan.1 hy;exact n4 x hx w hw
 .rcases mem x hx with hx|⟨y,hy,rfl⟩
  .exact ids x hx hc
  exact anM y hy (by rw[<- s.aw];exact hc)
 .refine adR.2 ⟨n3,acu.2 (rkr.imp_of_mem fun {x y} hx hy hxy hc hd e1 e2=>?_),fun x hx y hy=>?_⟩
  .have hc:x.k.aA=true:=by rw[<- s.aA];exact hc
   have hd:y.k.aA=true:=by rw[<- s.aA];exact hd
   obtain⟨f1,f2⟩:=hrk x hx y hy hc hd e1 e2;exact hxy hc hd f1 f2
  obtain⟨w,hw,rfl⟩:=aan.1 hy;exact n5 x hx w hw
 .rcases mem x hx with hx|⟨y,hy,rfl⟩
  .exact rr x hx hp
  exact rr' y hy (by rw[<- s.aA];exact hp)
 rcases mem x hx with hx|⟨y,hy,rfl⟩
 .exact pl x hx hp
 have hp:y.k.aA=true:=by rw[<- s.aA];exact hp
 obtain⟨p1,p2,p3,p4⟩:=q.pl y (in' y hy) hp;obtain⟨⟨a1,a2⟩,a3,a4⟩:=pl' y hy hp;constructor
 .rw[T3];show ψ y.up.r=_;rw[p1];exact a1
 .rw[T3];show ψ y.up.l=_;rw[p2];exact a3
 .rw[T4];show ψ y.lo.r=_;rw[p3];exact a2
 rw[T4];show ψ y.lo.l=_;rw[p4];exact a4
theorem Cq.done{l:List Pc}{z':List aM}{L N:List Nat}{V:Nat}(q:Cq F (X'++r.map (aM.mp ψ h)) T' B')(Zx:S.Nodup)(wit:∀s∈S,∃x∈X++r,s=x.o.l\/s=x.o.r)
  (Ys:z'.Perm (X'++r.map (aM.mp ψ h))) (aer:∃s,dq s z' s) (hl:z'.map aM.p=l) (one:∃x∈X'++r.map (aM.mp ψ h),x.k.aA=true)
  (hψ:∀s∈S,s∉L->ψ s=s) (hX:∀x∈X,∀s∈S,(s=x.o.l\/s=x.o.r)->s∉L->∃y∈X'++r.map (aM.mp ψ h),s=y.o.l\/s=y.o.r)
  (hN:N.Nodup) (hNS:∀s∈N,s∉S) (hNw:∀s∈N,∃y∈X'++r.map (aM.mp ψ h),s=y.o.l\/s=y.o.r)
  (hS:V<=S.length) (num:ao Let.aA (be (X'++r.map (aM.mp ψ h)))+ao Let.aw (be (X'++r.map (aM.mp ψ h)))/2+1+L.length<=V+N.length):Cert F l:=by
 have qz:=q.perm Ys.symm;have hm:∀ {x},x∈z'↔x∈X'++r.map (aM.mp ψ h):=fun {x}=>Ys.mem_iff;refine⟨z',T',B',N++S.filter (fun s=> !L.contains s),hl,⟨aer,qz.ok,qz.cr,qz.ev,qz.ids,qz.rk,qz.rr,qz.pl,qz.gt,qz.gz,?_,?_,fun s hs=>?_,?_⟩⟩
 .obtain⟨x,hx,e⟩:=one;exact⟨x,hm.2 hx,e⟩
 .refine adc.2 ⟨hN,Zx.filter _,fun a ha b hb e=>?_⟩;subst e;exact hNS a ha (abD.1 hb).1
 .have key:∃y∈X'++r.map (aM.mp ψ h),s=y.o.l\/s=y.o.r:=by
   rcases aaw.1 hs with hs|hs
   .exact hNw s hs
   obtain⟨h1,h2⟩:=abD.1 hs;have h2:s∉L:=by simpa using h2
   obtain⟨x,hx,e⟩:=wit s h1;rcases aaw.1 hx with hx|hx
   .exact hX x hx s h1 e h2
   refine⟨x.mp ψ h,acJ _ (aan.2 ⟨x,hx,rfl⟩),?_⟩;have hp:=hψ s h1 h2;rcases e with e|e
   .left;show s=ψ x.o.l;rw[<- e,hp]
   right;show s=ψ x.o.r;rw[<- e,hp]
  obtain⟨y,hy,e⟩:=key;exact⟨y,hm.2 hy,e⟩
 have e:∀p,ao p (be z')=ao p (be (X'++r.map (aM.mp ψ h))):=fun p=>fW Ys;rw[e,e,aaF];have:=zD (L:=L) Zx;omega
end
theorem WV(x:aM):x.mp id id=x:=rfl
theorem fZ(r:List aM):r.map (aM.mp id id)=r:=by rw[show(aM.mp id id)=id from funext fun x=>WV x,List.map_id]
theorem fh(p:Let->Bool)(a b:List aM):ao p (be (a++b))=ao p (be a)+ao p (be b):=by show List.countP p (List.map _ _)=List.countP p (List.map _ _)+List.countP p (List.map _ _);rw[aaN,abF]
theorem aG(p:Let->Bool)(x:aM)(b:List aM):ao p (be (x::b))=(if p x.k then 1 else 0)+ao p (be b):=by show List.countP p (List.map _ _)=_+List.countP p (List.map _ _);rw[aar,abM,Nat.add_comm]
theorem fg(p:Let->Bool):ao p (be [])=0:=rfl
theorem iR{p:Let->Bool}{ψ:Nat->Nat}{h:Let->Let}(hp:∀l,p (h l)=p l)(r:List aM):ao p (be (r.map (aM.mp ψ h)))=ao p (be r):=by
 induction r with
 |nil=>rfl
 |cons x r ih=>rw[aar,aG,aG,ih];show(if p (h x.k) then 1 else 0)+_=_;rw[hp]
theorem pM{l:Let}(g:Nat)(h:l.aw=true):vG g l=false:=by
 unfold vG;cases hp:l.aA
 .rfl
 rw[dz hp] at h;cases h
theorem cA{l:Let}(h:l.aw=true):l.aA=false:=by
 cases hp:l.aA
 .rfl
 rw[dz hp] at h;cases h
theorem UY{x y:aM}(h:x.k.aw=false):Xr x y:=fun hc=>by rw[h] at hc;cases hc
theorem IG{x y:aM}(h:x.k.aw=true):Dr x y:=fun hp=>by rw[cA h] at hp;cases hp
theorem SZ{α:Type}{z:List α}{a:Nat}(ha:a<z.length)(h2:2<=z.length):∃x y r,z.drop a++z.take a=x::y::r/\z[a]?=some x/\z[(a+1)%z.length]?=some y:=by
 obtain⟨x,hx⟩:=ai ha;obtain⟨hl,e⟩:=aac.1 hx;have hd:z.drop a=x::z.drop (a+1):=by rw[<- e,abH]
 by_cases c:a+1<z.length
 .obtain⟨y,hy⟩:=ai c;obtain⟨hl2,e2⟩:=aac.1 hy;have hd2:z.drop (a+1)=y::z.drop (a+1+1):=by rw[<- e2,abH]
  exact⟨x,y,z.drop (a+1+1)++z.take a,by rw[hd,hd2];rfl,hx,by rw[aaB c];exact hy⟩
 have ea:a+1=z.length:=by omega
 obtain⟨y,hy⟩:=ai (ls:=z) (k:=0) (by omega);have hd2:z.drop (a+1)=[]:=List.drop_eq_nil_of_le (by omega);have ht:z.take a=y::(z.take a).drop 1:=by
  have h0:(z.take a)[0]?=some y:=by rw[aa3,if_pos (by omega)];exact hy
  obtain⟨hl3,e3⟩:=aac.1 h0;have:=abH (h:=hl3);rw[e3,List.drop_zero] at this;exact this.symm
 refine⟨x,y,(z.take a).drop 1,?_,hx,by rw[ea,acx];exact hy⟩;rw[hd,hd2]
 conv=>lhs;rw[ht]
 rfl
section
variable {F:Nat} {ls:List Let}
theorem xz{l:Let}(h:l.aw=true):(if Let.aw l=true then 1 else 0)=1/\(if Let.aA l=true then 1 else 0)=0:=by simp[h,cA h]
theorem M8{l:Let}(h:l.aA=true):(if Let.aw l=true then 1 else 0)=0/\(if Let.aA l=true then 1 else 0)=1:=by simp[h,dz h]
theorem XT(g:cD F ls){a:Nat}(ha:a<ls.length){sg:Int}{o:Bool}(hs:sg=1\/sg= -1):Cert F (Wy ls a sg o):=by
 have c:=g.cz;have ZK:=dy ls;obtain⟨s,hp⟩:=c.path;have hz:zF ls=(zF ls).take (a+1)++(zF ls).drop (a+1):=(aa2 ..).symm;rw[hz] at hp;obtain⟨m,hp1,hp2⟩:=fL.1 hp
 let N:Int:=((ao Let.aw ls/2+1:Nat):Int)
 let k:gC:=if o==(sg==1) then ⟨m.r,bb ls,m.b⟩ else ⟨bb ls,m.l,m.b⟩
 let x:aM:=⟨⟨⟨2,0,0,N,sg,o⟩,false⟩,m,k⟩
 let y:aM:=⟨⟨⟨2,0,0,N,sg,!o⟩,false⟩,k,m⟩
 have kb:k.b=m.b:=by show(if _ then _ else _:gC).b=_;split<;>rfl
 have cx:x.k.aw=true:=rfl;have cy:y.k.aw=true:=rfl;have hsg:(sg !=1&&sg != -1)=false:=by rcases hs with rfl|rfl<;>decide
 have bx:∀ov,cF F ⟨2,0,0,N,sg,ov⟩=false:=fun ov=>by simp[cF];simpa using hsg
 have cC:ao Let.aw (be ([x,y]++(zF ls).map (aM.mp id id)))=ao Let.aw ls+2:=by rw[fZ,fh,aG,aG,fg,ZK,(xz cx).1,(xz cy).1];omega
 have cP:ao Let.aA (be ([x,y]++(zF ls).map (aM.mp id id)))=ao Let.aA ls:=by rw[fZ,fh,aG,aG,fg,ZK,(xz cx).2,(xz cy).2];omega
 have cG:∀q,cg (be ([x,y]++(zF ls).map (aM.mp id id))) q=cg ls q:=fun q=>by show ao _ _=ao _ _;rw[fZ,fh,aG,aG,fg,ZK,pM q cx,pM q cy];simp
 have ev:=c.ev;rw[ZK] at ev;have hxc:Xc x y:=by
  refine⟨by show o= !!o;simp,rfl,?_⟩;show X4 (o==(sg==1)) m k k m;cases hg:(o==(sg==1))
  .have:k=⟨bb ls,m.l,m.b⟩:=by show(if _ then _ else _:gC)=_;rw[hg];rfl
   rw[this];constructor<;>rfl
  have:k=⟨m.r,bb ls,m.b⟩:=by show(if _ then _ else _:gC)=_;rw[hg];rfl
  rw[this];constructor<;>rfl
 have acf:∀w∈zF ls,w.k.aw=true->1<=w.k.id/\w.k.id<=((ao Let.aw ls/2:Nat):Int):=fun w hw hc=>by have:=c.ids w hw hc;rwa[ZK] at this
 have q:Cq F ([x,y]++(zF ls).map (aM.mp id id)) (TF ls) (BF ls):=by
  refine Cq.edit (X:=[]) (r:=zF ls) c.q pO.id (fun w hw=>(c.ok w hw).bad) (fun _ _ _ _ _ _ e=>e) (fun _ _ _ _ _ _ e f=>⟨e,f⟩) (fun w hw=>?_) ?_ ?_ (fun u hu w hw=>?_) (fun u hu w hw=>?_) (by rw[cC];omega) (fun w hw hc=>?_) (fun w hw hc=>?_) (fun w hw hp=>?_) (fun w hw hp=>?_) (fun w hw hp=>?_) (fun w hw hp=>⟨⟨rfl,rfl⟩,rfl,rfl⟩) (fun g' hg=>?_) ?_
  .simp only[aag,aaC,or_false] at hw;rcases hw with rfl|rfl
   .exact⟨bx o,fun _=>kb.symm,fun h=>by cases h⟩
   exact⟨bx (!o),fun _=>kb,fun h=>by cases h⟩
  .exact abd.2 ⟨fun w hw=>by simp only[aag,aaC,or_false] at hw;subst hw;exact fun _ _ _=>hxc,adQ ..⟩
  .exact abd.2 ⟨fun w hw=>IG cx,adQ ..⟩
  .intro h1 h2 e;have ZE:=acf w hw h2;simp only[aag,aaC,or_false] at hu;have:u.k.id=N:=by rcases hu with rfl|rfl<;>rfl
   have e:u.k.id=w.k.id:=e;exfalso;omega
  .simp only[aag,aaC,or_false] at hu;rcases hu with rfl|rfl
   .exact IG cx
   exact IG cy
  .rw[cC];simp only[aag,aaC,or_false] at hw;have:w.k.id=N:=by rcases hw with rfl|rfl<;>rfl
   omega
  .rw[cC];have ZE:=acf w hw hc;simp only[id];omega
  .simp only[aag,aaC,or_false] at hw;rcases hw with rfl|rfl<;>cases hp
  .rw[cG];have:=c.rr w hw hp;rwa[ZK] at this
  .simp only[aag,aaC,or_false] at hw;rcases hw with rfl|rfl<;>cases hp
  .have:=c.gt g' hg;rw[ZK] at this;rw[cG];exact this
  have:=c.gz;rw[ZK] at this;rw[cG];exact this
 refine Cq.done (X:=[]) (L:=[]) (N:=[bb ls]) (V:=bb ls) (z':=(zF ls).take (a+1)++[x,y]++(zF ls).drop (a+1)) q c.nd (fun s hs=>c.wit s hs) ?_ ⟨s,?_⟩ ?_ ?_ (fun _ _ _=>rfl) (fun x hx=>by cases hx) (abk.2 ⟨aaC,abr⟩) (fun s hs=>?_) (fun s hs=>?_) (by rw[acm];exact aad _) ?_
 .rw[fZ];have h1:((zF ls).take (a+1)++[x,y]++(zF ls).drop (a+1)).Perm ([x,y]++(zF ls).take (a+1)++(zF ls).drop (a+1)):=List.Perm.append_right _ adU;rw[abx [x,y],<- hz] at h1;exact h1
 .exact fL.2 ⟨m,fL.2 ⟨m,hp1,rfl,rfl,rfl⟩,hp2⟩
 .rw[aaN,aaN,acy,ac2,tL];rfl
 .obtain⟨w,hw,e⟩:=c.one;rw[fZ];exact⟨w,acJ _ hw,e⟩
 .simp only[aag,aaC,or_false] at hs;subst hs;simp
 .simp only[aag,aaC,or_false] at hs;subst hs;refine⟨x,by simp,?_⟩;show bb ls=k.l\/bb ls=k.r;show bb ls=(if _ then _ else _:gC).l\/bb ls=(if _ then _ else _:gC).r;split
  .exact .inr rfl
  exact .inl rfl
 rw[cC,cP];have:=g.nw;simp only[aaA,aas];omega
end
def fN(ids:List Int)(l:Let):Let:=if l.kind==2 then {l with id:=l.id-((ids.take ids.length).countP (fun i=>decide (i<l.id)):Nat)} else l
theorem ga(ids:List Int):pO (fN ids):=by refine⟨fun l=>?_,fun l=>?_,fun l=>?_⟩<;>unfold fN<;>split<;>rfl
theorem OP(ids:List Int)(p:Pc):pS ids p=⟨fN ids p.l,p.d⟩:=by unfold pS fN iH;split<;>rfl
theorem mQ{ids:List Int}{l:Let}(h:l.aA=true):fN ids l=l:=by unfold fN;have:=dz h;unfold Let.aw at this;rw[if_neg (by rw[this];decide)]
theorem FB{ids:List Int}{l:Let}(h:cF F l=false):cF F (fN ids l)=false:=by
 rcases gR h with hp|hc
 .rw[mQ hp];exact h
 have hc':(fN ids l).aw=true:=by rw[(ga ids).aw];exact hc
 rw[qC hc] at h;rw[qC hc'];unfold fN;split<;>exact h
theorem FC(ids:List Int)(g:Nat)(l:Let):vG g (fN ids l)=vG g l:=by
 cases hp:l.aA
 .unfold vG;rw[(ga ids).aA,hp];rfl
 rw[mQ hp]
theorem JV{ids:List Int}{l:Let}(h:l.aw=true):(fN ids l).id=l.id-((ids.countP fun i=>decide (i<l.id):Nat):Int):=by unfold fN;unfold Let.aw at h;rw[if_pos h,aaV]
theorem wy{l:List Pc}{drop:Nat->Pc->Bool}{d:Pc->Bool}(h:∀i p,drop i p=d p):iY l drop=l.filter fun p=> !d p:=by
 have key:∀k,k<=l.length->lR l drop k=(l.take k).filter fun p=> !d p:=by
  intro k
  induction k with
  |zero=>intro _;rfl
  |succ k ih=>
   intro hk;obtain⟨p,hp⟩:=ai (ls:=l) (k:=k) (by omega);rw[abn,hp,List.filter_append,<- ih (by omega)];cases hd:d p
   .rw[lQ hp (by rw[h];exact hd)];simp[hd]
   rw[gO hp (by rw[h];exact hd)];simp[hd]
 unfold iY;rw[key _ (aad _),aaV]
theorem oD:∀ {z:List aM} {s t:gC},dq s z t->z≠[]->∃w∈z,w.o=t:=by
 intro z
 induction z with
 |nil=>intro s t _ h;exact absurd rfl h
 |cons x z ih=>
  intro s t h _;obtain⟨_,h⟩:=h;cases z with
  |nil=>cases h;exact⟨x,by simp,rfl⟩
  |cons y z=>obtain⟨w,hw,e⟩:=ih h (by simp);exact⟨w,abv _ hw,e⟩
section
variable {F:Nat} {ls:List Let}
theorem OI{x y:aM}{r:List aM}{T B:Nat->Nat->Nat}(q:Cq F (x::y::r) T B)(cx:x.k.aw=true)(cy:y.k.aw=true)(e:x.k.id=y.k.id):∀w∈r,w.k.aw=true->w.k.id≠x.k.id:=by intro w hw cw ew;obtain⟨p1,p2⟩:=abd.1 q.cr;obtain⟨p3,_⟩:=abd.1 p2;have a:=(p1 y (by simp) cx cy e).ov;have b:=(p1 w (by simp[hw]) cx cw ew.symm).ov;have d:=(p3 w hw cy cw (by rw[<- e,ew])).ov;rw[b] at a;rw[d] at a;revert a;cases w.k.over<;>simp
theorem Ha(g:cD F ls){a:Nat}(ha:a<ls.length):∃x y r s,(zF ls).drop a++(zF ls).take a=x::y::r/\(pieces ls)[a]?=some x.p/\(pieces ls)[nx ls a]?=some y.p/\
  Cz F (x::y::r) (TF ls) (BF ls) (List.range (bb ls))/\dq s (x::y::r) s/\(pieces ls).drop a++(pieces ls).take a=(x::y::r).map aM.p/\(zF ls)[a]?=some x/\(zF ls)[nx ls a]?=some y/\(x::y::r).Perm (zF ls):=by
 have h2:2<=ls.length:=by obtain⟨l,h1,hp⟩:=g.first;have:=g.even;have:0<ao Let.aA ls:=acI.2 ⟨l,aab h1,hp⟩;have:=ir Let.aA ls;omega
 have hl:=kn ls;obtain⟨x,y,r,e,hx,hy⟩:=SZ (z:=zF ls) (a:=a) (by omega) (by omega);rw[hl] at hy;have c:Cz F ((zF ls).drop a++(zF ls).take a) (TF ls) (BF ls) (List.range (bb ls)):=by refine Cz.t6 ?_;rw[aa2];exact g.cz
 rw[e] at c;obtain⟨s,hs⟩:=c.path;refine⟨x,y,r,s,e,?_,?_,c,hs,?_,hx,hy,?_⟩
 .rw[<- tL,aaz,hx];rfl
 .rw[<- tL,aaz,hy];rfl
 .rw[<- e,aaN,ac2,acy,tL]
 rw[<- e];exact adU.trans (by rw[aa2])
theorem Gl{a:Nat}{d:Pc->Bool}{f:Pc->Pc}(c:Cert F ((((pieces ls).drop a++(pieces ls).take a).filter d).map f)):Cert F (((pieces ls).filter d).map f):=by rw[List.filter_append,aaN] at c;have:=c.t6;rwa[<- aaN,<- List.filter_append,aa2] at this
theorem FM{l:Let}:l.aw=(l.kind==2):=rfl
theorem filter_all{α:Type}{l:List α}{p:α->Bool}(h:∀x∈l,p x=true):l.filter p=l:=List.filter_eq_self.2 h
theorem XU(g:cD F ls){a:Nat}(ha:a<ls.length){L:List Pc}(h:VD ls a=some L):Cert F L:=by
 obtain⟨x,y,r,s,e,hx,hy,c,hp,adz,_,_,Ys⟩:=Ha g ha;have q:=c.q;unfold VD at h;have e1:(pieces ls).getD a ⟨fG,false⟩=x.p:=by rw[aal,hx];rfl
 have e2:(pieces ls).getD ((a+1)%ls.length) ⟨fG,false⟩=y.p:=by rw[aal,hy];rfl
 simp only[e1,e2] at h;split at h
 case isFalse=>cases h
 rename_i hc;simp only[aaf,beq_iff_eq] at hc;obtain⟨Zz,hc2,hid⟩:=hc;have cx:x.k.aw=true:=by rw[FM];simp[Zz]
 have cy:y.k.aw=true:=by rw[FM];simp[hc2]
 have Z0:x.k.id=y.k.id:=hid;cases h;have abE:=OI q cx cy Z0;have hxy:Xc x y:=(abd.1 q.cr).1 y (by simp) cx cy Z0;obtain⟨ZF,Zd,hpr⟩:=hp
 -- both ends of the kink look alike
 have ix:=(q.ok x (by simp)).cb cx;have iy:=(q.ok y (by simp)).cb cy;have hk:=hxy.x4;rw[ZF,Zd] at hk;rw[ZF] at ix;rw[Zd] at iy;have hyo:y.o=s:=by
  obtain⟨k1,k2,k3,k4⟩:=hk;have hb:y.o.b=s.b:=by rw[<- iy,<- ix]
  cases y with
  |mk yp yi yo=>
  cases yo with
  |mk l r b=>
  cases s with
  |mk sl sr sb=>
  cases hg:gX x.k<;>rw[hg] at k1 k2 k3 k4<;>simp only[aaq,if_false,if_true] at k1 k2 k3 k4 hb<;>simp_all
 rw[hyo] at hpr;have aeD:∃b,(s.r=b\/s.l=b)/\ ∀t,(t=x.o.l\/t=x.o.r)->t=s.l\/t=s.r\/t=(if gX x.k then x.o.r else x.o.l):=by
  obtain⟨k1,k2,k3,k4⟩:=hk;refine⟨s.r,.inl rfl,?_⟩;cases hg:gX x.k<;>rw[hg] at k1 k2 k3 k4<;>simp only[aaq,if_false,if_true] at k1 k2 k3 k4 ⊢
  .rintro t (rfl|rfl)
   .exact .inr (.inr rfl)
   exact .inl k1.symm
  rintro t (rfl|rfl)
  .exact .inr (.inl k3)
  exact .inr (.inr rfl)
 obtain⟨_,_,aeD⟩:=aeD;have YU:=q.ev;have hcC:∀z:List aM,ao Let.aw (be (x::y::z))=ao Let.aw (be z)+2:=fun z=>by rw[aG,aG,(xz cx).1,(xz cy).1];omega
 have hcP:∀z:List aM,ao Let.aA (be (x::y::z))=ao Let.aA (be z):=fun z=>by rw[aG,aG,(xz cx).2,(xz cy).2];omega
 have hcG:∀(z:List aM) k,cg (be (x::y::z)) k=cg (be z) k:=fun z k=>by show ao _ _=ao _ _;rw[aG,aG,pM k cx,pM k cy];simp
 have mC:ao Let.aw (be (r.map (aM.mp id (fN [x.k.id]))))=ao Let.aw (be r):=iR (fun l=>(ga _).aw l) r;have mP:ao Let.aA (be (r.map (aM.mp id (fN [x.k.id]))))=ao Let.aA (be r):=iR (fun l=>(ga _).aA l) r;have mG:∀k,cg (be (r.map (aM.mp id (fN [x.k.id])))) k=cg (be r) k:=fun k=>iR (fun l=>FC _ k l) r;have lowid:∀w∈r,w.k.aw=true->(fN [x.k.id] w.k).id=if x.k.id<w.k.id then w.k.id-1 else w.k.id:=fun w hw hc=>by
  rw[JV hc];by_cases c:x.k.id<w.k.id
  .simp[c]
  simp[c]
 have adC:∀w∈x::y::r,w.k.aw=true->1<=w.k.id/\w.k.id<=((ao Let.aw (be r)/2:Nat):Int)+1:=fun w hw hc=>by have:=q.ids w hw hc;rw[hcC] at this;omega
 have hr:r≠[]:=by
  obtain⟨w,hw,hwp⟩:=c.one;rintro rfl
  simp only[aag,aaC,or_false] at hw;rcases hw with rfl|rfl
  .rw[cA cx] at hwp;cases hwp
  rw[cA cy] at hwp;cases hwp
 have inr:∀w∈r,w∈x::y::r:=fun w hw=>by simp[hw]
 have qn:Cq F ([]++r.map (aM.mp id (fN [x.k.id]))) (TF ls) (BF ls):=by
  refine Cq.edit (X:=[x,y]) (r:=r) q (ga _) (fun w hw=>FB (q.ok w (inr w hw)).bad) (fun u hu v hv cu cv e=>?_) (fun u hu v hv pu pv e1 e2=>?_) (fun _ h=>by cases h) List.Pairwise.nil List.Pairwise.nil (fun _ h=>by cases h) (fun _ h=>by cases h) ?_ (fun _ h=>by cases h) (fun u hu cu=>?_) (fun _ h=>by cases h) (fun u hu pu=>?_) (fun _ h=>by cases h) (fun u hu pu=>?_) (fun k hk=>?_) ?_
  .have h1:=abE u hu cu;have h2:=abE v hv cv;rw[lowid u hu cu,lowid v hv cv] at e;split at e<;>split at e<;>omega
  .rw[mQ pu,mQ pv] at e1 e2;exact⟨e1,e2⟩
  .rw[aaE,mC];rw[hcC] at YU;omega
  .rw[aaE,mC,lowid u hu cu];have h1:=adC u (inr u hu) cu;have h2:=abE u hu cu;have h3:=adC x (by simp) cx;split<;>omega
  .rw[aaE,mQ pu,mG,<- hcG r];exact q.rr u (inr u hu) pu
  .rw[mQ pu];exact⟨⟨rfl,rfl⟩,rfl,rfl⟩
  .rw[aaE,mG,<- hcG r];exact q.gt k hk
  rw[aaE,mG,<- hcG r];exact q.gz
 have aci:Cert F (r.map fun w=>pS [x.k.id] w.p):=by
  refine Cq.done (X:=[x,y]) (r:=r) (X':=[]) (L:=[if gX x.k then x.o.r else x.o.l]) (N:=[]) (V:=bb ls) (z':=r.map (aM.mp id (fN [x.k.id]))) qn c.nd (fun t ht=>c.wit t ht) (List.Perm.refl _) ⟨s,oz (ψ:=id) hpr⟩ ?_ ?_ (fun _ _ _=>rfl) (fun w hw t ht ew hL=>?_) abr (fun t ht=>by cases ht) (fun t ht=>by cases ht) (by rw[acm];exact aad _) ?_
  .rw[abq];refine act fun w _=>?_;rw[OP];rfl
  .obtain⟨w,hw,hwp⟩:=c.one;simp only[aag] at hw;rcases hw with rfl|rfl|hw
   .rw[cA cx] at hwp;cases hwp
   .rw[cA cy] at hwp;cases hwp
   refine⟨w.mp id (fN [x.k.id]),?_,?_⟩
   .rw[aaE];exact aan.2 ⟨w,hw,rfl⟩
   show(fN [x.k.id] w.k).aA=true;rw[(ga _).aA];exact hwp
  .obtain⟨v,hv,hvo⟩:=oD hpr hr;have key:t=s.l\/t=s.r:=by
    simp only[aag,aaC,or_false] at hw hL;rcases hw with rfl|rfl
    .rcases aeD t ew with h|h|h
     .exact .inl h
     .exact .inr h
     exact absurd h hL
    rw[hyo] at ew;exact ew
   refine⟨v.mp id (fN [x.k.id]),by rw[aaE];exact aan.2 ⟨v,hv,rfl⟩,?_⟩;show t=id v.o.l\/t=id v.o.r;rw[hvo];exact key
  rw[aaE,mC,mP];have h1:=g.nw;have h2:ao Let.aw (be (x::y::r))=ao Let.aw ls:=by rw[fW Ys,dy]
  have h3:ao Let.aA (be (x::y::r))=ao Let.aA ls:=by rw[fW Ys,dy]
  rw[hcC] at h2;rw[hcP] at h3;simp only[aaA,aas];omega
 show Cert F ((iY (pieces ls) (lY [x.k.id])).map (pS [x.k.id]));rw[wy (l:=pieces ls) (drop:=lY [x.k.id]) (d:=fun p=>(p.l.kind==2)&&[x.k.id].contains p.l.id) fun _ _=>rfl];refine Gl (a:=a) ?_;rw[adz];have hf:((x::y::r).map aM.p).filter (fun p=> !((p.l.kind==2)&&[x.k.id].contains p.l.id))=r.map aM.p:=by
  rw[aar,aar,List.filter_cons_of_neg (by simp[Zz]),List.filter_cons_of_neg (by simp[hc2,hid])];refine filter_all fun p hp=>?_;obtain⟨w,hw,rfl⟩:=aan.1 hp;cases hk:(w.p.l.kind==2)
  .rfl
  have:=abE w hw hk;simp[this]
 rw[hf,abq];exact aci
end
end
end Go.Abs
