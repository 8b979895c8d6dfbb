/-
  Certificates: names of faces at each letter show that a code is valid.
-/
import Derived.Test.YtfohniicngjeoaaGreatDoorVe
set_option linter.all false
set_option maxHeartbeats 16000000
namespace Go.Abs
section
variable{F x:Nat}
theorem WJ{R:Nat->Nat->Prop}{n:Nat}{L:List Nat}(h:∀x,x<n->∃r∈L,bl R x r):K (bl R) n<=L.length:=by
 have key:∀M:List Nat,M.Nodup->(∀x∈M,x<n/\ld (bl R) x)->∃N:List Nat,N.length=M.length/\N.Nodup/\ ∀r∈N,r∈L/\ ∃x∈M,bl R x r:=by
  intro M
  induction M with
  |nil=>intro _ _;exact⟨[],rfl,wS,af⟩
  |cons a M ih=>
   intro hn hm;obtain⟨n1,n2⟩:=r6.1 hn;obtain⟨N,l1,l2,l3⟩:=ih n2 fun x hx=>hm x (by simp[hx]);obtain⟨ha,la⟩:=hm a af;obtain⟨r,hr,e⟩:=h a ha;refine⟨r::N,by simp[l1],r6.2 ⟨fun hN=>?_,l2⟩,fun q hq=>?_⟩
   .obtain⟨_,x,hx,ex⟩:=l3 r hN;have e1:=la x (e.trans ex.symm);have e2:=(hm x (by simp[hx])).2 a (ex.trans e.symm);have:a=x:=aa;exact n1 (this▸hx)
   rcases cP.1 hq with rfl|hq
   .exact⟨hr,a,af,e⟩
   obtain⟨q1,x,hx,ex⟩:=l3 q hq;exact⟨q1,x,by simp[hx],ex⟩
 obtain⟨N,l1,l2,l3⟩:=key ((List.range n).filter (AP (bl R))) (E6.filter _) fun x hx=>by obtain⟨h1,h2⟩:=vG.1 hx;exact⟨gj.1 h1,I4.1 h2⟩
 unfold K;rw[List.countP_eq_length_filter,<- l1];exact JG _ _ l2 fun r hr=>(l3 r hr).1
theorem Pj(p:Nat->Nat)(x:Nat):∀i j,it p (i+j) x=it p i (it p j x):=by
 intro i j
 induction i with
 |zero=>rw[kU];rfl
 |succ i ih=>rw[show i+1+j=(i+j)+1 by omega];show p (it p (i+j) x)=p (it p i (it p j x));rw[ih]
theorem al1{p:Nat->Nat}{m:Nat}(h:it p m x=x):∀k,it p (k*m) x=x:=by
 intro k
 induction k with
 |zero=>rw[zI];rfl
 |succ k ih=>rw[Nat.succ_mul,Pj,h,ih]
theorem anT{n:Nat}{p:Nat->Nat}(h:Perm n p){a b:Nat}(e:bl (gr n p) a b):a=b\/(a<n/\b<n/\ ∃k,it p k a=b):=by
 induction e with
 | @rel a b r=>obtain⟨ha,rfl⟩:=r;exact .inr ⟨ha,h.lt _ ha,1,rfl⟩
 |refl _=>exact .inl rfl
 | @symm a b _ ih=>
  rcases ih with rfl|⟨ha,hb,k,hk⟩
  .exact .inl rfl
  obtain⟨m,hm⟩:=h.Yn ha;refine .inr ⟨hb,ha,k*m,?_⟩;rw[<- hk,<- Pj,show k*m+k=k*(m+1) by rw[Nat.mul_succ]];exact al1 hm k
 |trans _ _ i1 i2=>
  rcases i1 with rfl|⟨ha,hb,k,hk⟩
  .exact i2
  rcases i2 with rfl|⟨_,hc,j,hj⟩
  .exact .inr ⟨ha,hb,k,hk⟩
  exact .inr ⟨ha,hc,j+k,by rw[Pj,hk,hj]⟩
theorem arI{n:Nat}{p:Nat->Nat}(h:Perm n p){a b:Nat}(iQ:a≠b)(e:bl (gr n p) a b):¬bl (gr n (tr p (a,b))) a b:=by
 rcases anT h e with he|⟨ha,hb,k0,Ak⟩
 .exact absurd he iQ
 obtain⟨k,hk,abf⟩:=YR (p:=fun k=>it p k a=b) k0 Ak;have k1:1<=k:=by
  rcases Nat.eq_zero_or_pos k with rfl|h
  .exact absurd hk iQ
  exact h
 have na:∀j,1<=j->j<=k->it p j a≠a:=fun j j1 j2 ej=>by
  rcases Nat.lt_or_eq_of_le j2 with c|rfl
  .have:it p (k-j) a=b:=by
    rw[<- hk,show k=(k-j)+j by omega,Pj,ej];congr 1;omega
   have:=abf _ this;omega
  exact iQ (ej.symm.trans hk)
 have nb:∀j,j<k->it p j a≠b:=fun j j1 ej=>by have:=abf j ej;omega
 intro e2;have inv:∀x y,gr n (tr p (a,b)) x y->(∃j,1<=j/\j<=k/\x=it p j a)=(∃j,1<=j/\j<=k/\y=it p j a):=by
  rintro x y ⟨hx,rfl⟩
  apply propext;unfold tr;simp only;constructor
  .rintro ⟨j,j1,j2,rfl⟩
   rw[if_neg (na j j1 j2)];by_cases c:it p j a=b
   .rw[if_pos c];exact⟨1,aa,k1,rfl⟩
   rw[if_neg c];refine⟨j+1,aa,?_,rfl⟩;rcases Nat.lt_or_eq_of_le j2 with d|rfl
   .exact d
   exact absurd hk c
  by_cases c:x=a
  .rw[if_pos c];rintro ⟨j,j1,j2,ej⟩
   exfalso;have:=h.inj _ _ hb (h.Gp ha (j-1)) (by rw[ej,show j=(j-1)+1 by omega];rfl);by_cases d:j=1
   .subst d;exact iQ this.symm
   exact nb (j-1) aa this.symm
  rw[if_neg c];by_cases d:x=b
  .subst d;intro _;exact⟨k,k1,bN _,hk.symm⟩
  rw[if_neg d];rintro ⟨j,j1,j2,ej⟩
  have:=h.inj _ _ hx (h.Gp ha (j-1)) (by rw[ej,show j=(j-1)+1 by omega];rfl);by_cases f:j=1
  .subst f;exact absurd this c
  exact⟨j-1,aa,aa,this⟩
 have:=e2.inv inv;have oX:∃j,1<=j/\j<=k/\b=it p j a:=⟨k,k1,bN _,hk.symm⟩;rw[<- this] at oX;obtain⟨j,j1,j2,ej⟩:=oX;exact na j j1 j2 ej.symm
theorem K_tr{n:Nat}{p:Nat->Nat}(h:Perm n p){a b:Nat}(ha:a<n)(hb:b<n)(iQ:a≠b):(K (bl (gr n (tr p (a,b)))) n+K (bl (gr n p)) n)%2=1:=by
 have one:∀x y,bl (qx (gr n (tr p (a,b))) a b) x y↔bl (qx (gr n p) a b) x y:=fun x y=>by have h:=Q0 (p:=p) (S:=fun _ _=>False) ha hb (x:=x) (y:=y);have e:∀q:Nat->Nat,(fun x y=>gr n q x y\/False)=gr n q:=fun q=>funext fun x=>funext fun y=>propext af;rw[e,e] at h;exact h
 have kj:K (bl (qx (gr n (tr p (a,b))) a b)) n=K (bl (qx (gr n p) a b)) n:=Hm one n;rcases Classical.em (bl (gr n p) a b) with c|c
 .have k1:=QS c n;have k2:=QR ha hb (arI h iQ c);omega
 have k1:=QR ha hb c;have k2:=QS (afv h ha hb c) n;omega
theorem afV{n:Nat}:∀(ts:List (Nat×Nat)) (p:Nat->Nat),Perm n p->(∀t∈ts,t.1<n/\t.2<n/\t.1≠t.2)->(K (bl (gr n (ts.foldl tr p))) n+K (bl (gr n p)) n+ts.length)%2=0:=by
 intro ts
 induction ts with
 |nil=>intro p _ _;simp only[List.foldl_nil,ff];omega
 |cons t ts ih=>
  intro p hp ht;obtain⟨a,b⟩:=t;obtain⟨ha,hb,iQ⟩:=ht (a,b) af
  replace ha:a<n:=ha
  replace hb:b<n:=hb
  replace iQ:a≠b:=iQ
  have e1:=ih (tr p (a,b)) (hp.tr ha hb) fun t h=>ht t (by simp[h]);have e2:(K (bl (gr n (tr p (a,b)))) n+K (bl (gr n p)) n)%2=1:=K_tr hp ha hb iQ;simp only[Dd,dh];omega
def kL(ls:List Let)(x:Nat):Nat:=aV ls (rv x)
def vC(k:Nat):List (Nat×Nat):=(List.range k).map fun e=>(2*e,2*e+1)
theorem arP(q:Nat->Nat):∀k y,(vC k).foldl tr q y=if y<2*k then q (rv y) else q y:=by
 intro k
 induction k with
 |zero=>intro y;rw[if_neg aa];rfl
 |succ k ih=>
  intro y;have e:vC (k+1)=vC k++[(2*k,2*k+1)]:=by unfold vC;rw[wT,ll];rfl
  rw[e,Kd,Dd,List.foldl_nil,QC];by_cases c1:y=2*k
  .subst c1;rw[if_pos rfl,ih,if_neg aa,if_pos aa,vx]
  rw[if_neg c1];by_cases c2:y=2*k+1
  .subst c2;rw[if_pos rfl,ih,if_neg aa,if_pos aa,Ba]
  rw[if_neg c2,ih];by_cases c3:y<2*k
  .rw[if_pos c3,if_pos aa]
  rw[if_neg c3,if_neg aa]
theorem bl.push{R R':Nat->Nat->Prop}{f:Nat->Nat}(h:∀a b,R a b->bl R' (f a) (f b)){y:Nat}(e:bl R x y):bl R' (f x) (f y):=by
 induction e with
 |rel r=>exact h _ _ r
 |refl a=>exact .refl _
 |symm _ ih=>exact ih.symm
 |trans _ _ i1 i2=>exact i1.trans i2
section
variable {F:Nat} {ls:List Let}
theorem V4(ok:fj F ls):Perm (nD ls) (kL ls):=by
 have m:=maps ok;have hN:=Gz ls;have hr:∀y,y<nD ls->rv y<nD ls:=fun y hy=>by rw[hN] at hy ⊢;exact Bb hy
 refine⟨fun y hy=>m.lt _ (hr y hy),fun x y hx hy e=>?_⟩;have:=m.inj _ _ (hr x hx) (hr y hy) e;rw[<- Bc x,this,Bc]
abbrev E2(ls:List Let):Nat:=ls.length+(aF ls).length
theorem aez{y:Nat}(hy:y<nD ls):(vC (E2 ls)).foldl tr (kL ls) y=aV ls y:=by rw[arP,if_pos (by rw[Gz] at hy;exact hy)];unfold kL;rw[Bc]
theorem akd(x y:Nat):bl (gr (nD ls) ((vC (E2 ls)).foldl tr (kL ls))) x y↔bl (gr (nD ls) (aV ls)) x y:=
 ⟨bl.mono fun a b r=>by obtain⟨h,rfl⟩:=r;exact .rel ⟨h,aez h⟩,bl.mono fun a b r=>by obtain⟨h,rfl⟩:=r;exact .rel ⟨h,(aez h).symm⟩⟩
theorem afx{k:Nat}:∀t∈vC k,t.1<2*k/\t.2<2*k/\t.1≠t.2:=by intro t ht;obtain⟨e,he,rfl⟩:=dQ.1 ht;have:=gj.1 he;refine⟨?_,?_,?_⟩<;>simp only<;>omega
theorem afS(ok:fj F ls):K (bl (gr (nD ls) (aV ls))) (nD ls)=l5 ls:=by
 obtain⟨iR,aaU⟩:=JU (aV ls) (nD ls);have rF:∀w∈iJ (aV ls) (nD ls),w≠[]:=fun w hw=>by obtain⟨⟨d,t,e,_⟩,_⟩:=No ok w hw;rw[e];simp
 have hlen:((iJ (aV ls) (nD ls)).map (·.headD 0)).length=l5 ls:=by rw[cM];rfl
 refine Nat.le_antisymm ?_ ?_
 .rw[<- hlen];refine WJ fun x hx=>?_;obtain⟨w,hw,Eu⟩:=Hd.1 (aaU x hx);obtain⟨⟨d,t,e,_⟩,_⟩:=No ok w hw;refine⟨w.headD 0,dQ.2 ⟨w,hw,rfl⟩,?_⟩;exact Wx (maps ok) (R:=gr (nD ls) (aV ls)) (fun y hy=>.rel ⟨hy,rfl⟩) hw Eu (by rw[e];simp)
 rw[<- hlen];refine WI (f:=C0 (iJ (aV ls) (nD ls))) ?_ (fun x hx=>?_) ?_
 .rintro a b ⟨ha,rfl⟩
  obtain⟨u,hu,hau⟩:=Hd.1 (aaU a ha);obtain⟨i,hi⟩:=jZ hu;rw[Np iR hi hau,Np iR hi (EX (maps ok) hu hau)]
 .obtain⟨w,hw,rfl⟩:=dQ.1 hx;obtain⟨⟨d,t,e,hd⟩,_⟩:=No ok w hw;rw[e];simp only[List.headD_cons];have:nD ls=2*ls.length+2*(aF ls).length:=rfl;omega
 rw[alJ iR rF];exact E6
abbrev EO(ls:List Let):Nat->Nat->Prop:=gr (nD ls) (kL ls)
theorem Q4{v:Nat}(hv:v<ls.length)(g:Bool):dJ ls.length v g<nD ls:=by have h:=BC hv (!g);rw[<- CT] at h;have:=Bb h;rw[Bc] at this;have:nD ls=2*ls.length+2*(aF ls).length:=rfl;omega
theorem aex(v:Nat)(g:Bool):kL ls (dJ ls.length v g)=aV ls (jd ls.length v (!g)):=by unfold kL;rw[CT]
theorem apD(ok:fj F ls){v:Nat}(hv:v<ls.length):bl (EO ls) (dJ ls.length v true) (dJ ls.length v false):=by
 obtain⟨l,hl⟩:=aL hv;have st:=afk ok hv false;have:kL ls (kL ls (dJ ls.length v true))=dJ ls.length v false:=by rw[aex];exact st
 have p:=V4 ok;rw[<- this];exact(bl.rel ⟨Q4 hv true,rfl⟩).trans (.rel ⟨p.lt _ (Q4 hv true),rfl⟩)
theorem Qf(ok:fj F ls){v:Nat}(hv:v<ls.length)(g h:Bool):bl (EO ls) (dJ ls.length v g) (dJ ls.length v h):=by
 have e:=apD ok hv;cases g<;>cases h
 .exact .refl _
 .exact e.symm
 .exact e
 exact .refl _
theorem apE(ok:fj F ls){v:Nat}{l:Let}(hl:ls[v]?=some l)(hc:l.aB=true):bl (EO ls) (dJ ls.length v true) (dJ ls.length (fN ls v) true):=by
 obtain⟨h1,m,hm,mc,mi,mo,ms⟩:=qS ok.cr hl hc;have hv:=(aW.1 hl).1;have hw:=(aW.1 hm).1;have:kL ls (dJ ls.length v true)=dJ ls.length (fN ls v) (false==(l.over==(l.sign==1))):=by rw[aex,Bk hl hc];rfl
 exact(bl.rel ⟨Q4 hv true,this.symm⟩).trans (Qf ok hw _ _)
theorem apC(ok:fj F ls){k:Nat}(hk:k<(aF ls).length):bl (EO ls) (2*ls.length+2*k) (dJ ls.length ((aF ls).getD k 0) true):=by
 have ay:2*ls.length+2*k<nD ls:=by unfold nD;omega
 obtain⟨l,h1,h2⟩:=Fp hk;have hv:=(aW.1 h1).1;have:kL ls (2*ls.length+2*k)=dJ ls.length ((aF ls).getD k 0) (dn ls ((aF ls).getD k 0)):=by unfold kL;rw[show 2*ls.length+2*k=2*(ls.length+k) by omega,vx,show 2*(ls.length+k)+1=2*ls.length+2*k+1 by omega,JL]
 exact(bl.rel ⟨ay,this.symm⟩).trans (Qf ok hv _ _)
theorem apB(ok:fj F ls){k:Nat}(hk:k<(aF ls).length):bl (EO ls) (2*ls.length+2*k+1) (dJ ls.length ((aF ls).getD ((k+1)%(aF ls).length) 0) true):=by
 have ay:2*ls.length+2*k+1<nD ls:=by unfold nD;omega
 obtain⟨l,h1,h2⟩:=Fp (eH (k+1) (show 0<(aF ls).length by omega));have hv:=(aW.1 h1).1;have:kL ls (2*ls.length+2*k+1)=dJ ls.length ((aF ls).getD ((k+1)%(aF ls).length) 0) (!dn ls ((aF ls).getD ((k+1)%(aF ls).length) 0)):=by unfold kL;rw[show 2*ls.length+2*k+1=2*(ls.length+k)+1 by omega,Ba,show 2*(ls.length+k)=2*ls.length+2*k by omega,JM]
 exact(bl.rel ⟨ay,this.symm⟩).trans (Qf ok hv _ _)
theorem apG(ok:fj F ls)(hx:x<nD ls):∃v,v<ls.length/\bl (EO ls) x (dJ ls.length v true):=by
 by_cases c:x<2*ls.length
 .have hy:rv x<2*ls.length:=Bb c;obtain⟨v,fw,hv,e⟩:∃v fw,v<ls.length/\rv x=jd ls.length v fw:=⟨_,_,by
   split
   .exact eH _ aa
   omega,NK hy⟩
  have:x=dJ ls.length v (!fw):=by rw[<- apM,<- e,Bc]
  exact⟨v,hv,by rw[this];exact Qf ok hv _ _⟩
 have hN:nD ls=2*ls.length+2*(aF ls).length:=rfl;have hk:(x-2*ls.length)/2<(aF ls).length:=aa;rcases ym x with h|h
 .obtain⟨l,h1,h2⟩:=Fp hk;refine⟨_,(aW.1 h1).1,?_⟩;have:=apC ok hk;rwa[show 2*ls.length+2*((x-2*ls.length)/2)=x by omega] at this
 obtain⟨l,h1,h2⟩:=Fp (eH ((x-2*ls.length)/2+1) (show 0<(aF ls).length by omega));refine⟨_,(aW.1 h1).1,?_⟩;have:=apB ok hk;rwa[show 2*ls.length+2*((x-2*ls.length)/2)+1=x by omega] at this
theorem arW(ok:fj F ls):∃L:List Nat,L.length=aw Let.aE ls+aw Let.aB ls/2/\(∀j∈L,j<ls.length)/\(L.map (lk ls)).Nodup/\ ∀v,v<ls.length->∃j∈L,lk ls j=lk ls v:=by
 have hc:=ok.cr;unfold lV at hc;simp only[cX,beq_iff_eq] at hc;obtain⟨L,l1,l2,l3⟩:=arV ok;refine⟨L,l1,l2,l3,fun v hv=>?_⟩
 -- all the names there are
 let A:List (Int×Int):=(aF ls).map (fun i:Nat=>((0:Int),(i:Int)))++(eZ ls ls.length).map fun id=>((1:Int),id)
 have hA:A.length=aw Let.aE ls+aw Let.aB ls/2:=by simp only[A,gh,cM,Kr,hc.2]
 have lW:∀v,v<ls.length->lk ls v∈A:=fun v hv=>by
  obtain⟨l,hl⟩:=aL hv;unfold lk;rw[hl];rcases ok.kinds l (aU hl) with hp|fv
  .simp only[pI hp,dL,if_false];exact List.mem_append_left _ (dQ.2 ⟨v,tg.2 ⟨l,hl,hp⟩,rfl⟩)
  simp only[fv,if_true];refine Hc _ (dQ.2 ⟨l.id,?_,rfl⟩);exact(Gl (bN _)).2 ⟨v,l.over,hv,by rw[IF hl fv];simp⟩
 refine Classical.byContradiction fun dD=>?_;have hn:lk ls v∉L.map (lk ls):=fun h=>by obtain⟨j,hj,e⟩:=dQ.1 h;exact dD ⟨j,hj,e⟩
 have O3:∀(X Y:List (Int×Int)),X.Nodup->(∀x∈X,x∈Y)->X.length<=Y.length:=by
  intro X
  induction X with
  |nil=>intro Y _ _;exact bG _
  |cons a X ih=>intro Y hn hs;obtain⟨h1,h2⟩:=r6.1 hn;have ha:=hs a af;have:=ih (Y.erase a) h2 fun x hx=>(List.mem_erase_of_ne (by rintro rfl;exact h1 hx)).2 (hs x (by simp[hx]));rw[List.length_erase_of_mem ha] at this;have:0<Y.length:=Nw ha;simp only[dh];omega
 have:=O3 (lk ls v::L.map (lk ls)) A (r6.2 ⟨hn,l3⟩) fun x hx=>by
  rcases cP.1 hx with rfl|hx
  .exact lW v hv
  obtain⟨j,hj,rfl⟩:=dQ.1 hx;exact lW j (l2 j hj)
 rw[dh,cM,l1,hA] at this;omega
theorem arY(ok:fj F ls){u v:Nat}(hu:u<ls.length)(hv:v<ls.length)(e:lk ls u=lk ls v):bl (EO ls) (dJ ls.length v true) (dJ ls.length u true):=by
 obtain⟨l,hl⟩:=aL hu;obtain⟨m,hm⟩:=aL hv;unfold lk at e;rw[hl,hm] at e;simp only at e;cases cl:l.aB<;>cases cm:m.aB
 .simp only[cl,cm,dL,if_false,kB,true_and] at e;have:u=v:=aa;subst this;exact .refl _
 .simp[cl,cm] at e
 .simp[cl,cm] at e
 simp only[cl,cm,if_true,kB,true_and] at e;have fv:=ok.cr;have hp:GC ls:=by unfold lV at fv;simp only[cX,beq_iff_eq,ko,gj] at fv;exact(GX.1 fv.1.2).2
 by_cases Gj:u=v
 .subst Gj;exact .refl _
 obtain⟨h1,w,hw,wc,wi,wo,ws⟩:=qS ok.cr hm cm;have:fN ls v=u:=by refine Classical.byContradiction fun aH=>?_;have d1:=(hp _ _ w l hw hl wc cl (by rw[wi,e]) aH).1;have d2:=(hp _ _ l m hl hm cl cm e Gj).1;rw[wo] at d1;revert d1 d2;cases l.over<;>cases m.over<;>simp
 have:=apE ok hm cm;rwa[‹fN ls v=u›] at this
theorem afU(ok:fj F ls):K (bl (EO ls)) (nD ls)=aw Let.aE ls+aw Let.aB ls/2:=by
 obtain⟨L,l1,l2,l3,l4⟩:=arW ok;have hN:=Gz ls;have hN':nD ls=2*ls.length+2*(aF ls).length:=rfl;have IL:∀y,y<nD ls->rv y<nD ls:=fun y hy=>by rw[hN] at hy ⊢;exact Bb hy
 have hlen:(L.map (2* ·)).length=aw Let.aE ls+aw Let.aB ls/2:=by rw[cM,l1]
 refine Nat.le_antisymm ?_ ?_
 .rw[<- hlen];refine WJ fun x hx=>?_;obtain⟨v,hv,e⟩:=apG ok hx;obtain⟨j,hj,ej⟩:=l4 v hv;exact⟨2*j,dQ.2 ⟨j,hj,rfl⟩,e.trans (arY ok (l2 j hj) hv ej)⟩
 rw[<- hlen];refine WI (f:=fun x=>lk ls (xB ls (rv x))) ?_ (fun x hx=>?_) ?_
 .rintro a b ⟨ha,rfl⟩
  exact(arR ok (IL a ha)).1.symm
 .obtain⟨j,hj,rfl⟩:=dQ.1 hx;have:=l2 j hj;omega
 rw[uM];have:L.map ((fun x=>lk ls (xB ls (rv x))) ∘ (2* ·))=L.map (lk ls):=Dh fun j hj=>by have:=LR (ls:=ls) (l2 j hj) false;simp only[Function.comp_apply,vx];rw[show 2*j+1=jd ls.length j false from rfl,this]
 rw[this];exact l3
theorem anM(ok:fj F ls):K (bl (xm (nD ls) (kL ls) (vC (E2 ls)))) (nD ls)<=1:=by
 refine afT fun x hx=>?_;obtain⟨b,hb⟩:=aj4 (p:=fun _=>false) (fun _=>rfl) ok hx;have h:=hb 0 ae;have:=h.push (R':=xm (nD ls) (kL ls) (vC (E2 ls))) (f:=fun y=>y/2) ?_
 .have hf:fx b 0<2:=Ox ae;rw[show(2*x+0)/2=x by omega,show fx b 0/2=0 by omega] at this;exact this
 intro u v r;rcases r with ⟨hu,rfl⟩|r
 .refine .rel (.inl ⟨aa,?_⟩);unfold sgC kL fx;simp only[dL,if_false];omega
 refine .rel (.inr ?_);obtain⟨e,he,hm⟩:=List.mem_flatMap.1 r;have oY:(2*e,2*e+1)∈vC (E2 ls):=dQ.2 ⟨e,he,rfl⟩;simp only[cP,jz,or_false,kB] at hm;rcases hm with ⟨rfl,rfl⟩|⟨rfl,rfl⟩
 .rw[Q1];simp only[dL,if_false];rw[show 4*e/2=2*e by omega,show(4*e+2)/2=2*e+1 by omega];exact oY
 rw[Q3];simp only[dL,if_false];rw[show(4*e+1)/2=2*e by omega,show(4*e+3)/2=2*e+1 by omega];exact oY
theorem ajn(ok:fj F ls):l5 ls<=aw Let.aE ls+aw Let.aB ls/2+2/\(l5 ls+(aw Let.aE ls+aw Let.aB ls/2))%2=0:=by
 have hN:=Gz ls;have e1:=aiY (vC (E2 ls)) (kL ls) (V4 ok) fun t ht=>by have:=afx t ht;rw[hN];exact⟨this.1,this.2.1⟩
 have e2:=afV (vC (E2 ls)) (kL ls) (V4 ok) fun t ht=>by have:=afx t ht;rw[hN];exact this
 have hl:(vC (E2 ls)).length=ls.length+(aF ls).length:=by simp[vC]
 rw[Hm akd,afS ok,show K (bl (gr (nD ls) (kL ls))) (nD ls)=_ from afU ok,hl] at e1 e2;have h1:=anM ok;have hPC:=acJ ok;have j6:=Kr (ls:=ls);have fv:=ok.cr;unfold lV at fv;simp only[cX,beq_iff_eq] at fv;have dY:=fv.1.1;omega
end
structure dV where
 l:Nat
 r:Nat
 b:Bool
structure aQ where
 p:Pc
 i:dV
 o:dV
abbrev aQ.k(x:aQ):Let:=x.p.l
def j5:dV->List aQ->dV->Prop
 |s,[],t=>s=t
 |s,x::r,t=>x.i=s/\j5 x.o r t
theorem M1{s t:dV}{a b:List aQ}:j5 s (a++b) t↔ ∃m,j5 s a m/\j5 m b t:=by
 induction a generalizing s with
 |nil=>exact⟨fun h=>⟨s,rfl,h⟩,fun⟨m,h1,h2⟩=>by cases h1;exact h2⟩
 |cons x a ih=>show(x.i=s/\j5 x.o (a++b) t)↔_;rw[ih];exact⟨fun⟨h,m,h1,h2⟩=>⟨m,⟨h,h1⟩,h2⟩,fun⟨m,⟨h,h1⟩,h2⟩=>⟨h,m,h1,h2⟩⟩
theorem an9{s:dV}{a b:List aQ}(h:j5 s (a++b) s):∃m,j5 m (b++a) m:=by obtain⟨m,h1,h2⟩:=M1.1 h;exact⟨m,M1.2 ⟨s,h2,h1⟩⟩
structure X4 (g:Bool) (i o j q:dV):Prop where
 a:if g then i.l=q.l else i.l=j.r
 b:if g then o.r=j.r else o.r=q.l
 c:if g then j.l=i.r else j.l=o.l
 d:if g then q.r=o.l else q.r=i.r
def gX (l:Let):Bool:=l.over==(l.sign==1)
structure Xc (x y:aQ):Prop where
 ov:x.k.over= !y.k.over
 sg:x.k.sign=y.k.sign
 x4:X4 (gX x.k) x.i x.o y.i y.o
theorem Xc.symm{x y:aQ}(h:Xc x y):Xc y x:=by
 obtain⟨h1,h2,a,b,c,d⟩:=h;have e:gX y.k= !gX x.k:=by unfold gX;rw[h1,h2];cases y.k.over<;>cases (y.k.sign==1)<;>rfl
 refine⟨by rw[h1];simp,h2.symm,?_⟩;rw[e];cases hg:gX x.k
 .rw[hg] at a b c d;simp only[dL,if_false] at a b c d;constructor<;>simp only[Bool.not_false,if_true]
  .exact c
  .exact d
  .exact a
  exact b
 rw[hg] at a b c d;simp only[if_true] at a b c d;constructor<;>simp only[Bq,dL,if_false]
 .exact c
 .exact d
 .exact a
 exact b
def iG(s:dV):dV:=⟨s.r,s.l,s.b⟩
def aQ.up(x:aQ):dV:=if x.p.d then x.i else iG x.o
def aQ.lo(x:aQ):dV:=if x.p.d then x.o else iG x.i
structure zq (F:Nat) (x:aQ):Prop where
 bad:dz F x.k=false
 cb:x.k.aB=true->x.i.b=x.o.b
 pb:x.k.aE=true->x.o.b=x.p.d/\x.i.b= !x.p.d
def Xr (x y:aQ):Prop:=x.k.aB=true->y.k.aB=true->x.k.id=y.k.id->Xc x y
theorem Xr.symm{x y:aQ}(h:Xr x y):Xr y x:=fun a b c=>(h b a c.symm).symm
def Dr (x y:aQ):Prop:=x.k.aE=true->y.k.aE=true->x.k.gate=y.k.gate->x.k.aD≠y.k.aD
theorem Dr.symm{x y:aQ}(h:Dr x y):Dr y x:=fun a b c d=>h b a c.symm d.symm
structure GG (T B:Nat->Nat->Nat) (x:aQ):Prop where
 wt:x.up.r=T x.k.gate.toNat (x.k.aD.toNat-1)
 et:x.up.l=T x.k.gate.toNat x.k.aD.toNat
 wb:x.lo.r=B x.k.gate.toNat (x.k.aD.toNat-1)
 eb:x.lo.l=B x.k.gate.toNat x.k.aD.toNat
abbrev aM(z:List aQ):List Let:=z.map aQ.k
structure Cz (F:Nat) (z:List aQ) (T B:Nat->Nat->Nat) (S:List Nat):Prop where
 path:∃s,j5 s z s
 ok:∀x∈z,zq F x
 cr:z.Pairwise Xr
 ev:aw Let.aB (aM z)%2=0
 ids:∀x∈z,x.k.aB=true->1<=x.k.id/\x.k.id<=((aw Let.aB (aM z)/2:Nat):Int)
 rk:z.Pairwise Dr
 rr:∀x∈z,x.k.aE=true->1<=x.k.aD/\x.k.aD<=(cg (aM z) x.k.gate.toNat:Int)
 pl:∀x∈z,x.k.aE=true->GG T B x
 gt:∀g,g<F->T g (cg (aM z) g)=T (g+1) 0/\B g (cg (aM z) g)=B (g+1) 0
 gz:T F (cg (aM z) F)=T 0 0/\B F (cg (aM z) F)=B 0 0
 one:∃x∈z,x.k.aE=true
 nd:S.Nodup
 wit:∀s∈S,∃x∈z,s=x.o.l\/s=x.o.r
 num:aw Let.aE (aM z)+aw Let.aB (aM z)/2+1<=S.length
def Cert(F:Nat)(l:List Pc):Prop:= ∃z T B S,z.map aQ.p=l/\Cz F z T B S
theorem BQ{p:Let->Bool}{z z':List aQ}(h:z.Perm z'):aw p (aM z)=aw p (aM z'):=(h.map aQ.k).countP_eq p
theorem Cz.perm{z z':List aQ}{T B:Nat->Nat->Nat}{S:List Nat}(c:Cz F z T B S)(h:z.Perm z')(hp:∃s,j5 s z' s):Cz F z' T B S:=by
 have hm:∀ {x},x∈z'↔x∈z:=fun {x}=>h.symm.mem_iff;have e:∀p,aw p (aM z')=aw p (aM z):=fun p=>(BQ h).symm;have eg:∀g,cg (aM z') g=cg (aM z) g:=fun g=>e _;refine⟨hp,fun x hx=>c.ok x (hm.1 hx),(h.pairwise_iff fun {x y}=>Xr.symm).1 c.cr,by rw[e];exact c.ev,fun x hx=>by rw[e];exact c.ids x (hm.1 hx),(h.pairwise_iff fun {x y}=>Dr.symm).1 c.rk,
  fun x hx=>by rw[eg];exact c.rr x (hm.1 hx),fun x hx=>c.pl x (hm.1 hx),fun g hg=>by rw[eg];exact c.gt g hg,by rw[eg];exact c.gz,?_,c.nd,fun s hs=>?_,by rw[e,e];exact c.num⟩
 .obtain⟨x,hx,h1⟩:=c.one;exact⟨x,hm.2 hx,h1⟩
 obtain⟨x,hx,h1⟩:=c.wit s hs;exact⟨x,hm.2 hx,h1⟩
theorem Cz.kL{a b:List aQ}{T B:Nat->Nat->Nat}{S:List Nat}(c:Cz F (a++b) T B S):Cz F (b++a) T B S:=by obtain⟨s,h⟩:=c.path;exact c.perm (List.perm_append_comm) (an9 h)
theorem Cert.kL{a b:List Pc}(c:Cert F (a++b)):Cert F (b++a):=by obtain⟨z,T,B,S,h,c⟩:=c;obtain⟨x,y,rfl,rfl,rfl⟩:=List.map_eq_append_iff.1 h;exact⟨y++x,T,B,S,by rw[ll],c.kL⟩
theorem an7:∀ {z:List aQ} {s t:dV},(∀x∈z,zq F x)->j5 s z t->s.b=false->t.b=true->∃x∈z,x.k.aE=true/\x.p.d=true:=by
 intro z
 induction z with
 |nil=>intro s t _ h h1 h2;cases h;rw[h1] at h2;cases h2
 |cons x z ih=>
  intro s t ok h h1 h2;obtain⟨rfl,h⟩:=h;have ox:=ok x af;by_cases hd:x.k.aE=true/\x.p.d=true
  .exact⟨x,af,hd⟩
  have hb:x.o.b=false:=by
   rcases yz ox.bad with hp|hc
   .rw[(ox.pb hp).1];cases FV:x.p.d
    .rfl
    exact absurd ⟨hp,FV⟩ hd
   rw[<- ox.cb hc];exact h1
  obtain⟨y,hy,e⟩:=ih (fun x hx=>ok x (by simp[hx])) h hb h2;exact⟨y,by simp[hy],e⟩
theorem Cz.down{z:List aQ}{T B:Nat->Nat->Nat}{S:List Nat}(c:Cz F z T B S):∃x∈z,x.k.aE=true/\x.p.d=true:=by
 obtain⟨x,hx,hp⟩:=c.one;cases hd:x.p.d
 .obtain⟨a,b,rfl⟩:=List.append_of_mem hx;have c2:=c.kL;obtain⟨s,h⟩:=c2.path;obtain⟨rfl,h⟩:=h;obtain⟨e1,e2⟩:=(c.ok x af).pb hp;rw[hd] at e1 e2;obtain⟨y,hy,e⟩:=an7 (fun y hy=>c.ok y (by
   rcases fg.1 hy with hy|hy
   .simp[hy]
   simp[hy])) h e1 e2
  refine⟨y,?_,e⟩;rcases fg.1 hy with hy|hy
  .simp[hy]
  simp[hy]
 exact⟨x,hx,hp,hd⟩
theorem V2{l:List Pc}{f:Nat}(hf:f<=l.length):vw l f l.length=(l.drop f++l.take f).map Pc.l:=by
 apply Kb;intro i;by_cases hi:i<l.length
 .have h1:(vw l f l.length)[i]?=some (l.getD ((f+i)%l.length) ⟨lh,false⟩).l:=by
   simp[vw,hi]
  rw[h1,fZ];by_cases h2:f+i<l.length
  .rw[De (by simp;omega),Bu,jA h2];simp[h2]
  rw[Bt (by simp;omega),kO];have h3:(f+i)%l.length=i-(l.length-f):=by rw[Nat.mod_eq_sub_mod aa,jA aa];omega
  have h4:i-(l.length-f)<l.length:=aa;rw[h3,mW,if_pos aa];simp[h4]
 have h1:(vw l f l.length).length=l.length:=by simp[vw]
 rw[tZ (by rw[h1];omega),tZ (by simp;omega)]
theorem Cert.fin{l:List Pc}(c:Cert F l):∃z T B S x r,z=x::r/\x.k.aE=true/\x.p.d=true/\aM z=qF l/\z.length=l.length/\Cz F z T B S:=by
 obtain⟨z,T,B,S,h,c⟩:=c;subst h;obtain⟨x,hx,hp,hd⟩:=c.down;have hP:∀y:aQ,y.k.aE=(y.p.l.kind==1):=fun y=>rfl;obtain⟨j,hj⟩:=jZ hx;have xJ:=(aW.1 hj).1;have Co:(z.map aQ.p)[j]?=some x.p:=by rw[fZ,hj];rfl
 obtain⟨f,hf⟩:∃f,uj (z.map aQ.p)=some f:=by
  cases h:uj (z.map aQ.p) with
  |some f=>exact⟨f,rfl⟩
  |none=>have:=Ha.1 h j (by simpa using xJ);rw[VN Co] at this;unfold GF at this;rw[hP] at hp;simp[hp,hd] at this
 have h1:=Kc hf;have h2:f<z.length:=by
  have:=He hf
  simpa using this
 obtain⟨y,hy⟩:=aW.2 ⟨h2,rfl⟩ |> fun h=>(⟨_,h⟩:∃y,z[f]?=some y)
 have hyp:(z.map aQ.p)[f]?=some y.p:=by rw[fZ,hy];rfl
 rw[VN hyp] at h1;unfold GF at h1;rw[cX] at h1;have hz:z=z.take f++y::z.drop (f+1):=by obtain⟨hl,e⟩:=aW.1 hy;rw[<- e,r5,mX]
 have v7:z.drop f=y::z.drop (f+1):=by obtain⟨hl,e⟩:=aW.1 hy;rw[<- e,r5]
 refine⟨y::z.drop (f+1)++z.take f,T,B,S,y,z.drop (f+1)++z.take f,rfl,h1.1,h1.2,?_,?_,?_⟩
 .unfold qF;rw[hf,nc,V2 (by rw[cM];omega),<- v7];simp only[ll,List.map_drop,List.map_take,uM];rfl
 .rw[<- v7,gh,kO,iu,cM];omega
 rw[hz] at c;exact c.kL
theorem aic{ls:List Let}(he:aw Let.aB ls%2=0)(hi:Va ls)(hp:GC ls):lV ls=true:=by
 rw[R8 he (GX.2 ⟨hi,hp⟩)];have Mr:=Wk ls;have hle:∀id∈eZ ls ls.length,aw (lM id) ls<=2:=fun id _=>by rw[Ph id];have:=Ag hp id true;have:=Ag hp id false;omega
 have h1:=afl (f:=fun id=>aw (lM id) ls) _ hle;have h2:(eZ ls ls.length).length<=aw Let.aB ls/2:=by
  have hr:∀id∈eZ ls ls.length,1<=id/\id<=((aw Let.aB ls/2:Nat):Int):=fun id hid=>by obtain⟨j,o,hj,hh⟩:=(Gl (bN _)).1 hid;obtain⟨m,hm,mc,mi,_⟩:=Ah hh;rw[<- mi];exact hi m (aU hm) mc
  have:=JG ((eZ ls ls.length).map Int.toNat) (List.range' 1 (aw Let.aB ls/2)) ?_ ?_
  .rwa[cM,List.length_range'] at this
  .refine yh.2 (List.Pairwise.imp_of_mem (fun {a b} ha hb h e=>h ?_) (O7 ls ls.length));have:=hr a ha;have:=hr b hb;omega
  intro x hx;obtain⟨id,hid,rfl⟩:=dQ.1 hx;have:=hr id hid;rw[List.mem_range'_1];omega
 simp only[beq_iff_eq];omega
theorem Jn{s t:dV}{z:List aQ}{x:aQ}(h:j5 s z t)(hx:z[0]?=some x):x.i=s:=by
 cases z with
 |nil=>cases hx
 |cons y z=>cases hx;exact h.1
theorem ad1:∀ {z:List aQ} {s t:dV} {i:Nat} {x y:aQ},j5 s z t->z[i]?=some x->z[i+1]?=some y->x.o=y.i:=by
 intro z
 induction z with
 |nil=>intro s t i x y _ hx;cases hx
 |cons a z ih=>
  intro s t i x y h hx hy;cases i with
  |zero=>cases hx;exact(Jn h.2 hy).symm
  |succ i=>exact ih h.2 hx hy
theorem adY:∀ {z:List aQ} {s t:dV} {x:aQ},j5 s z t->z[z.length-1]?=some x->x.o=t:=by
 intro z
 induction z with
 |nil=>intro s t x _ hx;cases hx
 |cons a z ih=>
  intro s t x h hx;cases z with
  |nil=>cases hx;exact h.2
  |cons b z=>exact ih h.2 hx
theorem adX{z:List aQ}{s:dV}{j:Nat}{x y:aQ}(h:j5 s z s)(hx:z[j]?=some x)(hy:z[(j+1)%z.length]?=some y):x.o=y.i:=by
 have hj:=(aW.1 hx).1;by_cases c:j+1<z.length
 .rw[jA c] at hy;exact ad1 h hx hy
 have:j+1=z.length:=aa;rw[this,Dj] at hy;rw[adY h (by rw[<- this];exact hx),Jn h hy]
theorem AU{z:List aQ}{i:Nat}{x:aQ}(h:z[i]?=some x):(aM z)[i]?=some x.k:=by rw[fZ,h];rfl
theorem AW{z:List aQ}{i:Nat}{l:Let}(h:(aM z)[i]?=some l):∃x,z[i]?=some x/\x.k=l:=by rw[fZ,dI] at h;exact h
theorem PN{z:List aQ}{s t:dV}(ok:∀x∈z,zq F x)(h:j5 s z t)(hs:s.b=false):∀i x,z[i]?=some x->x.i.b= !dn (aM z) i/\x.o.b= !dn (aM z) (i+1):=by
 have step:∀i x,z[i]?=some x->x.i.b=(!dn (aM z) i)->x.o.b= !dn (aM z) (i+1):=fun i x hx hb=>by
  have ox:=ok x (aU hx);rcases yz ox.bad with hp|hc
  .rw[KN (AU hx) hp,Bool.not_not,(ox.pb hp).1];have:=(ox.pb hp).2;rw[hb] at this;revert this;cases dn (aM z) i<;>cases x.p.d<;>simp
  rw[KO (AU hx) (by
   cases hp:x.k.aE
   .rfl
   rw[pI hp] at hc;cases hc),<- hb,ox.cb hc]
 intro i
 induction i with
 |zero=>
  intro x hx;have:x.i.b= !dn (aM z) 0:=by rw[Jn h hx,hs];rfl
  exact⟨this,step 0 x hx this⟩
 |succ i ih=>intro y hy;obtain⟨x,hx⟩:=aL (ls:=z) (k:=i) (by have:=(aW.1 hy).1;omega);have e:=(ih x hx).2;rw[ad1 h hx hy] at e;exact⟨e,step (i+1) y hy e⟩
theorem ad6{ls:List Let}{f:Nat->Nat->Nat}(hf:∀g,g<F->f g (cg ls g)=f (g+1) 0):∀(d g k g' k':Nat),g'=g+d->g'<=F->k<=cg ls g->k'<=cg ls g'->fP ls g+k=fP ls g'+k'->f g k=f g' k':=by
 intro d
 induction d with
 |zero=>intro g k g' k' e _ _ _ h;rw[yl] at e;subst e;rw[show k=k' by omega]
 |succ d ih=>intro g k g' k' e hF hk sF h;have hm:=zW (ls:=ls) (show g+1<=g' by omega);have hs:=tz ls g;have:k=cg ls g:=aa;subst this;rw[hf g aa];exact ih (g+1) 0 g' k' aa hF (bG _) sF aa
theorem VR{ls:List Let}{f:Nat->Nat->Nat}(hf:∀g,g<F->f g (cg ls g)=f (g+1) 0){g k g' k':Nat}(hg:g<=F)(Cm:g'<=F)(hk:k<=cg ls g)(sF:k'<=cg ls g')(h:fP ls g+k=fP ls g'+k'):f g k=f g' k':=by
 rcases Nat.le_total g g' with c|c
 .exact ad6 hf (g'-g) g k g' k' aa Cm hk sF h
 exact(ad6 hf (g-g') g' k' g k aa hg sF hk h.symm).symm
def MP:aQ:=⟨⟨lh,false⟩,⟨0,0,false⟩,⟨0,0,false⟩⟩
def og(z:List aQ)(x:Nat):Nat:=
 if x<2*z.length then (if x%2=0 then (z.getD (x/2) MP).o.l else (z.getD (x/2) MP).o.r)
 else if x%2=0 then (z.getD ((aF (aM z)).getD ((x-2*z.length)/2) 0) MP).up.l else (z.getD ((aF (aM z)).getD ((x-2*z.length)/2) 0) MP).lo.l
theorem DK{z:List aQ}{i:Nat}{x:aQ}(h:z[i]?=some x):z.getD i MP=x:=by rw[dq,h];rfl
section
variable {F:Nat} {z:List aQ} {s:dV}
theorem Vo(h:j5 s z s){v:Nat}{x:aQ}(hx:z[v]?=some x)(g:Bool):og z (dJ z.length v g)=if g then x.o.l else x.i.r:=by
 have hv:=(aW.1 hx).1;cases g with
 |true=>show og z (2*v)=_;unfold og;rw[if_pos aa,if_pos aa,show 2*v/2=v by omega,DK hx];rfl
 |false=>show og z (2*((v+z.length-1)%z.length)+1)=_;have hm:=eH (v+z.length-1) (show 0<z.length by omega);obtain⟨y,hy⟩:=aL (ls:=z) hm;have e:=adX h hy (by rw[wE hv];exact hx);unfold og;rw[if_pos aa,if_neg aa,show(2*((v+z.length-1)%z.length)+1)/2=(v+z.length-1)%z.length by omega,DK hy,e];rfl
theorem amr(h:j5 s z s){v:Nat}{x:aQ}(hx:z[v]?=some x)(g:Bool):og z (jd z.length v g)=if g then x.i.l else x.o.r:=by
 have hv:=(aW.1 hx).1;cases g with
 |false=>show og z (2*v+1)=_;unfold og;rw[if_pos aa,if_neg aa,show(2*v+1)/2=v by omega,DK hx];rfl
 |true=>show og z (2*((v+z.length-1)%z.length))=_;have hm:=eH (v+z.length-1) (show 0<z.length by omega);obtain⟨y,hy⟩:=aL (ls:=z) hm;have e:=adX h hy (by rw[wE hv];exact hx);unfold og;rw[if_pos aa,if_pos aa,show(2*((v+z.length-1)%z.length))/2=(v+z.length-1)%z.length by omega,DK hy,e];rfl
theorem acE{k v:Nat}{x:aQ}(ha:(aF (aM z)).getD k 0=v)(hx:z[v]?=some x):og z (2*z.length+2*k)=x.up.l:=by unfold og;rw[if_neg aa,if_pos aa,show(2*z.length+2*k-2*z.length)/2=k by omega,ha,DK hx]
theorem acD{k v:Nat}{x:aQ}(ha:(aF (aM z)).getD k 0=v)(hx:z[v]?=some x):og z (2*z.length+2*k+1)=x.lo.l:=by unfold og;rw[if_neg aa,if_neg aa,show(2*z.length+2*k+1-2*z.length)/2=k by omega,ha,DK hx]
theorem Cz.PM{T B:Nat->Nat->Nat}{S:List Nat}(c:Cz F z T B S){i j:Nat}{x y:aQ}(hx:z[i]?=some x)(hy:z[j]?=some y)(gA:i≠j):Xr x y/\Dr x y:=by
 obtain⟨hi,ex⟩:=aW.1 hx;obtain⟨hj,ey⟩:=aW.1 hy;subst ex ey;rcases Nat.lt_or_gt_of_ne gA with h|h
 .exact⟨QN.1 c.cr i j hi hj h,QN.1 c.rk i j hi hj h⟩
 exact⟨(QN.1 c.cr j i hj hi h).symm,(QN.1 c.rk j i hj hi h).symm⟩
theorem Cz.fm{T B:Nat->Nat->Nat}{S:List Nat}(c:Cz F z T B S){x:aQ}(hx:x∈z)(hp:x.k.aE=true):uq F (aM z) x.k:=by obtain⟨⟨⟨⟨g0,g1⟩,_⟩,_⟩,_⟩:=(sR hp).1 (c.ok x hx).bad;obtain⟨r0,r1⟩:=c.rr x hx hp;exact⟨g0,g1,r0,r1⟩
theorem Cz.dg{T B:Nat->Nat->Nat}{S:List Nat}(c:Cz F z T B S)(hl:z.length<=1000000):fj F (aM z):=by
 refine⟨by rw[cM];exact hl,⟨fun l hl hp=>?_,fun i j l m hi hj pl pm e=>?_⟩,aic c.ev (fun l hl hc=>?_) (fun i j l m hi hj cl cm e gA=>?_),fun l hl=>?_⟩
 .obtain⟨x,hx,rfl⟩:=dQ.1 hl;exact c.fm hx hp
 .obtain⟨x,hx,rfl⟩:=AW hi;obtain⟨y,hy,rfl⟩:=AW hj;refine Decidable.byContradiction fun gA=>?_;obtain⟨h1,h2⟩:=(GI (c.fm (aU hx) pl) (c.fm (aU hy) pm)).1 e;exact(c.PM hx hy gA).2 pl pm h1 h2
 .obtain⟨x,hx,rfl⟩:=dQ.1 hl;exact c.ids x hx hc
 .obtain⟨x,hx,rfl⟩:=AW hi;obtain⟨y,hy,rfl⟩:=AW hj;have:=(c.PM hx hy gA).1 cl cm e;refine⟨?_,this.sg⟩;rw[this.ov];cases y.k.over<;>simp
 obtain⟨x,hx,rfl⟩:=dQ.1 hl;exact yz (c.ok x hx).bad
theorem Cz.qG{T B:Nat->Nat->Nat}{S:List Nat}(c:Cz F z T B S):qG F (aM z):=fun l hl hp=>by obtain⟨x,hx,rfl⟩:=dQ.1 hl;exact((sR hp).1 (c.ok x hx).bad).1.1.1
theorem Cz.NL{T B:Nat->Nat->Nat}{S:List Nat}(c:Cz F z T B S)(hl:z.length<=1000000){k u v:Nat}{x y:aQ}(hu:(aF (aM z))[k]?=some u)(hv:(aF (aM z))[(k+1)%(aF (aM z)).length]?=some v)(hx:z[u]?=some x)(hy:z[v]?=some y):x.up.l=y.up.r/\x.lo.l=y.lo.r:=by
 have ok:=c.dg hl;have hk:=(aW.1 hu).1;obtain⟨l,l1,l2,l3⟩:=BG ok.ax hu;obtain⟨m,m1,m2,m3⟩:=BG ok.ax hv;rw[AU hx] at l1;cases l1;rw[AU hy] at m1;cases m1;have gx:=c.fm (aU hx) l2;have gy:=c.fm (aU hy) m2;have px:=c.pl x (aU hx) l2;have py:=c.pl y (aU hy) m2;obtain⟨x1,x2,x3,x4⟩:=gx;obtain⟨y1,y2,y3,y4⟩:=gy;have key:∀f:Nat->Nat->Nat,(∀g,g<F->f g (cg (aM z) g)=f (g+1) 0)->f F (cg (aM z) F)=f 0 0->f x.k.gate.toNat x.k.aD.toNat=f y.k.gate.toNat (y.k.aD.toNat-1):=by
  intro f hf hz;unfold dR at l3 m3;by_cases c1:k+1<(aF (aM z)).length
  .rw[jA c1] at m3;exact VR hf aa aa aa aa aa
  have hT:=Fj c.qG;have hs:=tz (aM z) F;have:k+1=(aF (aM z)).length:=aa;rw[this,Dj] at m3;rw[VR hf (g:=x.k.gate.toNat) (k:=x.k.aD.toNat) (g':=F) (k':=cg (aM z) F) aa (bN _) aa (bN _) aa,hz];exact VR hf (bG _) aa (bG _) aa (by show 0+0=_;omega)
 exact⟨by rw[px.et,py.wt];exact key T (fun g hg=>(c.gt g hg).1) c.gz.1,by rw[px.eb,py.wb];exact key B (fun g hg=>(c.gt g hg).2) c.gz.2⟩
theorem Cz.walk{T B:Nat->Nat->Nat}{S:List Nat}(c:Cz F z T B S)(hl:z.length<=1000000)(h:j5 s z s)(hs:s.b=false)(hx:x<nD (aM z)):og z (aV (aM z) x)=og z x:=by
 have ok:=c.dg hl;have hn:(aM z).length=z.length:=cM ..;have hN:nD (aM z)=2*z.length+2*(aF (aM z)).length:=by unfold nD;rw[hn]
 have eF:=PN c.ok h hs;by_cases c1:x<2*z.length
 .obtain⟨v,fw,hv,rfl⟩:∃v fw,v<z.length/\x=jd z.length v fw:=⟨_,_,by
   split
   .exact eH _ aa
   omega,NK c1⟩
  obtain⟨e,he⟩:=aL (ls:=z) hv;have hle:=AU he;have oe:=c.ok e (aU he);rw[amr h he];rcases yz oe.bad with hp|hc
  .have hd:dn (aM z) v=e.p.d:=by
    have:=(eF v e he).1;rw[(oe.pb hp).2] at this;revert this;cases e.p.d<;>cases dn (aM z) v<;>simp
   obtain⟨a1,a2⟩:=Kq ok hle hp;have t:=Nh hle hp fw;rw[hn] at t;rw[t,hd];by_cases c2:(e.p.d==fw)=true
   .rw[if_pos c2,acE a2 he];unfold aQ.up;have:=eq_of_beq c2;subst this;cases e.p.d<;>rfl
   rw[if_neg c2];have hm:=eH ((aF (aM z)).idxOf v+(aF (aM z)).length-1) (show 0<(aF (aM z)).length by omega);obtain⟨u,hu⟩:=aL hm;obtain⟨l,u1,u2⟩:=tg.1 (aU hu);obtain⟨y,hy,rfl⟩:=AW u1;have hv':(aF (aM z))[(aF (aM z)).idxOf v]?=some v:=by obtain⟨q,hq⟩:=aL a1;rw[dq,hq] at a2;rw[hq];exact congrArg some a2
   have:=(c.NL hl hu (by rw[wE a1];exact hv') hy he).2;rw[acD (by rw[dq,hu];rfl) hy,this];unfold aQ.lo;revert c2;cases e.p.d<;>cases fw<;>simp[iG]
  obtain⟨b1,m,hm,mc,mi,mo,ms⟩:=qS ok.cr hle hc;obtain⟨y,hy,rfl⟩:=AW hm;have aH:v≠fN (aM z) v:=by intro ee;rw[<- ee,hle] at hm;have:=qZ hm;rw[<- this] at mo;revert mo;cases e.k.over<;>simp
  obtain⟨_,_,xa,xb,xc,xd⟩:=(c.PM he hy aH).1 hc mc mi.symm;have t:=Bk hle hc fw;rw[hn] at t;rw[t,Vo h hy];unfold gX at xa xb;cases hg:(e.k.over==(e.k.sign==1))<;>rw[hg] at xa xb<;>simp only[dL,if_false,if_true] at xa xb<;>cases fw<;>simp_all
 have hk:(x-2*z.length)/2<(aF (aM z)).length:=aa;obtain⟨u,hu⟩:=aL hk;obtain⟨l,u1,u2⟩:=tg.1 (aU hu);obtain⟨e,he,rfl⟩:=AW u1;have hgu:(aF (aM z)).getD ((x-2*z.length)/2) 0=u:=by rw[dq,hu];rfl
 rcases ym x with zg|zg
 .have ex:x=2*z.length+2*((x-2*z.length)/2):=aa;have hm:=eH ((x-2*z.length)/2+1) (show 0<(aF (aM z)).length by omega);obtain⟨w,hw⟩:=aL hm;obtain⟨l,w1,w2⟩:=tg.1 (aU hw);obtain⟨y,hy,rfl⟩:=AW w1;have hgw:(aF (aM z)).getD (((x-2*z.length)/2+1)%(aF (aM z)).length) 0=w:=by rw[dq,hw];rfl
  have oy:=c.ok y (aU hy);have hd:dn (aM z) w=y.p.d:=by have:=(eF w y hy).1;rw[(oy.pb w2).2] at this;revert this;cases y.p.d<;>cases dn (aM z) w<;>simp
  have t:=JM (ls:=aM z) ((x-2*z.length)/2);rw[hn,<- ex] at t;rw[t,hgw,Vo h hy,hd];have a:=(c.NL hl hu hw he hy).1;have r:=acE hgu he;rw[<- ex] at r;rw[r,a];unfold aQ.up;cases y.p.d<;>simp[iG]
 have ex:x=2*z.length+2*((x-2*z.length)/2)+1:=aa;have oy:=c.ok e (aU he);have hd:dn (aM z) u=e.p.d:=by have:=(eF u e he).1;rw[(oy.pb u2).2] at this;revert this;cases e.p.d<;>cases dn (aM z) u<;>simp
 have t:=JL (ls:=aM z) ((x-2*z.length)/2);rw[hn,<- ex] at t;rw[t,hgu,Vo h he,hd];have r:=acD hgu he;rw[<- ex] at r;rw[r];unfold aQ.lo;cases e.p.d<;>simp[iG]
theorem Cz.check{T B:Nat->Nat->Nat}{S:List Nat}(c:Cz F z T B S){x:aQ}{r:List aQ}(hz:z=x::r)(hp:x.k.aE=true)(hd:x.p.d=true)(hl:z.length<=400)(fv:aw Let.aB (aM z)<=200)(hF:F<=40):cU F (aM z)=0:=by
 have ok:=c.dg aa;have hn:(aM z).length=z.length:=cM ..;obtain⟨s,h⟩:=c.path;have nG:z[0]?=some x:=by rw[hz];rfl
 have hs:s.b=false:=by rw[<- Jn h nG,((c.ok x (aU nG)).pb hp).2,hd];rfl
 have ju:0<z.length:=by rw[hz];simp
 have eF:=PN c.ok h hs;have dY:aw Let.aE (aM z)%2=0:=by
  obtain⟨y,hy⟩:=aL (ls:=z) (k:=z.length-1) aa;have:=(eF _ y hy).2;rw[adY h hy,hs,show z.length-1+1=(aM z).length by rw[hn];omega] at this;unfold dn at this;rw[kS] at this
  simpa using this
 have Md:l5 (aM z)=aw Let.aE (aM z)+aw Let.aB (aM z)/2+2:=by
  obtain⟨b1,b2⟩:=ajn ok;have key:∀a∈S,∃d,og z d=a/\d<2*z.length:=fun a ha=>by
   obtain⟨y,hy,e⟩:=c.wit a ha;obtain⟨j,hj⟩:=jZ hy;have xJ:=(aW.1 hj).1;rcases e with e|e
   .exact⟨2*j,by unfold og;rw[if_pos aa,if_pos aa,show 2*j/2=j by omega,DK hj,e],aa⟩
   exact⟨2*j+1,by unfold og;rw[if_pos aa,if_neg aa,show(2*j+1)/2=j by omega,DK hj,e],aa⟩
  obtain⟨M,m1,m2⟩:=acO (P:=fun a d=>og z d=a/\d<2*z.length) (f:=og z) (fun a d h=>h.1) key;have hN:nD (aM z)=2*z.length+2*(aF (aM z)).length:=by unfold nD;rw[hn]
  have:=asa (maps ok) (φ:=og z) (fun y hy=>c.walk aa h hs hy) (reps:=M) (fun d hd=>by obtain⟨_,_,h⟩:=m2 d hd;omega) (by rw[m1];exact c.nd)
  have hM:M.length=S.length:=by rw[<- m1,cM]
  have hnum:=c.num;have:M.length<=l5 (aM z):=this;omega
 have aH:aM z≠[]:=by intro e;rw[e] at hn;simp at hn;omega
 unfold cU;rw[if_neg (by rw[hn];omega),if_neg aa,if_neg aH,if_pos];unfold lR;have lJ:=(M5 c.qG).2 ⟨ok.ax.fm,ok.ax.inj⟩;have Uw:(aM z).any (dz F)=false:=G0.2 fun l hl=>by obtain⟨y,hy,rfl⟩:=dQ.1 hl;rw[(c.ok y hy).bad];decide
 rw[AU nG,Vs.2 ⟨Uw,lJ,ok.cr⟩,Md,dY];have hk:(x.k.kind==1)=true:=hp;simp only[hk,beq_self_eq_true,wN]
theorem Cert.check{l:List Pc}(c:Cert F l)(hl:l.length<=400)(fv:aw Let.aB (l.map Pc.l)<=200)(hF:F<=40):cU F (qF l)=0:=by
 obtain⟨w,T,B,S,x,r,hz,hp,hd,Ao,hlen,cz⟩:=c.fin;have nE:aw Let.aB (aM w)=aw Let.aB (l.map Pc.l):=by
  rw[Ao];have hf:(uj l).getD 0<=l.length:=by
   cases h:uj l with
   |none=>exact bG _
   |some f=>have:=He h;simp at this;simp only[nc];omega
  unfold qF;rw[V2 hf];show List.countP _ _=List.countP _ _;rw[ll,vF,Nat.add_comm,<- vF,<- ll,mX]
 rw[<- Ao];exact cz.check hz hp hd aa aa hF
end
def wH(ls:List Let)(x:Nat):Nat:=C0 (iJ (aV ls) (nD ls)) x
def qu(ls:List Let)(i:Nat):dV:=⟨wH ls (2*i),wH ls (2*i+1),!dn ls (i+1)⟩
def dM(ls:List Let)(i:Nat):aQ:=⟨⟨ls.getD i lh,gV ls i⟩,qu ls ((i+ls.length-1)%ls.length),qu ls i⟩
def zF (ls:List Let):List aQ:=(List.range ls.length).map (dM ls)
def TF (ls:List Let)(g k:Nat):Nat:=wH ls (2*ls.length+2*((fP ls g+k+(aF ls).length-1)%(aF ls).length))
def BF (ls:List Let)(g k:Nat):Nat:=wH ls (2*ls.length+2*((fP ls g+k+(aF ls).length-1)%(aF ls).length)+1)
theorem GZ(ls:List Let):(zF ls).map aQ.p=pieces ls:=by unfold zF pieces;rw[uM];rfl
theorem jL(ls:List Let):aM (zF ls)=ls:=by
 have h:aM (zF ls)=(pieces ls).map Pc.l:=by rw[<- GZ,uM];rfl
 rw[h];apply Kb;intro i;rw[fZ];by_cases hi:i<ls.length
 .obtain⟨l,hl⟩:=aL hi;rw[rV hl,hl];rfl
 rw[tZ (by rw[fW];omega),tZ aa];rfl
theorem Bo(ls:List Let):(zF ls).length=ls.length:=by simp[zF]
theorem Bn{ls:List Let}{i:Nat}(h:i<ls.length):(zF ls)[i]?=some (dM ls i):=by simp[zF,h]
theorem dT{ls:List Let}{i:Nat}{l:Let}(h:ls[i]?=some l):(dM ls i).k=l:=by show ls.getD i lh=l;rw[dq,h];rfl
theorem adZ(f:Nat->aQ)(e:Nat->dV):∀k a,(∀i,a<=i->i<a+k->(f i).i=e i/\(f i).o=e (i+1))->j5 (e a) ((List.range' a k).map f) (e (a+k)):=by
 intro k
 induction k with
 |zero=>intro a _;rfl
 |succ k ih=>intro a h;rw[List.range'_succ,dS];obtain⟨h1,h2⟩:=h a (bN _) aa;refine⟨h1,?_⟩;rw[h2,show a+(k+1)=a+1+k by omega];exact ih (a+1) fun i hi hk=>h i aa aa
theorem PL{R:aQ->aQ->Prop}{f:Nat->aQ}{n:Nat}(h:∀i j,i<n->j<n->i≠j->R (f i) (f j)):((List.range n).map f).Pairwise R:=yh.2 (List.Pairwise.imp_of_mem (fun {a b} ha hb iQ=>h a b (gj.1 ha) (gj.1 hb) iQ) (E6 (n:=n)))
section
variable {F:Nat} {ls:List Let}
theorem VP(g:dF F ls){i:Nat}{w:List Nat}(hi:(iJ (aV ls) (nD ls))[i]?=some w)(hx:x∈w):wH ls x=i:=Np (JU _ _).1 hi hx
theorem aof(g:dF F ls)(hx:x<nD ls):∃w,(iJ (aV ls) (nD ls))[wH ls x]?=some w/\x∈w:=by obtain⟨u,hu,hxu⟩:=Hd.1 ((JU (aV ls) (nD ls)).2 x hx);obtain⟨i,hi⟩:=jZ hu;rw[VP g hi hxu];exact⟨u,hi,hxu⟩
theorem EL(g:dF F ls)(hx:x<nD ls):wH ls (aV ls x)=wH ls x:=by obtain⟨w,hw,Eu⟩:=aof g hx;exact VP g hw (EX (maps g.ok) (aU hw) Eu)
theorem VO(g:dF F ls){v:Nat}(hv:v<ls.length)(fw:Bool):wH ls (jd ls.length v fw)=if fw then (dM ls v).i.l else (dM ls v).o.r:=by cases fw<;>rfl
theorem PT{v:Nat}(fw:Bool):wH ls (dJ ls.length v fw)=if fw then (dM ls v).o.l else (dM ls v).i.r:=by cases fw<;>rfl
theorem Sf(g:dF F ls):dn ls ls.length=true:=by unfold dn;rw[kS];have:=g.even;simp[this]
theorem O9(g:dF F ls){i:Nat}(hi:i<ls.length):(dM ls i).i.b= !dn ls i:=by
 show(!dn ls ((i+ls.length-1)%ls.length+1))=_;by_cases h:i=0
 .subst h;rw[kU,jA aa,show ls.length-1+1=ls.length by omega,Sf g];rfl
 rw[show i+ls.length-1=(i-1)+ls.length by omega,yj,jA aa,show i-1+1=i by omega]
theorem Ht{v:Nat}(hv:v<ls.length)(fw:Bool):jd ls.length v fw<nD ls:=by have:=BC hv fw;unfold nD;omega
theorem NZ(g:dF F ls){v:Nat}{l:Let}(hl:ls[v]?=some l)(hp:l.aE=true):(dM ls v).p.d=dn ls v:=by show gV ls v=_;simp[gV,hl,hp]
theorem DE(g:dF F ls){i:Nat}(hi:i<ls.length):zq F (dM ls i):=by
 obtain⟨l,hl⟩:=aL hi;have hk:=dT hl;refine⟨by rw[hk];exact g.bad l (aU hl),fun hc=>?_,fun hp=>?_⟩
 .rw[hk] at hc;rw[O9 g hi];show _= !dn ls (i+1);rw[KO hl (by
   cases hp:l.aE
   .rfl
   rw[pI hp] at hc;cases hc)]
 rw[hk] at hp;rw[O9 g hi,NZ g hl hp];refine⟨?_,rfl⟩;show(!dn ls (i+1))=_;rw[KN hl hp,Bool.not_not]
theorem KU(g:dF F ls){i j:Nat}(hi:i<ls.length)(hj:j<ls.length)(gA:i≠j):Xr (dM ls i) (dM ls j):=by
 obtain⟨l,hl⟩:=aL hi;obtain⟨m,hm⟩:=aL hj;intro hc mc e;rw[dT hl] at hc e;rw[dT hm] at mc e;obtain⟨_,hp⟩:=g.ids;obtain⟨d1,d2⟩:=hp i j l m hl hm hc mc e gA;obtain⟨b1,w,hw,wc,wi,wo,ws⟩:=qS g.ok.cr hl hc;have hoj:fN ls i=j:=by refine Classical.byContradiction fun aH=>?_;have d3:=(hp _ _ w m hw hm wc mc (by rw[wi,e]) aH).1;rw[wo] at d3;revert d1 d3;cases l.over<;>cases m.over<;>simp
 refine⟨?_,by rw[dT hl,dT hm];exact d2,?_⟩
 .rw[dT hl,dT hm];revert d1;cases l.over<;>cases m.over<;>simp
 rw[dT hl];have t1:=EL g (Ht hi true);have t2:=EL g (Ht hi false);have t3:=EL g (Ht hj true);have t4:=EL g (Ht hj false);rw[Bk hl hc,hoj,PT,VO g hi] at t1 t2;rw[Bk hm mc,<- hoj,b1,hoj,PT,VO g hj] at t3 t4;have hg:(m.over==(m.sign==1))= !gX l:=by unfold gX;rw[<- d2];revert d1;cases l.over<;>cases m.over<;>cases (l.sign==1)<;>simp
 rw[hg] at t3 t4;have Cm:(l.over==(l.sign==1))=gX l:=rfl;rw[Cm] at t1 t2;cases yW:gX l<;>rw[yW] at t1 t2 t3 t4<;>simp at t1 t2 t3 t4<;>constructor<;>simp[t1,t2,t3,t4]
theorem N4(g:dF F ls){v:Nat}{l:Let}(hl:ls[v]?=some l)(hp:l.aE=true):GG (TF ls) (BF ls) (dM ls v):=by
 have hv:=(aW.1 hl).1;have ok:=g.ok;have gd:=ok.ax.fm l (aU hl) hp;obtain⟨g0,g1,r0,r1⟩:=gd;obtain⟨a1,a2⟩:=Kq ok hl hp;have UD:=Ks ok.ax hl hp;have hP:fP ls l.gate.toNat+l.aD.toNat=(aF ls).idxOf v+1:=by rw[UD];unfold dR;omega
 have hPm:fP ls l.gate.toNat+(l.aD.toNat-1)=(aF ls).idxOf v:=aa;have eR:(fP ls l.gate.toNat+l.aD.toNat+(aF ls).length-1)%(aF ls).length=(aF ls).idxOf v:=by rw[hP,show(aF ls).idxOf v+1+(aF ls).length-1=(aF ls).idxOf v+(aF ls).length by omega,yj,jA a1]
 have hk:=dT hl;have hd:=NZ g hl hp;have nR:∀k,k<(aF ls).length->2*ls.length+2*k<nD ls/\2*ls.length+2*k+1<nD ls:=fun k hk=>by unfold nD;omega
 have hm:=eH ((aF ls).idxOf v+(aF ls).length-1) (show 0<(aF ls).length by omega);have q1:=EL g (Ht hv (dn ls v));have q2:=EL g (Ht hv (!dn ls v));have q3:=EL g (nR _ a1).2;have q4:=EL g (nR _ hm).1;rw[Nh hl hp,VO g hv] at q1 q2;rw[JL,a2,PT] at q3;rw[JM,wE a1,a2,PT] at q4;constructor
 .rw[hk];unfold TF;rw[hPm];unfold aQ.up;rw[hd];cases eF:dn ls v<;>rw[eF] at q4<;>exact q4
 .rw[hk];unfold TF;rw[eR];unfold aQ.up;rw[hd];cases eF:dn ls v<;>rw[eF] at q1<;>exact q1.symm
 .rw[hk];unfold BF;rw[hPm];unfold aQ.lo;rw[hd];cases eF:dn ls v<;>rw[eF] at q2<;>exact q2.symm
 rw[hk];unfold BF;rw[eR];unfold aQ.lo;rw[hd];cases eF:dn ls v<;>rw[eF] at q3<;>exact q3
theorem dF.cz(g:dF F ls):Cz F (zF ls) (TF ls) (BF ls) (List.range (l5 ls)):=by
 have hn:0<ls.length:=iX.2 g.ne;have mem:∀x∈zF ls,∃i,i<ls.length/\x=dM ls i:=fun x hx=>by obtain⟨i,hi,rfl⟩:=dQ.1 hx;exact⟨i,gj.1 hi,rfl⟩
 have hT:fP ls (F+1)=(aF ls).length:=Fj fun l hl hp=>((sR hp).1 (g.bad l hl)).1.1.1;have hs:=tz ls F;have hm:0<(aF ls).length:=by obtain⟨l,h1,h2⟩:=g.first;exact Nw (tg.2 ⟨l,h1,h2⟩)
 have fv:=g.ok.cr;unfold lV at fv;simp only[cX,beq_iff_eq] at fv;refine⟨⟨qu ls (ls.length-1),?_⟩,fun x hx=>?_,PL fun i j hi hj gA=>KU g hi hj gA,by rw[jL];exact fv.1.1,fun x hx hc=>?_,PL fun i j hi hj gA=>?_,fun x hx hp=>?_,fun x hx hp=>?_,
  fun k hk=>?_,?_,?_,E6,fun s hs=>?_,?_⟩
 .have:=adZ (dM ls) (fun i=>qu ls ((i+ls.length-1)%ls.length)) ls.length 0 fun i _ hi=>⟨rfl,?_⟩
  .simp only[kU] at this;rw[jA aa,show ls.length+ls.length-1=(ls.length-1)+ls.length by omega,yj,jA aa,<- List.range_eq_range'] at this;exact this
  show qu ls i=qu ls ((i+1+ls.length-1)%ls.length);rw[show i+1+ls.length-1=i+ls.length by omega,yj,jA aa]
 .obtain⟨i,hi,rfl⟩:=mem x hx;exact DE g hi
 .obtain⟨i,hi,rfl⟩:=mem x hx;obtain⟨l,hl⟩:=aL hi;rw[dT hl] at hc ⊢;rw[jL];exact g.ids.1 l (aU hl) hc
 .obtain⟨l,hl⟩:=aL hi;obtain⟨m,hm⟩:=aL hj;intro pl pm e1 e2;rw[dT hl] at pl e1 e2;rw[dT hm] at pm e1 e2;exact gA (g.ok.ax.inj i j l m hl hm pl pm ((GI (g.ok.ax.fm l (aU hl) pl) (g.ok.ax.fm m (aU hm) pm)).2 ⟨e1,e2⟩))
 .obtain⟨i,hi,rfl⟩:=mem x hx;obtain⟨l,hl⟩:=aL hi;rw[dT hl] at hp ⊢;rw[jL];obtain⟨_,_,r0,r1⟩:=g.ok.ax.fm l (aU hl) hp;exact⟨r0,r1⟩
 .obtain⟨i,hi,rfl⟩:=mem x hx;obtain⟨l,hl⟩:=aL hi;rw[dT hl] at hp;exact N4 g hl hp
 .rw[jL];unfold TF BF;rw[tz ls k,yl];exact⟨rfl,rfl⟩
 .rw[jL];unfold TF BF;have e1:fP ls F+cg ls F=(aF ls).length:=aa;have e0:fP ls 0=0:=rfl;rw[e1,e0,kU,show(aF ls).length+(aF ls).length-1=((aF ls).length-1)+(aF ls).length by omega,yj];exact⟨rfl,rfl⟩
 .obtain⟨l,h1,h2⟩:=g.first;exact⟨dM ls 0,aU (Bn hn),by rw[dT h1];exact h2⟩
 .obtain⟨w,hw⟩:=aL (gj.1 hs);obtain⟨⟨d,t,e,hd⟩,_⟩:=No g.ok w (aU hw);have hp:wH ls d=s:=VP g hw (by rw[e];simp);refine⟨dM ls (d/2),aU (Bn aa),?_⟩;rcases ym d with h|h
  .refine .inl ?_;show s=wH ls (2*(d/2));rw[show 2*(d/2)=d by omega,hp]
  refine .inr ?_;show s=wH ls (2*(d/2)+1);rw[show 2*(d/2)+1=d by omega,hp]
 rw[jL,Dg,g.nw];omega
end
structure Cq (F:Nat) (z:List aQ) (T B:Nat->Nat->Nat):Prop where
 ok:∀x∈z,zq F x
 cr:z.Pairwise Xr
 ev:aw Let.aB (aM z)%2=0
 ids:∀x∈z,x.k.aB=true->1<=x.k.id/\x.k.id<=((aw Let.aB (aM z)/2:Nat):Int)
 rk:z.Pairwise Dr
 rr:∀x∈z,x.k.aE=true->1<=x.k.aD/\x.k.aD<=(cg (aM z) x.k.gate.toNat:Int)
 pl:∀x∈z,x.k.aE=true->GG T B x
 gt:∀g,g<F->T g (cg (aM z) g)=T (g+1) 0/\B g (cg (aM z) g)=B (g+1) 0
 gz:T F (cg (aM z) F)=T 0 0/\B F (cg (aM z) F)=B 0 0
def dV.mp(ψ:Nat->Nat)(s:dV):dV:=⟨ψ s.l,ψ s.r,s.b⟩
def aQ.mp(ψ:Nat->Nat)(h:Let->Let)(x:aQ):aQ:=⟨⟨h x.p.l,x.p.d⟩,x.i.mp ψ,x.o.mp ψ⟩
theorem X4.mp{g:Bool}{i o j q:dV}(h:X4 g i o j q)(ψ:Nat->Nat):X4 g (i.mp ψ) (o.mp ψ) (j.mp ψ) (q.mp ψ):=by obtain⟨a,b,c,d⟩:=h;cases g<;>simp only[dL,if_false,if_true] at a b c d<;>constructor<;>simp[dV.mp,a,b,c,d]
theorem adl(ψ:Nat->Nat)(h:Let->Let)(x:aQ):(x.mp ψ h).up=x.up.mp ψ:=by unfold aQ.up aQ.mp;cases x.p.d<;>rfl
theorem adk(ψ:Nat->Nat)(h:Let->Let)(x:aQ):(x.mp ψ h).lo=x.lo.mp ψ:=by unfold aQ.lo aQ.mp;cases x.p.d<;>rfl
theorem PQ{ψ:Nat->Nat}{h:Let->Let}:∀ {z:List aQ} {s t:dV},j5 s z t->j5 (s.mp ψ) (z.map (aQ.mp ψ h)) (t.mp ψ):=by
 intro z
 induction z with
 |nil=>intro s t e;cases e;rfl
 |cons x z ih=>intro s t e;obtain⟨rfl,e⟩:=e;exact⟨rfl,ih e⟩
theorem Z4{S L:List Nat}(hn:S.Nodup):S.length<=(S.filter fun s=> !L.contains s).length+L.length:=by
 have h1:S.length=(S.filter fun s=> !L.contains s).length+(S.filter fun s=>L.contains s).length:=by have:=List.length_eq_countP_add_countP (fun s=> !L.contains s) (l:=S);rw[List.countP_eq_length_filter,List.countP_eq_length_filter] at this;rw[this];congr 2;apply List.filter_congr;intro x _;simp
 have h2:=JG (S.filter fun s=>L.contains s) L (hn.filter _) fun x hx=>by simpa using (vG.1 hx).2
 omega
structure zK (h:Let->Let):Prop where
 kind:∀l,(h l).kind=l.kind
 over:∀l,(h l).over=l.over
 sign:∀l,(h l).sign=l.sign
theorem zK.aE{h:Let->Let}(s:zK h)(l:Let):(h l).aE=l.aE:=by unfold Let.aE;rw[s.kind]
theorem zK.aB{h:Let->Let}(s:zK h)(l:Let):(h l).aB=l.aB:=by unfold Let.aB;rw[s.kind]
theorem zK.id:zK id:=⟨fun _=>rfl,fun _=>rfl,fun _=>rfl⟩
section
variable {F:Nat} {X r X':List aQ} {T B T' B':Nat->Nat->Nat} {S:List Nat} {ψ:Nat->Nat} {h:Let->Let}
theorem Cz.q{z:List aQ}(c:Cz F z T B S):Cq F z T B:=⟨c.ok,c.cr,c.ev,c.ids,c.rk,c.rr,c.pl,c.gt,c.gz⟩
theorem Cq.perm{z z':List aQ}(c:Cq F z T B)(hh:z.Perm z'):Cq F z' T B:=by
 have hm:∀ {x},x∈z'↔x∈z:=fun {x}=>hh.symm.mem_iff;have e:∀p,aw p (aM z')=aw p (aM z):=fun p=>(BQ hh).symm;have eg:∀g,cg (aM z') g=cg (aM z) g:=fun g=>e _;exact⟨fun x hx=>c.ok x (hm.1 hx),(hh.pairwise_iff fun {x y}=>Xr.symm).1 c.cr,by rw[e];exact c.ev,fun x hx=>by rw[e];exact c.ids x (hm.1 hx),(hh.pairwise_iff fun {x y}=>Dr.symm).1 c.rk,
  fun x hx=>by rw[eg];exact c.rr x (hm.1 hx),fun x hx=>c.pl x (hm.1 hx),fun g hg=>by rw[eg];exact c.gt g hg,by rw[eg];exact c.gz⟩
theorem zq.mp{x:aQ}(o:zq F x)(s:zK h)(hb:dz F (h x.k)=false):zq F (x.mp ψ h):=by
 refine⟨hb,fun hc=>?_,fun hp=>?_⟩
 .exact o.cb (by rw[<- s.aB];exact hc)
 exact o.pb (by rw[<- s.aE];exact hp)
theorem Cq.edit(q:Cq F (X++r) T B)(s:zK h)(hb:∀x∈r,dz F (h x.k)=false)
  (hid:∀x∈r,∀y∈r,x.k.aB=true->y.k.aB=true->(h x.k).id=(h y.k).id->x.k.id=y.k.id)
  (lJ:∀x∈r,∀y∈r,x.k.aE=true->y.k.aE=true->(h x.k).gate=(h y.k).gate->(h x.k).aD=(h y.k).aD->x.k.gate=y.k.gate/\x.k.aD=y.k.aD)
  (n1:∀x∈X',zq F x) (n2:X'.Pairwise Xr) (n3:X'.Pairwise Dr) (n4:∀x∈X',∀y∈r,Xr x (y.mp ψ h)) (n5:∀x∈X',∀y∈r,Dr x (y.mp ψ h))
  (ev:aw Let.aB (aM (X'++r.map (aQ.mp ψ h)))%2=0)
  (ids:∀x∈X',x.k.aB=true->1<=x.k.id/\x.k.id<=((aw Let.aB (aM (X'++r.map (aQ.mp ψ h)))/2:Nat):Int))
  (alF:∀x∈r,x.k.aB=true->1<=(h x.k).id/\(h x.k).id<=((aw Let.aB (aM (X'++r.map (aQ.mp ψ h)))/2:Nat):Int))
  (rr:∀x∈X',x.k.aE=true->1<=x.k.aD/\x.k.aD<=(cg (aM (X'++r.map (aQ.mp ψ h))) x.k.gate.toNat:Int))
  (rr':∀x∈r,x.k.aE=true->1<=(h x.k).aD/\(h x.k).aD<=(cg (aM (X'++r.map (aQ.mp ψ h))) (h x.k).gate.toNat:Int))
  (pl:∀x∈X',x.k.aE=true->GG T' B' x)
  (A2:∀x∈r,x.k.aE=true->(ψ (T x.k.gate.toNat (x.k.aD.toNat-1))=T' (h x.k).gate.toNat ((h x.k).aD.toNat-1)/\ψ (B x.k.gate.toNat (x.k.aD.toNat-1))=B' (h x.k).gate.toNat ((h x.k).aD.toNat-1))/\ψ (T x.k.gate.toNat x.k.aD.toNat)=T' (h x.k).gate.toNat (h x.k).aD.toNat/\ψ (B x.k.gate.toNat x.k.aD.toNat)=B' (h x.k).gate.toNat (h x.k).aD.toNat)
  (gt:∀g,g<F->T' g (cg (aM (X'++r.map (aQ.mp ψ h))) g)=T' (g+1) 0/\B' g (cg (aM (X'++r.map (aQ.mp ψ h))) g)=B' (g+1) 0)
  (gz:T' F (cg (aM (X'++r.map (aQ.mp ψ h))) F)=T' 0 0/\B' F (cg (aM (X'++r.map (aQ.mp ψ h))) F)=B' 0 0):Cq F (X'++r.map (aQ.mp ψ h)) T' B':=by
 have crr:=(Ny.1 q.cr).2.1;have rkr:=(Ny.1 q.rk).2.1;have mem:∀x∈X'++r.map (aQ.mp ψ h),x∈X'\/ ∃y∈r,x=y.mp ψ h:=fun x hx=>by
  rcases fg.1 hx with hx|hx
  .exact .inl hx
  obtain⟨y,hy,rfl⟩:=dQ.1 hx;exact .inr ⟨y,hy,rfl⟩
 have in':∀y∈r,y∈X++r:=fun y hy=>Hc _ hy;refine⟨fun x hx=>?_,?_,ev,fun x hx hc=>?_,?_,fun x hx hp=>?_,fun x hx hp=>?_,gt,gz⟩
 .rcases mem x hx with hx|⟨y,hy,rfl⟩
  .exact n1 x hx
  exact(q.ok y (in' y hy)).mp s (hb y hy)
 .refine Ny.2 ⟨n2,yh.2 (crr.imp_of_mem fun {x y} hx hy lf hc hd e=>?_),fun x hx y hy=>?_⟩
  .have hc:x.k.aB=true:=by rw[<- s.aB];exact hc
   have hd:y.k.aB=true:=by rw[<- s.aB];exact hd
   obtain⟨h1,h2,h3⟩:=lf hc hd (hid x hx y hy hc hd e);refine⟨?_,?_,?_⟩
   .show(h x.k).over= !(h y.k).over;rw[s.over,s.over];exact h1
   .show(h x.k).sign=(h y.k).sign;rw[s.sign,s.sign];exact h2
   have:gX (x.mp ψ h).k=gX x.k:=by show((h x.k).over==((h x.k).sign==1))=_;rw[s.over,s.sign];rfl
   rw[this];exact h3.mp ψ
  obtain⟨w,hw,rfl⟩:=dQ.1 hy;exact n4 x hx w hw
 .rcases mem x hx with hx|⟨y,hy,rfl⟩
  .exact ids x hx hc
  exact alF y hy (by rw[<- s.aB];exact hc)
 .refine Ny.2 ⟨n3,yh.2 (rkr.imp_of_mem fun {x y} hx hy lf hc hd e1 e2=>?_),fun x hx y hy=>?_⟩
  .have hc:x.k.aE=true:=by rw[<- s.aE];exact hc
   have hd:y.k.aE=true:=by rw[<- s.aE];exact hd
   obtain⟨f1,f2⟩:=lJ x hx y hy hc hd e1 e2;exact lf hc hd f1 f2
  obtain⟨w,hw,rfl⟩:=dQ.1 hy;exact n5 x hx w hw
 .rcases mem x hx with hx|⟨y,hy,rfl⟩
  .exact rr x hx hp
  exact rr' y hy (by rw[<- s.aE];exact hp)
 rcases mem x hx with hx|⟨y,hy,rfl⟩
 .exact pl x hx hp
 have hp:y.k.aE=true:=by rw[<- s.aE];exact hp
 obtain⟨p1,p2,p3,p4⟩:=q.pl y (in' y hy) hp;obtain⟨⟨a1,a2⟩,a3,a4⟩:=A2 y hy hp;constructor
 .rw[adl];show ψ y.up.r=_;rw[p1];exact a1
 .rw[adl];show ψ y.up.l=_;rw[p2];exact a3
 .rw[adk];show ψ y.lo.r=_;rw[p3];exact a2
 rw[adk];show ψ y.lo.l=_;rw[p4];exact a4
theorem Cq.done{l:List Pc}{z':List aQ}{L N:List Nat}{V:Nat}(q:Cq F (X'++r.map (aQ.mp ψ h)) T' B')(iR:S.Nodup)(wit:∀s∈S,∃x∈X++r,s=x.o.l\/s=x.o.r)
  (nE:z'.Perm (X'++r.map (aQ.mp ψ h))) (US:∃s,j5 s z' s) (hl:z'.map aQ.p=l) (one:∃x∈X'++r.map (aQ.mp ψ h),x.k.aE=true)
  (hψ:∀s∈S,s∉L->ψ s=s) (hX:∀x∈X,∀s∈S,(s=x.o.l\/s=x.o.r)->s∉L->∃y∈X'++r.map (aQ.mp ψ h),s=y.o.l\/s=y.o.r)
  (hN:N.Nodup) (hNS:∀s∈N,s∉S) (hNw:∀s∈N,∃y∈X'++r.map (aQ.mp ψ h),s=y.o.l\/s=y.o.r)
  (hS:V<=S.length) (num:aw Let.aE (aM (X'++r.map (aQ.mp ψ h)))+aw Let.aB (aM (X'++r.map (aQ.mp ψ h)))/2+1+L.length<=V+N.length):Cert F l:=by
 have qz:=q.perm nE.symm;have hm:∀ {x},x∈z'↔x∈X'++r.map (aQ.mp ψ h):=fun {x}=>nE.mem_iff;refine⟨z',T',B',N++S.filter (fun s=> !L.contains s),hl,⟨US,qz.ok,qz.cr,qz.ev,qz.ids,qz.rk,qz.rr,qz.pl,qz.gt,qz.gz,?_,?_,fun s hs=>?_,?_⟩⟩
 .obtain⟨x,hx,e⟩:=one;exact⟨x,hm.2 hx,e⟩
 .refine Hf.2 ⟨hN,iR.filter _,fun a ha b hb e=>?_⟩;subst e;exact hNS a ha (vG.1 hb).1
 .have key:∃y∈X'++r.map (aQ.mp ψ h),s=y.o.l\/s=y.o.r:=by
   rcases fg.1 hs with hs|hs
   .exact hNw s hs
   obtain⟨h1,h2⟩:=vG.1 hs;have h2:s∉L:=by simpa using h2
   obtain⟨x,hx,e⟩:=wit s h1;rcases fg.1 hx with hx|hx
   .exact hX x hx s h1 e h2
   refine⟨x.mp ψ h,Hc _ (dQ.2 ⟨x,hx,rfl⟩),?_⟩;have hp:=hψ s h1 h2;rcases e with e|e
   .left;show s=ψ x.o.l;rw[<- e,hp]
   right;show s=ψ x.o.r;rw[<- e,hp]
  obtain⟨y,hy,e⟩:=key;exact⟨y,hm.2 hy,e⟩
 have e:∀p,aw p (aM z')=aw p (aM (X'++r.map (aQ.mp ψ h))):=fun p=>BQ nE;rw[e,e,gh];have:=Z4 (L:=L) iR;omega
end
theorem Rs(p:Let->Bool)(a b:List aQ):aw p (aM (a++b))=aw p (aM a)+aw p (aM b):=by show List.countP p (List.map _ _)=List.countP p (List.map _ _)+List.countP p (List.map _ _);rw[ll,vF]
theorem lT(p:Let->Bool)(x:aQ)(b:List aQ):aw p (aM (x::b))=(if p x.k then 1 else 0)+aw p (aM b):=by show List.countP p (List.map _ _)=_+List.countP p (List.map _ _);rw[dS,wP,Nat.add_comm]
theorem Ru(p:Let->Bool):aw p (aM [])=0:=rfl
theorem BP{p:Let->Bool}{ψ:Nat->Nat}{h:Let->Let}(hp:∀l,p (h l)=p l)(r:List aQ):aw p (aM (r.map (aQ.mp ψ h)))=aw p (aM r):=by
 induction r with
 |nil=>rfl
 |cons x r ih=>rw[dS,lT,lT,ih];show(if p (h x.k) then 1 else 0)+_=_;rw[hp]
theorem Hu{l:Let}(g:Nat)(h:l.aB=true):nL g l=false:=by
 unfold nL;cases hp:l.aE
 .rfl
 rw[pI hp] at h;cases h
theorem mQ{l:Let}(h:l.aB=true):l.aE=false:=by
 cases hp:l.aE
 .rfl
 rw[pI hp] at h;cases h
theorem ajM{α:Type}{z:List α}{a:Nat}(ha:a<z.length)(h2:2<=z.length):∃x y r,z.drop a++z.take a=x::y::r/\z[a]?=some x/\z[(a+1)%z.length]?=some y:=by
 obtain⟨x,hx⟩:=aL ha;obtain⟨hl,e⟩:=aW.1 hx;have hd:z.drop a=x::z.drop (a+1):=by rw[<- e,r5]
 by_cases c:a+1<z.length
 .obtain⟨y,hy⟩:=aL c;obtain⟨sG,e2⟩:=aW.1 hy;have xz:z.drop (a+1)=y::z.drop (a+1+1):=by rw[<- e2,r5]
  exact⟨x,y,z.drop (a+1+1)++z.take a,by rw[hd,xz];rfl,hx,by rw[jA c];exact hy⟩
 have ea:a+1=z.length:=aa;obtain⟨y,hy⟩:=aL (ls:=z) (k:=0) aa;have xz:z.drop (a+1)=[]:=List.drop_eq_nil_of_le aa;have ht:z.take a=y::(z.take a).drop 1:=by
  have h0:(z.take a)[0]?=some y:=by rw[mW,if_pos aa];exact hy
  obtain⟨hl3,e3⟩:=aW.1 h0;have:=r5 (h:=hl3);rw[e3,List.drop_zero] at this;exact this.symm
 refine⟨x,y,(z.take a).drop 1,?_,hx,by rw[ea,Dj];exact hy⟩;rw[hd,xz]
 conv=>lhs;rw[ht]
 rfl
section
variable {F:Nat} {ls:List Let}
theorem xO{l:Let}(h:l.aB=true):(if Let.aB l=true then 1 else 0)=1/\(if Let.aE l=true then 1 else 0)=0:=by simp[h,mQ h]
theorem ifP{l:Let}(h:l.aE=true):(if Let.aB l=true then 1 else 0)=0/\(if Let.aE l=true then 1 else 0)=1:=by simp[h,pI h]
end
def ib(ids:List Int)(l:Let):Let:=if l.kind==2 then {l with id:=l.id-((ids.take ids.length).countP (fun i=>decide (i<l.id)):Nat)} else l
theorem AT(ids:List Int):zK (ib ids):=by refine⟨fun l=>?_,fun l=>?_,fun l=>?_⟩<;>unfold ib<;>split<;>rfl
theorem ac2(ids:List Int)(p:Pc):rR ids p=⟨ib ids p.l,p.d⟩:=by unfold rR ib jT;split<;>rfl
theorem AS{ids:List Int}{l:Let}(h:l.aE=true):ib ids l=l:=by unfold ib;have:=pI h;unfold Let.aB at this;rw[if_neg (by rw[this];decide)]
theorem acZ{ids:List Int}{l:Let}(h:dz F l=false):dz F (ib ids l)=false:=by
 rcases yz h with hp|hc
 .rw[AS hp];exact h
 have kJ:(ib ids l).aB=true:=by rw[(AT ids).aB];exact hc
 rw[PB hc] at h;rw[PB kJ];unfold ib;split<;>exact h
theorem acY(ids:List Int)(g:Nat)(l:Let):nL g (ib ids l)=nL g l:=by
 cases hp:l.aE
 .unfold nL;rw[(AT ids).aE,hp];rfl
 rw[AS hp]
theorem ac0{ids:List Int}{l:Let}(h:l.aB=true):(ib ids l).id=l.id-((ids.countP fun i=>decide (i<l.id):Nat):Int):=by unfold ib;unfold Let.aB at h;rw[if_pos h,kS]
theorem acw{l:List Pc}{drop:Nat->Pc->Bool}{d:Pc->Bool}(h:∀i p,drop i p=d p):pz l drop=l.filter fun p=> !d p:=by
 have key:∀k,k<=l.length->tK l drop k=(l.take k).filter fun p=> !d p:=by
  intro k
  induction k with
  |zero=>intro _;rfl
  |succ k ih=>
   intro hk;obtain⟨p,hp⟩:=aL (ls:=l) (k:=k) aa;rw[pP,hp,List.filter_append,<- ih aa];cases hd:d p
   .rw[I1 hp (by rw[h];exact hd)];simp[hd]
   rw[AM hp (by rw[h];exact hd)];simp[hd]
 unfold pz;rw[key _ (bN _),kS]
theorem PO:∀ {z:List aQ} {s t:dV},j5 s z t->z≠[]->∃w∈z,w.o=t:=by
 intro z
 induction z with
 |nil=>intro s t _ h;exact absurd rfl h
 |cons x z ih=>
  intro s t h _;obtain⟨_,h⟩:=h;cases z with
  |nil=>cases h;exact⟨x,af,rfl⟩
  |cons y z=>obtain⟨w,hw,e⟩:=ih h af;exact⟨w,Bv _ hw,e⟩
section
variable {F:Nat} {ls:List Let}
theorem anG{x y:aQ}{r:List aQ}{T B:Nat->Nat->Nat}(q:Cq F (x::y::r) T B)(cx:x.k.aB=true)(cy:y.k.aB=true)(e:x.k.id=y.k.id):∀w∈r,w.k.aB=true->w.k.id≠x.k.id:=by intro w hw cw ew;obtain⟨p1,p2⟩:=ua.1 q.cr;obtain⟨p3,_⟩:=ua.1 p2;have a:=(p1 y af cx cy e).ov;have b:=(p1 w (by simp[hw]) cx cw ew.symm).ov;have d:=(p3 w hw cy cw (by rw[<- e,ew])).ov;rw[b] at a;rw[d] at a;revert a;cases w.k.over<;>simp
theorem WC(g:dF F ls){a:Nat}(ha:a<ls.length):∃x y r s,(zF ls).drop a++(zF ls).take a=x::y::r/\(pieces ls)[a]?=some x.p/\(pieces ls)[nx ls a]?=some y.p/\
  Cz F (x::y::r) (TF ls) (BF ls) (List.range (l5 ls))/\j5 s (x::y::r) s/\(pieces ls).drop a++(pieces ls).take a=(x::y::r).map aQ.p/\(zF ls)[a]?=some x/\(zF ls)[nx ls a]?=some y/\(x::y::r).Perm (zF ls):=by
 have h2:2<=ls.length:=by obtain⟨l,h1,hp⟩:=g.first;have:=g.even;have:0<aw Let.aE ls:=Bs.2 ⟨l,aU h1,hp⟩;have:=tj Let.aE ls;omega
 have hl:=Bo ls;obtain⟨x,y,r,e,hx,hy⟩:=ajM (z:=zF ls) (a:=a) aa aa;rw[hl] at hy;have c:Cz F ((zF ls).drop a++(zF ls).take a) (TF ls) (BF ls) (List.range (l5 ls)):=by refine Cz.kL ?_;rw[mX];exact g.cz
 rw[e] at c;obtain⟨s,hs⟩:=c.path;refine⟨x,y,r,s,e,?_,?_,c,hs,?_,hx,hy,?_⟩
 .rw[<- GZ,fZ,hx];rfl
 .rw[<- GZ,fZ,hy];rfl
 .rw[<- e,ll,List.map_drop,List.map_take,GZ]
 rw[<- e];exact List.perm_append_comm.trans (by rw[mX])
theorem Yy{a:Nat}{d:Pc->Bool}{f:Pc->Pc}(c:Cert F ((((pieces ls).drop a++(pieces ls).take a).filter d).map f)):Cert F (((pieces ls).filter d).map f):=by rw[List.filter_append,ll] at c;have:=c.kL;rwa[<- ll,<- List.filter_append,mX] at this
theorem abE{l:Let}:l.aB=(l.kind==2):=rfl
theorem filter_all{α:Type}{l:List α}{p:α->Bool}(h:∀x∈l,p x=true):l.filter p=l:=List.filter_eq_self.2 h
theorem ahH(g:dF F ls){a:Nat}(ha:a<ls.length){L:List Pc}(h:AO ls a=some L):Cert F L:=by
 obtain⟨x,y,r,s,e,hx,hy,c,hp,IK,_,_,nE⟩:=WC g ha;have q:=c.q;unfold AO at h;have e1:(pieces ls).getD a ⟨lh,false⟩=x.p:=by rw[dq,hx];rfl
 have e2:(pieces ls).getD ((a+1)%ls.length) ⟨lh,false⟩=y.p:=by rw[dq,hy];rfl
 simp only[e1,e2] at h;split at h
 case isFalse=>cases h
 rename_i hc;simp only[cX,beq_iff_eq] at hc;obtain⟨fG,qI,hid⟩:=hc;have cx:x.k.aB=true:=by rw[abE];simp[fG]
 have cy:y.k.aB=true:=by rw[abE];simp[qI]
 have tD:x.k.id=y.k.id:=hid;cases h;have O4:=anG q cx cy tD;have lf:Xc x y:=(ua.1 q.cr).1 y af cx cy tD;obtain⟨ji,eG,tE⟩:=hp
 -- both ends of the kink look alike
 have ix:=(q.ok x af).cb cx;have iy:=(q.ok y af).cb cy;have hk:=lf.x4;rw[ji,eG] at hk;rw[ji] at ix;rw[eG] at iy;have hyo:y.o=s:=by
  obtain⟨k1,k2,k3,k4⟩:=hk;have hb:y.o.b=s.b:=by rw[<- iy,<- ix]
  cases y with
  |mk yp yi yo=>
  cases yo with
  |mk l r b=>
  cases s with
  |mk sl sr sb=>
  cases hg:gX x.k<;>rw[hg] at k1 k2 k3 k4<;>simp only[dL,if_false,if_true] at k1 k2 k3 k4 hb<;>simp_all
 rw[hyo] at tE;have UH:∃b,(s.r=b\/s.l=b)/\ ∀t,(t=x.o.l\/t=x.o.r)->t=s.l\/t=s.r\/t=(if gX x.k then x.o.r else x.o.l):=by
  obtain⟨k1,k2,k3,k4⟩:=hk;refine⟨s.r,.inl rfl,?_⟩;cases hg:gX x.k<;>rw[hg] at k1 k2 k3 k4<;>simp only[dL,if_false,if_true] at k1 k2 k3 k4 ⊢
  .rintro t (rfl|rfl)
   .exact .inr (.inr rfl)
   exact .inl k1.symm
  rintro t (rfl|rfl)
  .exact .inr (.inl k3)
  exact .inr (.inr rfl)
 obtain⟨_,_,UH⟩:=UH;have dY:=q.ev;have yQ:∀z:List aQ,aw Let.aB (aM (x::y::z))=aw Let.aB (aM z)+2:=fun z=>by rw[lT,lT,(xO cx).1,(xO cy).1];omega
 have FU:∀z:List aQ,aw Let.aE (aM (x::y::z))=aw Let.aE (aM z):=fun z=>by rw[lT,lT,(xO cx).2,(xO cy).2];omega
 have xx:∀(z:List aQ) k,cg (aM (x::y::z)) k=cg (aM z) k:=fun z k=>by show aw _ _=aw _ _;rw[lT,lT,Hu k cx,Hu k cy];simp
 have mC:aw Let.aB (aM (r.map (aQ.mp id (ib [x.k.id]))))=aw Let.aB (aM r):=BP (fun l=>(AT _).aB l) r;have mP:aw Let.aE (aM (r.map (aQ.mp id (ib [x.k.id]))))=aw Let.aE (aM r):=BP (fun l=>(AT _).aE l) r;have mG:∀k,cg (aM (r.map (aQ.mp id (ib [x.k.id])))) k=cg (aM r) k:=fun k=>BP (fun l=>acY _ k l) r;have lowid:∀w∈r,w.k.aB=true->(ib [x.k.id] w.k).id=if x.k.id<w.k.id then w.k.id-1 else w.k.id:=fun w hw hc=>by
  rw[ac0 hc];by_cases c:x.k.id<w.k.id
  .simp[c]
  simp[c]
 have ID:∀w∈x::y::r,w.k.aB=true->1<=w.k.id/\w.k.id<=((aw Let.aB (aM r)/2:Nat):Int)+1:=fun w hw hc=>by have:=q.ids w hw hc;rw[yQ] at this;omega
 have hr:r≠[]:=by
  obtain⟨w,hw,qj⟩:=c.one;rintro rfl
  simp only[cP,jz,or_false] at hw;rcases hw with rfl|rfl
  .rw[mQ cx] at qj;cases qj
  rw[mQ cy] at qj;cases qj
 have inr:∀w∈r,w∈x::y::r:=fun w hw=>by simp[hw]
 have qn:Cq F ([]++r.map (aQ.mp id (ib [x.k.id]))) (TF ls) (BF ls):=by
  refine Cq.edit (X:=[x,y]) (r:=r) q (AT _) (fun w hw=>acZ (q.ok w (inr w hw)).bad) (fun u hu v hv cu cv e=>?_) (fun u hu v hv pu pv e1 e2=>?_) (fun _ h=>by cases h) List.Pairwise.nil List.Pairwise.nil (fun _ h=>by cases h) (fun _ h=>by cases h) ?_ (fun _ h=>by cases h) (fun u hu cu=>?_) (fun _ h=>by cases h) (fun u hu pu=>?_) (fun _ h=>by cases h) (fun u hu pu=>?_) (fun k hk=>?_) ?_
  .have h1:=O4 u hu cu;have h2:=O4 v hv cv;rw[lowid u hu cu,lowid v hv cv] at e;split at e<;>split at e<;>omega
  .rw[AS pu,AS pv] at e1 e2;exact⟨e1,e2⟩
  .rw[gD,mC];rw[yQ] at dY;omega
  .rw[gD,mC,lowid u hu cu];have h1:=ID u (inr u hu) cu;have h2:=O4 u hu cu;have h3:=ID x af cx;split<;>omega
  .rw[gD,AS pu,mG,<- xx r];exact q.rr u (inr u hu) pu
  .rw[AS pu];exact⟨⟨rfl,rfl⟩,rfl,rfl⟩
  .rw[gD,mG,<- xx r];exact q.gt k hk
  rw[gD,mG,<- xx r];exact q.gz
 have LN:Cert F (r.map fun w=>rR [x.k.id] w.p):=by
  refine Cq.done (X:=[x,y]) (r:=r) (X':=[]) (L:=[if gX x.k then x.o.r else x.o.l]) (N:=[]) (V:=l5 ls) (z':=r.map (aQ.mp id (ib [x.k.id]))) qn c.nd (fun t ht=>c.wit t ht) (List.Perm.refl _) ⟨s,PQ (ψ:=id) tE⟩ ?_ ?_ (fun _ _ _=>rfl) (fun w hw t ht ew hL=>?_) wS (fun t ht=>by cases ht) (fun t ht=>by cases ht) (by rw[Dg];exact bN _) ?_
  .rw[uM];refine Dh fun w _=>?_;rw[ac2];rfl
  .obtain⟨w,hw,qj⟩:=c.one;simp only[cP] at hw;rcases hw with rfl|rfl|hw
   .rw[mQ cx] at qj;cases qj
   .rw[mQ cy] at qj;cases qj
   refine⟨w.mp id (ib [x.k.id]),?_,?_⟩
   .rw[gD];exact dQ.2 ⟨w,hw,rfl⟩
   show(ib [x.k.id] w.k).aE=true;rw[(AT _).aE];exact qj
  .obtain⟨v,hv,hvo⟩:=PO tE hr;have key:t=s.l\/t=s.r:=by
    simp only[cP,jz,or_false] at hw hL;rcases hw with rfl|rfl
    .rcases UH t ew with h|h|h
     .exact .inl h
     .exact .inr h
     exact absurd h hL
    rw[hyo] at ew;exact ew
   refine⟨v.mp id (ib [x.k.id]),by rw[gD];exact dQ.2 ⟨v,hv,rfl⟩,?_⟩;show t=id v.o.l\/t=id v.o.r;rw[hvo];exact key
  rw[gD,mC,mP];have h1:=g.nw;have h2:aw Let.aB (aM (x::y::r))=aw Let.aB ls:=by rw[BQ nE,jL]
  have h3:aw Let.aE (aM (x::y::r))=aw Let.aE ls:=by rw[BQ nE,jL]
  rw[yQ] at h2;rw[FU] at h3;simp only[ff,dh];omega
 show Cert F ((pz (pieces ls) (uh [x.k.id])).map (rR [x.k.id]));rw[acw (l:=pieces ls) (drop:=uh [x.k.id]) (d:=fun p=>(p.l.kind==2)&&[x.k.id].contains p.l.id) fun _ _=>rfl];refine Yy (a:=a) ?_;rw[IK];have hf:((x::y::r).map aQ.p).filter (fun p=> !((p.l.kind==2)&&[x.k.id].contains p.l.id))=r.map aQ.p:=by
  rw[dS,dS,List.filter_cons_of_neg (by simp[fG]),List.filter_cons_of_neg (by simp[qI,hid])];refine filter_all fun p hp=>?_;obtain⟨w,hw,rfl⟩:=dQ.1 hp;cases hk:(w.p.l.kind==2)
  .rfl
  have:=O4 w hw hk;simp[this]
 rw[hf,uM];exact LN
end
end
end Go.Abs
