/-
  Entries of a code.
-/
import Derived.Test.YtniibcmpbldbcaaGreatDoorVe
set_option linter.all false
set_option maxHeartbeats 16000000
namespace Go.Abs
section
variable{F j n v x:Nat}
theorem WE{R:Nat->Nat->Prop}{L:List Nat}(h:∀x,x<n->∃r∈L,aW R x r):K (aW R) n<=L.length:=by
 have key:∀M:List Nat,M.Nodup->(∀x∈M,x<n/\ld (aW R) x)->∃N:List Nat,N.length=M.length/\N.Nodup/\ ∀r∈N,r∈L/\ ∃x∈M,aW R x r:=by
  intro M
  induction M with
  |nil=>intro _ _;exact⟨[],rfl,tz,af⟩
  |cons a M ih=>
   intro hn hm;obtain⟨n1,n2⟩:=nY.1 hn;obtain⟨N,l1,l2,l3⟩:=ih n2 fun x hx=>hm x (by simp[hx]);obtain⟨ha,la⟩:=hm a af;obtain⟨r,hr,e⟩:=h a ha;refine⟨r::N,by simp[l1],nY.2 ⟨fun hN=>?_,l2⟩,fun q hq=>?_⟩
   .obtain⟨_,x,hx,ex⟩:=l3 r hN;have e1:=la x (e.trans ex.symm);have e2:=(hm x (by simp[hx])).2 a (ex.trans e.symm);have:a=x:=aa;exact n1 (this▸hx)
   rcases cT.1 hq with rfl|hq
   .exact⟨hr,a,af,e⟩
   obtain⟨q1,x,hx,ex⟩:=l3 q hq;exact⟨q1,x,by simp[hx],ex⟩
 obtain⟨N,l1,l2,l3⟩:=key ((List.range n).filter (AR (aW R))) (Dl.filter _) fun x hx=>by obtain⟨h1,h2⟩:=tv.1 hx;exact⟨fk.1 h1,Jm.1 h2⟩
 unfold K;rw[NB,<- l1];exact Np _ _ l2 fun r hr=>(l3 r hr).1
theorem Ph(p:Nat->Nat)(x:Nat):∀i j,it p (i+j) x=it p i (it p j x):=by
 intro i j
 induction i with
 |zero=>rw[jc];rfl
 |succ i ih=>rw[show i+1+j=(i+j)+1 by omega];show p (it p (i+j) x)=p (it p i (it p j x));rw[ih]
theorem alG{p:Nat->Nat}{m:Nat}(h:it p m x=x):∀k,it p (k*m) x=x:=by
 intro k
 induction k with
 |zero=>rw[yL];rfl
 |succ k ih=>rw[Nat.succ_mul,Ph,h,ih]
theorem am7{p:Nat->Nat}(h:Perm n p){a b:Nat}(e:aW (gr n p) a b):a=b\/(a<n/\b<n/\ ∃k,it p k a=b):=by
 induction e with
 | @rel a b r=>obtain⟨ha,rfl⟩:=r;exact .inr ⟨ha,h.lt _ ha,1,rfl⟩
 |refl _=>exact .inl rfl
 | @symm a b _ ih=>
  rcases ih with rfl|⟨ha,hb,k,hk⟩
  .exact .inl rfl
  obtain⟨m,hm⟩:=h.Ym ha;refine .inr ⟨hb,ha,k*m,?_⟩;rw[<- hk,<- Ph,show k*m+k=k*(m+1) by rw[Nat.mul_succ]];exact alG hm k
 |trans _ _ i1 i2=>
  rcases i1 with rfl|⟨ha,hb,k,hk⟩
  .exact i2
  rcases i2 with rfl|⟨_,hc,j,hj⟩
  .exact .inr ⟨ha,hb,k,hk⟩
  exact .inr ⟨ha,hc,j+k,by rw[Ph,hk,hj]⟩
theorem aq6{p:Nat->Nat}(h:Perm n p){a b:Nat}(ju:a≠b)(e:aW (gr n p) a b):¬aW (gr n (tr p (a,b))) a b:=by
 rcases am7 h e with he|⟨ha,hb,k0,Ck⟩
 .exact absurd he ju
 obtain⟨k,hk,abd⟩:=exists_least (p:=fun k=>it p k a=b) k0 Ck;have k1:1<=k:=by
  rcases Nat.eq_zero_or_pos k with rfl|h
  .exact absurd hk ju
  exact h
 have na:∀j,1<=j->j<=k->it p j a≠a:=fun j j1 j2 ej=>by
  rcases Nat.lt_or_eq_of_le j2 with c|rfl
  .have:it p (k-j) a=b:=by
    rw[<- hk,show k=(k-j)+j by omega,Ph,ej];congr 1;omega
   have:=abd _ this;omega
  exact ju (ej.symm.trans hk)
 have nb:∀j,j<k->it p j a≠b:=fun j j1 ej=>by have:=abd j ej;omega
 intro e2;have inv:∀x y,gr n (tr p (a,b)) x y->(∃j,1<=j/\j<=k/\x=it p j a)=(∃j,1<=j/\j<=k/\y=it p j a):=by
  rintro x y ⟨hx,rfl⟩
  apply propext;unfold tr;simp only;constructor
  .rintro ⟨j,j1,j2,rfl⟩
   rw[if_neg (na j j1 j2)];by_cases c:it p j a=b
   .rw[if_pos c];exact⟨1,aa,k1,rfl⟩
   rw[if_neg c];refine⟨j+1,aa,?_,rfl⟩;rcases Nat.lt_or_eq_of_le j2 with d|rfl
   .exact d
   exact absurd hk c
  by_cases c:x=a
  .rw[if_pos c];rintro ⟨j,j1,j2,ej⟩
   exfalso;have:=h.inj _ _ hb (h.Gw ha (j-1)) (by rw[ej,show j=(j-1)+1 by omega];rfl);by_cases d:j=1
   .subst d;exact ju this.symm
   exact nb (j-1) aa this.symm
  rw[if_neg c];by_cases d:x=b
  .subst d;intro _;exact⟨k,k1,aZ _,hk.symm⟩
  rw[if_neg d];rintro ⟨j,j1,j2,ej⟩
  have:=h.inj _ _ hx (h.Gw ha (j-1)) (by rw[ej,show j=(j-1)+1 by omega];rfl);by_cases f:j=1
  .subst f;exact absurd this c
  exact⟨j-1,aa,aa,this⟩
 have:=e2.inv inv;have xV:∃j,1<=j/\j<=k/\b=it p j a:=⟨k,k1,aZ _,hk.symm⟩;rw[<- this] at xV;obtain⟨j,j1,j2,ej⟩:=xV;exact na j j1 j2 ej.symm
theorem K_tr{p:Nat->Nat}(h:Perm n p){a b:Nat}(ha:a<n)(hb:b<n)(ju:a≠b):(K (aW (gr n (tr p (a,b)))) n+K (aW (gr n p)) n)%2=1:=by
 have one:∀x y,aW (qI (gr n (tr p (a,b))) a b) x y↔aW (qI (gr n p) a b) x y:=fun x y=>by have h:=QQ (p:=p) (S:=fun _ _=>False) ha hb (x:=x) (y:=y);have e:∀q:Nat->Nat,(fun x y=>gr n q x y\/False)=gr n q:=fun q=>funext fun x=>funext fun y=>propext af;rw[e,e] at h;exact h
 have kj:K (aW (qI (gr n (tr p (a,b))) a b)) n=K (aW (qI (gr n p) a b)) n:=Hp one n;rcases Classical.em (aW (gr n p) a b) with c|c
 .have k1:=QH c n;have k2:=QG ha hb (aq6 h ju c);omega
 have k1:=QG ha hb c;have k2:=QH (aeY h ha hb c) n;omega
theorem afB:∀(ts:List (Nat×Nat)) (p:Nat->Nat),Perm n p->(∀t∈ts,t.1<n/\t.2<n/\t.1≠t.2)->(K (aW (gr n (ts.foldl tr p))) n+K (aW (gr n p)) n+ts.length)%2=0:=by
 intro ts
 induction ts with
 |nil=>intro p _ _;simp only[List.foldl_nil,dQ];omega
 |cons t ts ih=>
  intro p hp ht;obtain⟨a,b⟩:=t;obtain⟨ha,hb,ju⟩:=ht (a,b) af
  replace ha:a<n:=ha
  replace hb:b<n:=hb
  replace ju:a≠b:=ju
  have e1:=ih (tr p (a,b)) (hp.tr ha hb) fun t h=>ht t (by simp[h]);have e2:(K (aW (gr n (tr p (a,b)))) n+K (aW (gr n p)) n)%2=1:=K_tr hp ha hb ju;simp only[uW,cE];omega
def lh(ls:List Let)(x:Nat):Nat:=aO ls (rv x)
def vJ(k:Nat):List (Nat×Nat):=(List.range k).map fun e=>(2*e,2*e+1)
theorem arl(q:Nat->Nat):∀k y,(vJ k).foldl tr q y=if y<2*k then q (rv y) else q y:=by
 intro k
 induction k with
 |zero=>intro y;rw[if_neg aa];rfl
 |succ k ih=>
  intro y;have e:vJ (k+1)=vJ k++[(2*k,2*k+1)]:=by unfold vJ;rw[uv,iS];rfl
  rw[e,Bq,uW,List.foldl_nil,Kb];by_cases c1:y=2*k
  .subst c1;rw[if_pos rfl,ih,if_neg aa,if_pos aa,tk]
  rw[if_neg c1];by_cases c2:y=2*k+1
  .subst c2;rw[if_pos rfl,ih,if_neg aa,if_pos aa,zT]
  rw[if_neg c2,ih];by_cases c3:y<2*k
  .rw[if_pos c3,if_pos aa]
  rw[if_neg c3,if_neg aa]
theorem aW.push{R R':Nat->Nat->Prop}{f:Nat->Nat}(h:∀a b,R a b->aW R' (f a) (f b)){y:Nat}(e:aW R x y):aW R' (f x) (f y):=by
 induction e with
 |rel r=>exact h _ _ r
 |refl a=>exact .refl _
 |symm _ ih=>exact ih.symm
 |trans _ _ i1 i2=>exact i1.trans i2
section
variable {F:Nat} {ls:List Let}
theorem VP(ok:eP F ls):Perm (nD ls) (lh ls):=by
 have m:=maps ok;have hN:=CI ls;have hr:∀y,y<nD ls->rv y<nD ls:=fun y hy=>by rw[hN] at hy ⊢;exact vG hy
 refine⟨fun y hy=>m.lt _ (hr y hy),fun x y hx hy e=>?_⟩;have:=m.inj _ _ (hr x hx) (hr y hy) e;rw[<- vH x,this,vH]
abbrev E2(ls:List Let):Nat:=ls.length+(aC ls).length
theorem adO{y:Nat}(hy:y<nD ls):(vJ (E2 ls)).foldl tr (lh ls) y=aO ls y:=by rw[arl,if_pos (by rw[CI] at hy;exact hy)];unfold lh;rw[vH]
theorem ajT(x y:Nat):aW (gr (nD ls) ((vJ (E2 ls)).foldl tr (lh ls))) x y↔aW (gr (nD ls) (aO ls)) x y:=
 ⟨aW.mono fun a b r=>by obtain⟨h,rfl⟩:=r;exact .rel ⟨h,adO h⟩,aW.mono fun a b r=>by obtain⟨h,rfl⟩:=r;exact .rel ⟨h,(adO h).symm⟩⟩
theorem ae1{k:Nat}:∀t∈vJ k,t.1<2*k/\t.2<2*k/\t.1≠t.2:=by intro t ht;obtain⟨e,he,rfl⟩:=dr.1 ht;have:=fk.1 he;refine⟨?_,?_,?_⟩<;>simp only<;>omega
theorem afz(ok:eP F ls):K (aW (gr (nD ls) (aO ls))) (nD ls)=eN ls:=by
 obtain⟨im,ON⟩:=GX (aO ls) (nD ls);have hfs:∀w∈fV (aO ls) (nD ls),w≠[]:=fun w hw=>by obtain⟨⟨d,t,e,_⟩,_⟩:=zZ ok w hw;rw[e];simp
 have hlen:((fV (aO ls) (nD ls)).map (·.headD 0)).length=eN ls:=by rw[cF];rfl
 refine Nat.le_antisymm ?_ ?_
 .rw[<- hlen];refine WE fun x hx=>?_;obtain⟨w,hw,EB⟩:=Fm.1 (ON x hx);obtain⟨⟨d,t,e,_⟩,_⟩:=zZ ok w hw;refine⟨w.headD 0,dr.2 ⟨w,hw,rfl⟩,?_⟩;exact Qy (maps ok) (R:=gr (nD ls) (aO ls)) (fun y hy=>.rel ⟨hy,rfl⟩) hw EB (by rw[e];simp)
 rw[<- hlen];refine NN (f:=Aa (fV (aO ls) (nD ls))) ?_ (fun x hx=>?_) ?_
 .rintro a b ⟨ha,rfl⟩
  obtain⟨u,hu,Lw⟩:=Fm.1 (ON a ha);obtain⟨i,hi⟩:=jy hu;rw[GZ im hi Lw,GZ im hi (Bo (maps ok) hu Lw)]
 .obtain⟨w,hw,rfl⟩:=dr.1 hx;obtain⟨⟨d,t,e,hd⟩,_⟩:=zZ ok w hw;rw[e];simp only[List.headD_cons];have:nD ls=2*ls.length+2*(aC ls).length:=rfl;omega
 rw[abw im hfs];exact Dl
abbrev EZ(ls:List Let):Nat->Nat->Prop:=gr (nD ls) (lh ls)
theorem QR(hv:v<ls.length)(g:Bool):dk ls.length v g<nD ls:=by have h:=yR hv (!g);rw[<- xk] at h;have:=vG h;rw[vH] at this;have:nD ls=2*ls.length+2*(aC ls).length:=rfl;omega
theorem adM(v:Nat)(g:Bool):lh ls (dk ls.length v g)=aO ls (gQ ls.length v (!g)):=by unfold lh;rw[xk]
theorem aoO(ok:eP F ls)(hv:v<ls.length):aW (EZ ls) (dk ls.length v true) (dk ls.length v false):=by
 obtain⟨l,hl⟩:=aI hv;have st:=Wb ok hv false;have:lh ls (lh ls (dk ls.length v true))=dk ls.length v false:=by rw[adM];exact st
 have p:=VP ok;rw[<- this];exact(aW.rel ⟨QR hv true,rfl⟩).trans (.rel ⟨p.lt _ (QR hv true),rfl⟩)
theorem PZ(ok:eP F ls)(hv:v<ls.length)(g h:Bool):aW (EZ ls) (dk ls.length v g) (dk ls.length v h):=by
 have e:=aoO ok hv;cases g<;>cases h
 .exact .refl _
 .exact e.symm
 .exact e
 exact .refl _
theorem aoQ(ok:eP F ls){l:Let}(hl:ls[v]?=some l)(hc:l.aw=true):aW (EZ ls) (dk ls.length v true) (dk ls.length (fH ls v) true):=by
 obtain⟨h1,m,hm,mc,mi,mo,ms⟩:=pW ok.cr hl hc;have hv:=(aV.1 hl).1;have hw:=(aV.1 hm).1;have:lh ls (dk ls.length v true)=dk ls.length (fH ls v) (false==(l.over==(l.sign==1))):=by rw[adM,yE hl hc];rfl
 exact(aW.rel ⟨QR hv true,this.symm⟩).trans (PZ ok hw _ _)
theorem aoN(ok:eP F ls){k:Nat}(hk:k<(aC ls).length):aW (EZ ls) (2*ls.length+2*k) (dk ls.length ((aC ls).getD k 0) true):=by
 have aq:2*ls.length+2*k<nD ls:=by unfold nD;omega
 obtain⟨l,h1,h2⟩:=yU hk;have hv:=(aV.1 h1).1;have:lh ls (2*ls.length+2*k)=dk ls.length ((aC ls).getD k 0) (dn ls ((aC ls).getD k 0)):=by unfold lh;rw[show 2*ls.length+2*k=2*(ls.length+k) by omega,tk,show 2*(ls.length+k)+1=2*ls.length+2*k+1 by omega,Fg]
 exact(aW.rel ⟨aq,this.symm⟩).trans (PZ ok hv _ _)
theorem aoM(ok:eP F ls){k:Nat}(hk:k<(aC ls).length):aW (EZ ls) (2*ls.length+2*k+1) (dk ls.length ((aC ls).getD ((k+1)%(aC ls).length) 0) true):=by
 have aq:2*ls.length+2*k+1<nD ls:=by unfold nD;omega
 obtain⟨l,h1,h2⟩:=yU (dw (k+1) (show 0<(aC ls).length by omega));have hv:=(aV.1 h1).1;have:lh ls (2*ls.length+2*k+1)=dk ls.length ((aC ls).getD ((k+1)%(aC ls).length) 0) (!dn ls ((aC ls).getD ((k+1)%(aC ls).length) 0)):=by unfold lh;rw[show 2*ls.length+2*k+1=2*(ls.length+k)+1 by omega,zT,show 2*(ls.length+k)=2*ls.length+2*k by omega,Fh]
 exact(aW.rel ⟨aq,this.symm⟩).trans (PZ ok hv _ _)
theorem aoR(ok:eP F ls)(hx:x<nD ls):∃v,v<ls.length/\aW (EZ ls) x (dk ls.length v true):=by
 by_cases c:x<2*ls.length
 .have hy:rv x<2*ls.length:=vG c;obtain⟨v,fw,hv,e⟩:∃v fw,v<ls.length/\rv x=gQ ls.length v fw:=⟨_,_,by
   split
   .exact dw _ aa
   omega,Ky hy⟩
  have:x=dk ls.length v (!fw):=by rw[<- ao0,<- e,vH]
  exact⟨v,hv,by rw[this];exact PZ ok hv _ _⟩
 have hN:nD ls=2*ls.length+2*(aC ls).length:=rfl;have hk:(x-2*ls.length)/2<(aC ls).length:=aa;rcases sH x with h|h
 .obtain⟨l,h1,h2⟩:=yU hk;refine⟨_,(aV.1 h1).1,?_⟩;have:=aoN ok hk;rwa[show 2*ls.length+2*((x-2*ls.length)/2)=x by omega] at this
 obtain⟨l,h1,h2⟩:=yU (dw ((x-2*ls.length)/2+1) (show 0<(aC ls).length by omega));refine⟨_,(aV.1 h1).1,?_⟩;have:=aoM ok hk;rwa[show 2*ls.length+2*((x-2*ls.length)/2)+1=x by omega] at this
theorem arv(ok:eP F ls):∃L:List Nat,L.length=au Let.ay ls+au Let.aw ls/2/\(∀j∈L,j<ls.length)/\(L.map (j5 ls)).Nodup/\ ∀v,v<ls.length->∃j∈L,j5 ls j=j5 ls v:=by
 have hc:=ok.cr;unfold lz at hc;simp only[bQ,beq_iff_eq] at hc;obtain⟨L,l1,l2,l3⟩:=afa ok;refine⟨L,l1,l2,l3,fun v hv=>?_⟩
 -- all the names there are
 let A:List (Int×Int):=(aC ls).map (fun i:Nat=>((0:Int),(i:Int)))++(eL ls ls.length).map fun id=>((1:Int),id)
 have hA:A.length=au Let.ay ls+au Let.aw ls/2:=by simp only[A,fc,cF,Fz,hc.2]
 have l6:∀v,v<ls.length->j5 ls v∈A:=fun v hv=>by
  obtain⟨l,hl⟩:=aI hv;unfold j5;rw[hl];rcases ok.kinds l (aQ hl) with hp|dX
  .simp only[mA hp,eY,if_false];exact List.mem_append_left _ (dr.2 ⟨v,tB.2 ⟨l,hl,hp⟩,rfl⟩)
  simp only[dX,if_true];refine Br _ (dr.2 ⟨l.id,?_,rfl⟩);exact(Gt (aZ _)).2 ⟨v,l.over,hv,by rw[IP hl dX];simp⟩
 refine Classical.byContradiction fun dF=>?_;have hn:j5 ls v∉L.map (j5 ls):=fun h=>by obtain⟨j,hj,e⟩:=dr.1 h;exact dF ⟨j,hj,e⟩
 have O0:∀(X Y:List (Int×Int)),X.Nodup->(∀x∈X,x∈Y)->X.length<=Y.length:=by
  intro X
  induction X with
  |nil=>intro Y _ _;exact aY _
  |cons a X ih=>intro Y hn hs;obtain⟨h1,h2⟩:=nY.1 hn;have ha:=hs a af;have:=ih (Y.erase a) h2 fun x hx=>(List.mem_erase_of_ne (by rintro rfl;exact h1 hx)).2 (hs x (by simp[hx]));rw[List.length_erase_of_mem ha] at this;have:0<Y.length:=NF ha;simp only[cE];omega
 have:=O0 (j5 ls v::L.map (j5 ls)) A (nY.2 ⟨hn,l3⟩) fun x hx=>by
  rcases cT.1 hx with rfl|hx
  .exact l6 v hv
  obtain⟨j,hj,rfl⟩:=dr.1 hx;exact l6 j (l2 j hj)
 rw[cE,cF,l1,hA] at this;omega
theorem arx(ok:eP F ls){u:Nat}(hu:u<ls.length)(hv:v<ls.length)(e:j5 ls u=j5 ls v):aW (EZ ls) (dk ls.length v true) (dk ls.length u true):=by
 obtain⟨l,hl⟩:=aI hu;obtain⟨m,hm⟩:=aI hv;unfold j5 at e;rw[hl,hm] at e;simp only at e;cases cl:l.aw<;>cases cm:m.aw
 .simp only[cl,cm,eY,if_false,kY,true_and] at e;have:u=v:=aa;subst this;exact .refl _
 .simp[cl,cm] at e
 .simp[cl,cm] at e
 simp only[cl,cm,if_true,kY,true_and] at e;have dX:=ok.cr;have hp:GG ls:=by unfold lz at dX;simp only[bQ,beq_iff_eq,iC,fk] at dX;exact(Ha.1 dX.1.2).2
 by_cases ym:u=v
 .subst ym;exact .refl _
 obtain⟨h1,w,hw,wc,wi,wo,ws⟩:=pW ok.cr hm cm;have:fH ls v=u:=by refine Classical.byContradiction fun aK=>?_;have d1:=(hp _ _ w l hw hl wc cl (by rw[wi,e]) aK).1;have d2:=(hp _ _ l m hl hm cl cm e ym).1;rw[wo] at d1;revert d1 d2;cases l.over<;>cases m.over<;>simp
 have:=aoQ ok hm cm;rwa[‹fH ls v=u›] at this
theorem afA(ok:eP F ls):K (aW (EZ ls)) (nD ls)=au Let.ay ls+au Let.aw ls/2:=by
 obtain⟨L,l1,l2,l3,l4⟩:=arv ok;have hN:=CI ls;have hN':nD ls=2*ls.length+2*(aC ls).length:=rfl;have Eu:∀y,y<nD ls->rv y<nD ls:=fun y hy=>by rw[hN] at hy ⊢;exact vG hy
 have hlen:(L.map (2* ·)).length=au Let.ay ls+au Let.aw ls/2:=by rw[cF,l1]
 refine Nat.le_antisymm ?_ ?_
 .rw[<- hlen];refine WE fun x hx=>?_;obtain⟨v,hv,e⟩:=aoR ok hx;obtain⟨j,hj,ej⟩:=l4 v hv;exact⟨2*j,dr.2 ⟨j,hj,rfl⟩,e.trans (arx ok (l2 j hj) hv ej)⟩
 rw[<- hlen];refine NN (f:=fun x=>j5 ls (sW ls (rv x))) ?_ (fun x hx=>?_) ?_
 .rintro a b ⟨ha,rfl⟩
  exact(ae4 ok (Eu a ha)).1.symm
 .obtain⟨j,hj,rfl⟩:=dr.1 hx;have:=l2 j hj;omega
 rw[qH];have:L.map ((fun x=>j5 ls (sW ls (rv x))) ∘ (2* ·))=L.map (j5 ls):=uu fun j hj=>by have:=F3 (ls:=ls) (l2 j hj) false;simp only[Function.comp_apply,tk];rw[show 2*j+1=gQ ls.length j false from rfl,this]
 rw[this];exact l3
theorem am2(ok:eP F ls):K (aW (xN (nD ls) (lh ls) (vJ (E2 ls)))) (nD ls)<=1:=by
 refine WG fun x hx=>?_;obtain⟨b,hb⟩:=aaC (p:=fun _=>false) (fun _=>rfl) ok hx;have h:=hb 0 ae;have:=h.push (R':=xN (nD ls) (lh ls) (vJ (E2 ls))) (f:=fun y=>y/2) ?_
 .have hf:fx b 0<2:=zi ae;rw[show(2*x+0)/2=x by omega,show fx b 0/2=0 by omega] at this;exact this
 intro u v r;rcases r with ⟨hu,rfl⟩|r
 .refine .rel (.inl ⟨aa,?_⟩);unfold uf lh fx;simp only[eY,if_false];omega
 refine .rel (.inr ?_);obtain⟨e,he,hm⟩:=List.mem_flatMap.1 r;have wS:(2*e,2*e+1)∈vJ (E2 ls):=dr.2 ⟨e,he,rfl⟩;simp only[cT,hJ,or_false,kY] at hm;rcases hm with ⟨rfl,rfl⟩|⟨rfl,rfl⟩
 .rw[Hy];simp only[eY,if_false];rw[show 4*e/2=2*e by omega,show(4*e+2)/2=2*e+1 by omega];exact wS
 rw[Hz];simp only[eY,if_false];rw[show(4*e+1)/2=2*e by omega,show(4*e+3)/2=2*e+1 by omega];exact wS
theorem ai9(ok:eP F ls):eN ls<=au Let.ay ls+au Let.aw ls/2+2/\(eN ls+(au Let.ay ls+au Let.aw ls/2))%2=0:=by
 have hN:=CI ls;have e1:=YT (vJ (E2 ls)) (lh ls) (VP ok) fun t ht=>by have:=ae1 t ht;rw[hN];exact⟨this.1,this.2.1⟩
 have e2:=afB (vJ (E2 ls)) (lh ls) (VP ok) fun t ht=>by have:=ae1 t ht;rw[hN];exact this
 have hl:(vJ (E2 ls)).length=ls.length+(aC ls).length:=by simp[vJ]
 rw[Hp ajT,afz ok,show K (aW (gr (nD ls) (lh ls))) (nD ls)=_ from afA ok,hl] at e1 e2;have h1:=am2 ok;have hPC:=U1 ok;have jT:=Fz (ls:=ls);have dX:=ok.cr;unfold lz at dX;simp only[bQ,beq_iff_eq] at dX;have dD:=dX.1.1;omega
end
structure dz where
 l:Nat
 r:Nat
 b:Bool
structure aG where
 p:Pc
 i:dz
 o:dz
abbrev aG.k(x:aG):Let:=x.p.l
def hY:dz->List aG->dz->Prop
 |s,[],t=>s=t
 |s,x::r,t=>x.i=s/\hY x.o r t
theorem yw{s t:dz}{a b:List aG}:hY s (a++b) t↔ ∃m,hY s a m/\hY m b t:=by
 induction a generalizing s with
 |nil=>exact⟨fun h=>⟨s,rfl,h⟩,fun⟨m,h1,h2⟩=>by cases h1;exact h2⟩
 |cons x a ih=>show(x.i=s/\hY x.o (a++b) t)↔_;rw[ih];exact⟨fun⟨h,m,h1,h2⟩=>⟨m,⟨h,h1⟩,h2⟩,fun⟨m,⟨h,h1⟩,h2⟩=>⟨h,m,h1,h2⟩⟩
theorem anl{s:dz}{a b:List aG}(h:hY s (a++b) s):∃m,hY m (b++a) m:=by obtain⟨m,h1,h2⟩:=yw.1 h;exact⟨m,yw.2 ⟨s,h2,h1⟩⟩
structure X4 (g:Bool) (i o j q:dz):Prop where
 a:if g then i.l=q.l else i.l=j.r
 b:if g then o.r=j.r else o.r=q.l
 c:if g then j.l=i.r else j.l=o.l
 d:if g then q.r=o.l else q.r=i.r
def gX (l:Let):Bool:=l.over==(l.sign==1)
structure Xc (x y:aG):Prop where
 ov:x.k.over= !y.k.over
 sg:x.k.sign=y.k.sign
 x4:X4 (gX x.k) x.i x.o y.i y.o
theorem Xc.symm{x y:aG}(h:Xc x y):Xc y x:=by
 obtain⟨h1,h2,a,b,c,d⟩:=h;have e:gX y.k= !gX x.k:=by unfold gX;rw[h1,h2];cases y.k.over<;>cases (y.k.sign==1)<;>rfl
 refine⟨by rw[h1];simp,h2.symm,?_⟩;rw[e];cases hg:gX x.k
 .rw[hg] at a b c d;simp only[eY,if_false] at a b c d;constructor<;>simp only[Bool.not_false,if_true]
  .exact c
  .exact d
  .exact a
  exact b
 rw[hg] at a b c d;simp only[if_true] at a b c d;constructor<;>simp only[Dg,eY,if_false]
 .exact c
 .exact d
 .exact a
 exact b
def ke(s:dz):dz:=⟨s.r,s.l,s.b⟩
def aG.up(x:aG):dz:=if x.p.d then x.i else ke x.o
def aG.lo(x:aG):dz:=if x.p.d then x.o else ke x.i
structure vz (F:Nat) (x:aG):Prop where
 bad:de F x.k=false
 cb:x.k.aw=true->x.i.b=x.o.b
 pb:x.k.ay=true->x.o.b=x.p.d/\x.i.b= !x.p.d
def Xr (x y:aG):Prop:=x.k.aw=true->y.k.aw=true->x.k.id=y.k.id->Xc x y
theorem Xr.symm{x y:aG}(h:Xr x y):Xr y x:=fun a b c=>(h b a c.symm).symm
def Dr (x y:aG):Prop:=x.k.ay=true->y.k.ay=true->x.k.gate=y.k.gate->x.k.aA≠y.k.aA
theorem Dr.symm{x y:aG}(h:Dr x y):Dr y x:=fun a b c d=>h b a c.symm d.symm
structure A6 (T B:Nat->Nat->Nat) (x:aG):Prop where
 wt:x.up.r=T x.k.gate.toNat (x.k.aA.toNat-1)
 et:x.up.l=T x.k.gate.toNat x.k.aA.toNat
 wb:x.lo.r=B x.k.gate.toNat (x.k.aA.toNat-1)
 eb:x.lo.l=B x.k.gate.toNat x.k.aA.toNat
abbrev aM(z:List aG):List Let:=z.map aG.k
structure Cz (F:Nat) (z:List aG) (T B:Nat->Nat->Nat) (S:List Nat):Prop where
 path:∃s,hY s z s
 ok:∀x∈z,vz F x
 cr:z.Pairwise Xr
 ev:au Let.aw (aM z)%2=0
 ids:∀x∈z,x.k.aw=true->1<=x.k.id/\x.k.id<=((au Let.aw (aM z)/2:Nat):Int)
 rk:z.Pairwise Dr
 rr:∀x∈z,x.k.ay=true->1<=x.k.aA/\x.k.aA<=(cg (aM z) x.k.gate.toNat:Int)
 pl:∀x∈z,x.k.ay=true->A6 T B x
 gt:∀g,g<F->T g (cg (aM z) g)=T (g+1) 0/\B g (cg (aM z) g)=B (g+1) 0
 gz:T F (cg (aM z) F)=T 0 0/\B F (cg (aM z) F)=B 0 0
 one:∃x∈z,x.k.ay=true
 nd:S.Nodup
 wit:∀s∈S,∃x∈z,s=x.o.l\/s=x.o.r
 num:au Let.ay (aM z)+au Let.aw (aM z)/2+1<=S.length
def Cert(F:Nat)(l:List Pc):Prop:= ∃z T B S,z.map aG.p=l/\Cz F z T B S
theorem xI{p:Let->Bool}{z z':List aG}(h:z.Perm z'):au p (aM z)=au p (aM z'):=(h.map aG.k).countP_eq p
theorem Cz.perm{z z':List aG}{T B:Nat->Nat->Nat}{S:List Nat}(c:Cz F z T B S)(h:z.Perm z')(hp:∃s,hY s z' s):Cz F z' T B S:=by
 have hm:∀ {x},x∈z'↔x∈z:=fun {x}=>h.symm.mem_iff;have e:∀p,au p (aM z')=au p (aM z):=fun p=>(xI h).symm;have eg:∀g,cg (aM z') g=cg (aM z) g:=fun g=>e _;refine⟨hp,fun x hx=>c.ok x (hm.1 hx),(h.pairwise_iff fun {x y}=>Xr.symm).1 c.cr,by rw[e];exact c.ev,fun x hx=>by rw[e];exact c.ids x (hm.1 hx),(h.pairwise_iff fun {x y}=>Dr.symm).1 c.rk,
  fun x hx=>by rw[eg];exact c.rr x (hm.1 hx),fun x hx=>c.pl x (hm.1 hx),fun g hg=>by rw[eg];exact c.gt g hg,by rw[eg];exact c.gz,?_,c.nd,fun s hs=>?_,by rw[e,e];exact c.num⟩
 .obtain⟨x,hx,h1⟩:=c.one;exact⟨x,hm.2 hx,h1⟩
 obtain⟨x,hx,h1⟩:=c.wit s hs;exact⟨x,hm.2 hx,h1⟩
theorem Cz.lh{a b:List aG}{T B:Nat->Nat->Nat}{S:List Nat}(c:Cz F (a++b) T B S):Cz F (b++a) T B S:=by obtain⟨s,h⟩:=c.path;exact c.perm (NI) (anl h)
theorem Cert.lh{a b:List Pc}(c:Cert F (a++b)):Cert F (b++a):=by obtain⟨z,T,B,S,h,c⟩:=c;obtain⟨x,y,rfl,rfl,rfl⟩:=List.map_eq_append_iff.1 h;exact⟨y++x,T,B,S,by rw[iS],c.lh⟩
theorem ank:∀ {z:List aG} {s t:dz},(∀x∈z,vz F x)->hY s z t->s.b=false->t.b=true->∃x∈z,x.k.ay=true/\x.p.d=true:=by
 intro z
 induction z with
 |nil=>intro s t _ h h1 h2;cases h;rw[h1] at h2;cases h2
 |cons x z ih=>
  intro s t ok h h1 h2;obtain⟨rfl,h⟩:=h;have ox:=ok x af;by_cases hd:x.k.ay=true/\x.p.d=true
  .exact⟨x,af,hd⟩
  have hb:x.o.b=false:=by
   rcases yW ox.bad with hp|hc
   .rw[(ox.pb hp).1];cases F0:x.p.d
    .rfl
    exact absurd ⟨hp,F0⟩ hd
   rw[<- ox.cb hc];exact h1
  obtain⟨y,hy,e⟩:=ih (fun x hx=>ok x (by simp[hx])) h hb h2;exact⟨y,by simp[hy],e⟩
theorem Cz.down{z:List aG}{T B:Nat->Nat->Nat}{S:List Nat}(c:Cz F z T B S):∃x∈z,x.k.ay=true/\x.p.d=true:=by
 obtain⟨x,hx,hp⟩:=c.one;cases hd:x.p.d
 .obtain⟨a,b,rfl⟩:=List.append_of_mem hx;have c2:=c.lh;obtain⟨s,h⟩:=c2.path;obtain⟨rfl,h⟩:=h;obtain⟨e1,e2⟩:=(c.ok x af).pb hp;rw[hd] at e1 e2;obtain⟨y,hy,e⟩:=ank (fun y hy=>c.ok y (by
   rcases fq.1 hy with hy|hy
   .simp[hy]
   simp[hy])) h e1 e2
  refine⟨y,?_,e⟩;rcases fq.1 hy with hy|hy
  .simp[hy]
  simp[hy]
 exact⟨x,hx,hp,hd⟩
theorem VO{l:List Pc}{f:Nat}(hf:f<=l.length):vF l f l.length=(l.drop f++l.take f).map Pc.l:=by
 apply xx;intro i;by_cases hi:i<l.length
 .have h1:(vF l f l.length)[i]?=some (l.getD ((f+i)%l.length) ⟨kP,false⟩).l:=by
   simp[vF,hi]
  rw[h1,fX];by_cases h2:f+i<l.length
  .rw[oO (by simp;omega),ur,fK h2];simp[h2]
  rw[nV (by simp;omega),nW];have h3:(f+i)%l.length=i-(l.length-f):=by rw[Nat.mod_eq_sub_mod aa,fK aa];omega
  have h4:i-(l.length-f)<l.length:=aa;rw[h3,jm,if_pos aa];simp[h4]
 have h1:(vF l f l.length).length=l.length:=by simp[vF]
 rw[mS (by rw[h1];omega),mS (by simp;omega)]
theorem Cert.fin{l:List Pc}(c:Cert F l):∃z T B S x r,z=x::r/\x.k.ay=true/\x.p.d=true/\aM z=nj l/\z.length=l.length/\Cz F z T B S:=by
 obtain⟨z,T,B,S,h,c⟩:=c;subst h;obtain⟨x,hx,hp,hd⟩:=c.down;have hP:∀y:aG,y.k.ay=(y.p.l.kind==1):=fun y=>rfl;obtain⟨j,hj⟩:=jy hx;have k8:=(aV.1 hj).1;have sY:(z.map aG.p)[j]?=some x.p:=by rw[fX,hj];rfl
 obtain⟨f,hf⟩:∃f,rT (z.map aG.p)=some f:=by
  cases h:rT (z.map aG.p) with
  |some f=>exact⟨f,rfl⟩
  |none=>have:=Hf.1 h j (by simpa using k8);rw[M8 sY] at this;unfold CN at this;rw[hP] at hp;simp[hp,hd] at this
 have h1:=List.find?_some hf;have h2:f<z.length:=by
  have:=Ko hf
  simpa using this
 obtain⟨y,hy⟩:=aV.2 ⟨h2,rfl⟩ |> fun h=>(⟨_,h⟩:∃y,z[f]?=some y)
 have hyp:(z.map aG.p)[f]?=some y.p:=by rw[fX,hy];rfl
 rw[M8 hyp] at h1;unfold CN at h1;rw[bQ] at h1;have hz:z=z.take f++y::z.drop (f+1):=by obtain⟨hl,e⟩:=aV.1 hy;rw[<- e,yJ,lX]
 have F1:z.drop f=y::z.drop (f+1):=by obtain⟨hl,e⟩:=aV.1 hy;rw[<- e,yJ]
 refine⟨y::z.drop (f+1)++z.take f,T,B,S,y,z.drop (f+1)++z.take f,rfl,h1.1,h1.2,?_,?_,?_⟩
 .unfold nj;rw[hf,kA,VO (by rw[cF];omega),<- F1];simp only[iS,Dk,Ad,qH];rfl
 .rw[<- F1,fc,nW,fJ,cF];omega
 rw[hz] at c;exact c.lh
theorem ah6{ls:List Let}(he:au Let.aw ls%2=0)(hi:UK ls)(hp:GG ls):lz ls=true:=by
 rw[Rv he (Ha.2 ⟨hi,hp⟩)];have My:=Wc ls;have hle:∀id∈eL ls ls.length,au (lT id) ls<=2:=fun id _=>by rw[Pg id];have:=As hp id true;have:=As hp id false;omega
 have h1:=aeP (f:=fun id=>au (lT id) ls) _ hle;have h2:(eL ls ls.length).length<=au Let.aw ls/2:=by
  have hr:∀id∈eL ls ls.length,1<=id/\id<=((au Let.aw ls/2:Nat):Int):=fun id hid=>by obtain⟨j,o,hj,hh⟩:=(Gt (aZ _)).1 hid;obtain⟨m,hm,mc,mi,_⟩:=Au hh;rw[<- mi];exact hi m (aQ hm) mc
  have:=Np ((eL ls ls.length).map Int.toNat) (List.range' 1 (au Let.aw ls/2)) ?_ ?_
  .rwa[cF,List.length_range'] at this
  .refine Hi.2 (List.Pairwise.imp_of_mem (fun {a b} ha hb h e=>h ?_) (O4 ls ls.length));have:=hr a ha;have:=hr b hb;omega
  intro x hx;obtain⟨id,hid,rfl⟩:=dr.1 hx;have:=hr id hid;rw[List.mem_range'_1];omega
 simp only[beq_iff_eq];omega
theorem PE{s t:dz}{z:List aG}{x:aG}(h:hY s z t)(hx:z[0]?=some x):x.i=s:=by
 cases z with
 |nil=>cases hx
 |cons y z=>cases hx;exact h.1
theorem adf:∀ {z:List aG} {s t:dz} {i:Nat} {x y:aG},hY s z t->z[i]?=some x->z[i+1]?=some y->x.o=y.i:=by
 intro z
 induction z with
 |nil=>intro s t i x y _ hx;cases hx
 |cons a z ih=>
  intro s t i x y h hx hy;cases i with
  |zero=>cases hx;exact(PE h.2 hy).symm
  |succ i=>exact ih h.2 hx hy
theorem Vi:∀ {z:List aG} {s t:dz} {x:aG},hY s z t->z[z.length-1]?=some x->x.o=t:=by
 intro z
 induction z with
 |nil=>intro s t x _ hx;cases hx
 |cons a z ih=>
  intro s t x h hx;cases z with
  |nil=>cases hx;exact h.2
  |cons b z=>exact ih h.2 hx
theorem ada{z:List aG}{s:dz}{x y:aG}(h:hY s z s)(hx:z[j]?=some x)(hy:z[(j+1)%z.length]?=some y):x.o=y.i:=by
 have hj:=(aV.1 hx).1;by_cases c:j+1<z.length
 .rw[fK c] at hy;exact adf h hx hy
 have:j+1=z.length:=aa;rw[this,xz] at hy;rw[Vi h (by rw[<- this];exact hx),PE h hy]
theorem AZ{z:List aG}{i:Nat}{x:aG}(h:z[i]?=some x):(aM z)[i]?=some x.k:=by rw[fX,h];rfl
theorem EJ{z:List aG}{i:Nat}{l:Let}(h:(aM z)[i]?=some l):∃x,z[i]?=some x/\x.k=l:=by rw[fX,dy] at h;exact h
theorem adb{z:List aG}{s t:dz}(ok:∀x∈z,vz F x)(h:hY s z t)(hs:s.b=false):∀i x,z[i]?=some x->x.i.b= !dn (aM z) i/\x.o.b= !dn (aM z) (i+1):=by
 have step:∀i x,z[i]?=some x->x.i.b=(!dn (aM z) i)->x.o.b= !dn (aM z) (i+1):=fun i x hx hb=>by
  have ox:=ok x (aQ hx);rcases yW ox.bad with hp|hc
  .rw[DE (AZ hx) hp,Bool.not_not,(ox.pb hp).1];have:=(ox.pb hp).2;rw[hb] at this;revert this;cases dn (aM z) i<;>cases x.p.d<;>simp
  rw[Ig (AZ hx) (by
   cases hp:x.k.ay
   .rfl
   rw[mA hp] at hc;cases hc),<- hb,ox.cb hc]
 intro i
 induction i with
 |zero=>
  intro x hx;have:x.i.b= !dn (aM z) 0:=by rw[PE h hx,hs];rfl
  exact⟨this,step 0 x hx this⟩
 |succ i ih=>intro y hy;obtain⟨x,hx⟩:=aI (ls:=z) (k:=i) (by have:=(aV.1 hy).1;omega);have e:=(ih x hx).2;rw[adf h hx hy] at e;exact⟨e,step (i+1) y hy e⟩
theorem adj{ls:List Let}{f:Nat->Nat->Nat}(hf:∀g,g<F->f g (cg ls g)=f (g+1) 0):∀(d g k g' k':Nat),g'=g+d->g'<=F->k<=cg ls g->k'<=cg ls g'->eU ls g+k=eU ls g'+k'->f g k=f g' k':=by
 intro d
 induction d with
 |zero=>intro g k g' k' e _ _ _ h;rw[rA] at e;subst e;rw[show k=k' by omega]
 |succ d ih=>intro g k g' k' e hF hk Ef h;have hm:=zg (ls:=ls) (show g+1<=g' by omega);have hs:=sO ls g;have:k=cg ls g:=aa;subst this;rw[hf g aa];exact ih (g+1) 0 g' k' aa hF (aY _) Ef aa
theorem Vq{ls:List Let}{f:Nat->Nat->Nat}(hf:∀g,g<F->f g (cg ls g)=f (g+1) 0){g k g' k':Nat}(hg:g<=F)(Ch:g'<=F)(hk:k<=cg ls g)(Ef:k'<=cg ls g')(h:eU ls g+k=eU ls g'+k'):f g k=f g' k':=by
 rcases Nat.le_total g g' with c|c
 .exact adj hf (g'-g) g k g' k' aa Ch hk Ef h
 exact(adj hf (g-g') g' k' g k aa hg Ef hk h.symm).symm
def MR:aG:=⟨⟨kP,false⟩,⟨0,0,false⟩,⟨0,0,false⟩⟩
def ot(z:List aG)(x:Nat):Nat:=
 if x<2*z.length then (if x%2=0 then (z.getD (x/2) MR).o.l else (z.getD (x/2) MR).o.r)
 else if x%2=0 then (z.getD ((aC (aM z)).getD ((x-2*z.length)/2) 0) MR).up.l else (z.getD ((aC (aM z)).getD ((x-2*z.length)/2) 0) MR).lo.l
theorem DN{z:List aG}{i:Nat}{x:aG}(h:z[i]?=some x):z.getD i MR=x:=by rw[cJ,h];rfl
section
variable {F:Nat} {z:List aG} {s:dz}
theorem UZ(h:hY s z s){x:aG}(hx:z[v]?=some x)(g:Bool):ot z (dk z.length v g)=if g then x.o.l else x.i.r:=by
 have hv:=(aV.1 hx).1;cases g with
 |true=>show ot z (2*v)=_;unfold ot;rw[if_pos aa,if_pos aa,show 2*v/2=v by omega,DN hx];rfl
 |false=>show ot z (2*((v+z.length-1)%z.length)+1)=_;have hm:=dw (v+z.length-1) (show 0<z.length by omega);obtain⟨y,hy⟩:=aI (ls:=z) hm;have e:=ada h hy (by rw[xe hv];exact hx);unfold ot;rw[if_pos aa,if_neg aa,show(2*((v+z.length-1)%z.length)+1)/2=(v+z.length-1)%z.length by omega,DN hy,e];rfl
theorem al6(h:hY s z s){x:aG}(hx:z[v]?=some x)(g:Bool):ot z (gQ z.length v g)=if g then x.i.l else x.o.r:=by
 have hv:=(aV.1 hx).1;cases g with
 |false=>show ot z (2*v+1)=_;unfold ot;rw[if_pos aa,if_neg aa,show(2*v+1)/2=v by omega,DN hx];rfl
 |true=>show ot z (2*((v+z.length-1)%z.length))=_;have hm:=dw (v+z.length-1) (show 0<z.length by omega);obtain⟨y,hy⟩:=aI (ls:=z) hm;have e:=ada h hy (by rw[xe hv];exact hx);unfold ot;rw[if_pos aa,if_pos aa,show(2*((v+z.length-1)%z.length))/2=(v+z.length-1)%z.length by omega,DN hy,e];rfl
theorem abW{k:Nat}{x:aG}(ha:(aC (aM z)).getD k 0=v)(hx:z[v]?=some x):ot z (2*z.length+2*k)=x.up.l:=by unfold ot;rw[if_neg aa,if_pos aa,show(2*z.length+2*k-2*z.length)/2=k by omega,ha,DN hx]
theorem abV{k:Nat}{x:aG}(ha:(aC (aM z)).getD k 0=v)(hx:z[v]?=some x):ot z (2*z.length+2*k+1)=x.lo.l:=by unfold ot;rw[if_neg aa,if_neg aa,show(2*z.length+2*k+1-2*z.length)/2=k by omega,ha,DN hx]
theorem Cz.GF{T B:Nat->Nat->Nat}{S:List Nat}(c:Cz F z T B S){i:Nat}{x y:aG}(hx:z[i]?=some x)(hy:z[j]?=some y)(fQ:i≠j):Xr x y/\Dr x y:=by
 obtain⟨hi,ex⟩:=aV.1 hx;obtain⟨hj,ey⟩:=aV.1 hy;subst ex ey;rcases Nat.lt_or_gt_of_ne fQ with h|h
 .exact⟨NH.1 c.cr i j hi hj h,NH.1 c.rk i j hi hj h⟩
 exact⟨(NH.1 c.cr j i hj hi h).symm,(NH.1 c.rk j i hj hi h).symm⟩
theorem Cz.eQ{T B:Nat->Nat->Nat}{S:List Nat}(c:Cz F z T B S){x:aG}(hx:x∈z)(hp:x.k.ay=true):sP F (aM z) x.k:=by obtain⟨⟨⟨⟨g0,g1⟩,_⟩,_⟩,_⟩:=(lU hp).1 (c.ok x hx).bad;obtain⟨r0,r1⟩:=c.rr x hx hp;exact⟨g0,g1,r0,r1⟩
theorem Cz.dg{T B:Nat->Nat->Nat}{S:List Nat}(c:Cz F z T B S)(hl:z.length<=1000000):eP F (aM z):=by
 refine⟨by rw[cF];exact hl,⟨fun l hl hp=>?_,fun i j l m hi hj pl pm e=>?_⟩,ah6 c.ev (fun l hl hc=>?_) (fun i j l m hi hj cl cm e fQ=>?_),fun l hl=>?_⟩
 .obtain⟨x,hx,rfl⟩:=dr.1 hl;exact c.eQ hx hp
 .obtain⟨x,hx,rfl⟩:=EJ hi;obtain⟨y,hy,rfl⟩:=EJ hj;refine Decidable.byContradiction fun fQ=>?_;obtain⟨h1,h2⟩:=(GJ (c.eQ (aQ hx) pl) (c.eQ (aQ hy) pm)).1 e;exact(c.GF hx hy fQ).2 pl pm h1 h2
 .obtain⟨x,hx,rfl⟩:=dr.1 hl;exact c.ids x hx hc
 .obtain⟨x,hx,rfl⟩:=EJ hi;obtain⟨y,hy,rfl⟩:=EJ hj;have:=(c.GF hx hy fQ).1 cl cm e;refine⟨?_,this.sg⟩;rw[this.ov];cases y.k.over<;>simp
 obtain⟨x,hx,rfl⟩:=dr.1 hl;exact yW (c.ok x hx).bad
theorem Cz.ql{T B:Nat->Nat->Nat}{S:List Nat}(c:Cz F z T B S):ql F (aM z):=fun l hl hp=>by obtain⟨x,hx,rfl⟩:=dr.1 hl;exact((lU hp).1 (c.ok x hx).bad).1.1.1
theorem Cz.NU{T B:Nat->Nat->Nat}{S:List Nat}(c:Cz F z T B S)(hl:z.length<=1000000){k u:Nat}{x y:aG}(hu:(aC (aM z))[k]?=some u)(hv:(aC (aM z))[(k+1)%(aC (aM z)).length]?=some v)(hx:z[u]?=some x)(hy:z[v]?=some y):x.up.l=y.up.r/\x.lo.l=y.lo.r:=by
 have ok:=c.dg hl;have hk:=(aV.1 hu).1;obtain⟨l,l1,l2,l3⟩:=yV ok.ax hu;obtain⟨m,m1,m2,m3⟩:=yV ok.ax hv;rw[AZ hx] at l1;cases l1;rw[AZ hy] at m1;cases m1;have gx:=c.eQ (aQ hx) l2;have gy:=c.eQ (aQ hy) m2;have px:=c.pl x (aQ hx) l2;have py:=c.pl y (aQ hy) m2;obtain⟨x1,x2,x3,x4⟩:=gx;obtain⟨y1,y2,y3,y4⟩:=gy;have key:∀f:Nat->Nat->Nat,(∀g,g<F->f g (cg (aM z) g)=f (g+1) 0)->f F (cg (aM z) F)=f 0 0->f x.k.gate.toNat x.k.aA.toNat=f y.k.gate.toNat (y.k.aA.toNat-1):=by
  intro f hf hz;unfold dJ at l3 m3;by_cases c1:k+1<(aC (aM z)).length
  .rw[fK c1] at m3;exact Vq hf aa aa aa aa aa
  have hT:=Dt c.ql;have hs:=sO (aM z) F;have:k+1=(aC (aM z)).length:=aa;rw[this,xz] at m3;rw[Vq hf (g:=x.k.gate.toNat) (k:=x.k.aA.toNat) (g':=F) (k':=cg (aM z) F) aa (aZ _) aa (aZ _) aa,hz];exact Vq hf (aY _) aa (aY _) aa (by show 0+0=_;omega)
 exact⟨by rw[px.et,py.wt];exact key T (fun g hg=>(c.gt g hg).1) c.gz.1,by rw[px.eb,py.wb];exact key B (fun g hg=>(c.gt g hg).2) c.gz.2⟩
theorem Cz.walk{T B:Nat->Nat->Nat}{S:List Nat}(c:Cz F z T B S)(hl:z.length<=1000000)(h:hY s z s)(hs:s.b=false)(hx:x<nD (aM z)):ot z (aO (aM z) x)=ot z x:=by
 have ok:=c.dg hl;have hn:(aM z).length=z.length:=cF ..;have hN:nD (aM z)=2*z.length+2*(aC (aM z)).length:=by unfold nD;rw[hn]
 have fp:=adb c.ok h hs;by_cases c1:x<2*z.length
 .obtain⟨v,fw,hv,rfl⟩:∃v fw,v<z.length/\x=gQ z.length v fw:=⟨_,_,by
   split
   .exact dw _ aa
   omega,Ky c1⟩
  obtain⟨e,he⟩:=aI (ls:=z) hv;have hle:=AZ he;have oe:=c.ok e (aQ he);rw[al6 h he];rcases yW oe.bad with hp|hc
  .have hd:dn (aM z) v=e.p.d:=by
    have:=(fp v e he).1;rw[(oe.pb hp).2] at this;revert this;cases e.p.d<;>cases dn (aM z) v<;>simp
   obtain⟨a1,a2⟩:=Fy ok hle hp;have t:=GS hle hp fw;rw[hn] at t;rw[t,hd];by_cases c2:(e.p.d==fw)=true
   .rw[if_pos c2,abW a2 he];unfold aG.up;have:=eq_of_beq c2;subst this;cases e.p.d<;>rfl
   rw[if_neg c2];have hm:=dw ((aC (aM z)).idxOf v+(aC (aM z)).length-1) (show 0<(aC (aM z)).length by omega);obtain⟨u,hu⟩:=aI hm;obtain⟨l,u1,u2⟩:=tB.1 (aQ hu);obtain⟨y,hy,rfl⟩:=EJ u1;have hv':(aC (aM z))[(aC (aM z)).idxOf v]?=some v:=by obtain⟨q,hq⟩:=aI a1;rw[cJ,hq] at a2;rw[hq];exact congrArg some a2
   have:=(c.NU hl hu (by rw[xe a1];exact hv') hy he).2;rw[abV (by rw[cJ,hu];rfl) hy,this];unfold aG.lo;revert c2;cases e.p.d<;>cases fw<;>simp[ke]
  obtain⟨b1,m,hm,mc,mi,mo,ms⟩:=pW ok.cr hle hc;obtain⟨y,hy,rfl⟩:=EJ hm;have aK:v≠fH (aM z) v:=by intro ee;rw[<- ee,hle] at hm;have:=rB hm;rw[<- this] at mo;revert mo;cases e.k.over<;>simp
  obtain⟨_,_,xa,xb,xc,xd⟩:=(c.GF he hy aK).1 hc mc mi.symm;have t:=yE hle hc fw;rw[hn] at t;rw[t,UZ h hy];unfold gX at xa xb;cases hg:(e.k.over==(e.k.sign==1))<;>rw[hg] at xa xb<;>simp only[eY,if_false,if_true] at xa xb<;>cases fw<;>simp_all
 have hk:(x-2*z.length)/2<(aC (aM z)).length:=aa;obtain⟨u,hu⟩:=aI hk;obtain⟨l,u1,u2⟩:=tB.1 (aQ hu);obtain⟨e,he,rfl⟩:=EJ u1;have hgu:(aC (aM z)).getD ((x-2*z.length)/2) 0=u:=by rw[cJ,hu];rfl
 rcases sH x with zJ|zJ
 .have ex:x=2*z.length+2*((x-2*z.length)/2):=aa;have hm:=dw ((x-2*z.length)/2+1) (show 0<(aC (aM z)).length by omega);obtain⟨w,hw⟩:=aI hm;obtain⟨l,w1,w2⟩:=tB.1 (aQ hw);obtain⟨y,hy,rfl⟩:=EJ w1;have hgw:(aC (aM z)).getD (((x-2*z.length)/2+1)%(aC (aM z)).length) 0=w:=by rw[cJ,hw];rfl
  have oy:=c.ok y (aQ hy);have hd:dn (aM z) w=y.p.d:=by have:=(fp w y hy).1;rw[(oy.pb w2).2] at this;revert this;cases y.p.d<;>cases dn (aM z) w<;>simp
  have t:=Fh (ls:=aM z) ((x-2*z.length)/2);rw[hn,<- ex] at t;rw[t,hgw,UZ h hy,hd];have a:=(c.NU hl hu hw he hy).1;have r:=abW hgu he;rw[<- ex] at r;rw[r,a];unfold aG.up;cases y.p.d<;>simp[ke]
 have ex:x=2*z.length+2*((x-2*z.length)/2)+1:=aa;have oy:=c.ok e (aQ he);have hd:dn (aM z) u=e.p.d:=by have:=(fp u e he).1;rw[(oy.pb u2).2] at this;revert this;cases e.p.d<;>cases dn (aM z) u<;>simp
 have t:=Fg (ls:=aM z) ((x-2*z.length)/2);rw[hn,<- ex] at t;rw[t,hgu,UZ h he,hd];have r:=abV hgu he;rw[<- ex] at r;rw[r];unfold aG.lo;cases e.p.d<;>simp[ke]
theorem Cz.check{T B:Nat->Nat->Nat}{S:List Nat}(c:Cz F z T B S){x:aG}{r:List aG}(hz:z=x::r)(hp:x.k.ay=true)(hd:x.p.d=true)(hl:z.length<=400)(dX:au Let.aw (aM z)<=200)(hF:F<=40):iD F (aM z)=0:=by
 have ok:=c.dg aa;have hn:(aM z).length=z.length:=cF ..;obtain⟨s,h⟩:=c.path;have nI:z[0]?=some x:=by rw[hz];rfl
 have hs:s.b=false:=by rw[<- PE h nI,((c.ok x (aQ nI)).pb hp).2,hd];rfl
 have ff:0<z.length:=by rw[hz];simp
 have fp:=adb c.ok h hs;have dD:au Let.ay (aM z)%2=0:=by
  obtain⟨y,hy⟩:=aI (ls:=z) (k:=z.length-1) aa;have:=(fp _ y hy).2;rw[Vi h hy,hs,show z.length-1+1=(aM z).length by rw[hn];omega] at this;unfold dn at this;rw[jo] at this
  simpa using this
 have IU:eN (aM z)=au Let.ay (aM z)+au Let.aw (aM z)/2+2:=by
  obtain⟨b1,b2⟩:=ai9 ok;have key:∀a∈S,∃d,ot z d=a/\d<2*z.length:=fun a ha=>by
   obtain⟨y,hy,e⟩:=c.wit a ha;obtain⟨j,hj⟩:=jy hy;have k8:=(aV.1 hj).1;rcases e with e|e
   .exact⟨2*j,by unfold ot;rw[if_pos aa,if_pos aa,show 2*j/2=j by omega,DN hj,e],aa⟩
   exact⟨2*j+1,by unfold ot;rw[if_pos aa,if_neg aa,show(2*j+1)/2=j by omega,DN hj,e],aa⟩
  obtain⟨M,m1,m2⟩:=ab5 (P:=fun a d=>ot z d=a/\d<2*z.length) (f:=ot z) (fun a d h=>h.1) key;have hN:nD (aM z)=2*z.length+2*(aC (aM z)).length:=by unfold nD;rw[hn]
  have:=arJ (maps ok) (φ:=ot z) (fun y hy=>c.walk aa h hs hy) (reps:=M) (fun d hd=>by obtain⟨_,_,h⟩:=m2 d hd;omega) (by rw[m1];exact c.nd)
  have hM:M.length=S.length:=by rw[<- m1,cF]
  have hnum:=c.num;have:M.length<=eN (aM z):=this;omega
 have aK:aM z≠[]:=by intro e;rw[e] at hn;simp at hn;omega
 unfold iD;rw[if_neg (by rw[hn];omega),if_neg aa,if_neg aK,if_pos];unfold lV;have kK:=(GL c.ql).2 ⟨ok.ax.eQ,ok.ax.inj⟩;have IB:(aM z).any (de F)=false:=Dh.2 fun l hl=>by obtain⟨y,hy,rfl⟩:=dr.1 hl;rw[(c.ok y hy).bad];decide
 rw[AZ nI,MK.2 ⟨IB,kK,ok.cr⟩,IU,dD];have hk:(x.k.kind==1)=true:=hp;simp only[hk,beq_self_eq_true,Fl]
theorem Cert.check{l:List Pc}(c:Cert F l)(hl:l.length<=400)(dX:au Let.aw (l.map Pc.l)<=200)(hF:F<=40):iD F (nj l)=0:=by
 obtain⟨w,T,B,S,x,r,hz,hp,hd,iV,hlen,cz⟩:=c.fin;have je:au Let.aw (aM w)=au Let.aw (l.map Pc.l):=by
  rw[iV];have hf:(rT l).getD 0<=l.length:=by
   cases h:rT l with
   |none=>exact aY _
   |some f=>have:=Ko h;simp at this;simp only[kA];omega
  unfold nj;rw[VO hf];show List.countP _ _=List.countP _ _;rw[iS,uU,Nat.add_comm,<- uU,<- iS,lX]
 rw[<- iV];exact cz.check hz hp hd aa aa hF
end
def nK(ls:List Let)(x:Nat):Nat:=Aa (fV (aO ls) (nD ls)) x
def kS(ls:List Let)(i:Nat):dz:=⟨nK ls (2*i),nK ls (2*i+1),!dn ls (i+1)⟩
def dA(ls:List Let)(i:Nat):aG:=⟨⟨ls.getD i kP,iE ls i⟩,kS ls ((i+ls.length-1)%ls.length),kS ls i⟩
def zF (ls:List Let):List aG:=(List.range ls.length).map (dA ls)
def TF (ls:List Let)(g k:Nat):Nat:=nK ls (2*ls.length+2*((eU ls g+k+(aC ls).length-1)%(aC ls).length))
def BF (ls:List Let)(g k:Nat):Nat:=nK ls (2*ls.length+2*((eU ls g+k+(aC ls).length-1)%(aC ls).length)+1)
theorem um(ls:List Let):(zF ls).map aG.p=pieces ls:=by unfold zF pieces;rw[qH];rfl
theorem gY(ls:List Let):aM (zF ls)=ls:=by
 have h:aM (zF ls)=(pieces ls).map Pc.l:=by rw[<- um,qH];rfl
 rw[h];apply xx;intro i;rw[fX];by_cases hi:i<ls.length
 .obtain⟨l,hl⟩:=aI hi;rw[nL hl,hl];rfl
 rw[mS (by rw[eW];omega),mS aa];rfl
theorem De(ls:List Let):(zF ls).length=ls.length:=by simp[zF]
theorem Dd{ls:List Let}{i:Nat}(h:i<ls.length):(zF ls)[i]?=some (dA ls i):=by simp[zF,h]
theorem dU{ls:List Let}{i:Nat}{l:Let}(h:ls[i]?=some l):(dA ls i).k=l:=by show ls.getD i kP=l;rw[cJ,h];rfl
theorem ade(f:Nat->aG)(e:Nat->dz):∀k a,(∀i,a<=i->i<a+k->(f i).i=e i/\(f i).o=e (i+1))->hY (e a) ((List.range' a k).map f) (e (a+k)):=by
 intro k
 induction k with
 |zero=>intro a _;rfl
 |succ k ih=>intro a h;rw[List.range'_succ,dG];obtain⟨h1,h2⟩:=h a (aZ _) aa;refine⟨h1,?_⟩;rw[h2,show a+(k+1)=a+1+k by omega];exact ih (a+1) fun i hi hk=>h i aa aa
theorem PD{R:aG->aG->Prop}{f:Nat->aG}(h:∀i j,i<n->j<n->i≠j->R (f i) (f j)):((List.range n).map f).Pairwise R:=Hi.2 (List.Pairwise.imp_of_mem (fun {a b} ha hb ju=>h a b (fk.1 ha) (fk.1 hb) ju) (Dl (n:=n)))
section
variable {F:Nat} {ls:List Let}
theorem JA(g:ct F ls){i:Nat}{w:List Nat}(hi:(fV (aO ls) (nD ls))[i]?=some w)(hx:x∈w):nK ls x=i:=GZ (GX _ _).1 hi hx
theorem ans(g:ct F ls)(hx:x<nD ls):∃w,(fV (aO ls) (nD ls))[nK ls x]?=some w/\x∈w:=by obtain⟨u,hu,hxu⟩:=Fm.1 ((GX (aO ls) (nD ls)).2 x hx);obtain⟨i,hi⟩:=jy hu;rw[JA g hi hxu];exact⟨u,hi,hxu⟩
theorem EW(g:ct F ls)(hx:x<nD ls):nK ls (aO ls x)=nK ls x:=by obtain⟨w,hw,EB⟩:=ans g hx;exact JA g hw (Bo (maps g.ok) (aQ hw) EB)
theorem Vl(g:ct F ls)(hv:v<ls.length)(fw:Bool):nK ls (gQ ls.length v fw)=if fw then (dA ls v).i.l else (dA ls v).o.r:=by cases fw<;>rfl
theorem PI(fw:Bool):nK ls (dk ls.length v fw)=if fw then (dA ls v).o.l else (dA ls v).i.r:=by cases fw<;>rfl
theorem ain(g:ct F ls):dn ls ls.length=true:=by unfold dn;rw[jo];have:=g.even;simp[this]
theorem UM(g:ct F ls){i:Nat}(hi:i<ls.length):(dA ls i).i.b= !dn ls i:=by
 show(!dn ls ((i+ls.length-1)%ls.length+1))=_;by_cases h:i=0
 .subst h;rw[jc,fK aa,show ls.length-1+1=ls.length by omega,ain g];rfl
 rw[show i+ls.length-1=(i-1)+ls.length by omega,uX,fK aa,show i-1+1=i by omega]
theorem HB(hv:v<ls.length)(fw:Bool):gQ ls.length v fw<nD ls:=by have:=yR hv fw;unfold nD;omega
theorem Od(g:ct F ls){l:Let}(hl:ls[v]?=some l)(hp:l.ay=true):(dA ls v).p.d=dn ls v:=by show iE ls v=_;simp[iE,hl,hp]
theorem DF(g:ct F ls){i:Nat}(hi:i<ls.length):vz F (dA ls i):=by
 obtain⟨l,hl⟩:=aI hi;have hk:=dU hl;refine⟨by rw[hk];exact g.bad l (aQ hl),fun hc=>?_,fun hp=>?_⟩
 .rw[hk] at hc;rw[UM g hi];show _= !dn ls (i+1);rw[Ig hl (by
   cases hp:l.ay
   .rfl
   rw[mA hp] at hc;cases hc)]
 rw[hk] at hp;rw[UM g hi,Od g hl hp];refine⟨?_,rfl⟩;show(!dn ls (i+1))=_;rw[DE hl hp,Bool.not_not]
theorem KS(g:ct F ls){i:Nat}(hi:i<ls.length)(hj:j<ls.length)(fQ:i≠j):Xr (dA ls i) (dA ls j):=by
 obtain⟨l,hl⟩:=aI hi;obtain⟨m,hm⟩:=aI hj;intro hc mc e;rw[dU hl] at hc e;rw[dU hm] at mc e;obtain⟨_,hp⟩:=g.ids;obtain⟨d1,d2⟩:=hp i j l m hl hm hc mc e fQ;obtain⟨b1,w,hw,wc,wi,wo,ws⟩:=pW g.ok.cr hl hc;have hoj:fH ls i=j:=by refine Classical.byContradiction fun aK=>?_;have d3:=(hp _ _ w m hw hm wc mc (by rw[wi,e]) aK).1;rw[wo] at d3;revert d1 d3;cases l.over<;>cases m.over<;>simp
 refine⟨?_,by rw[dU hl,dU hm];exact d2,?_⟩
 .rw[dU hl,dU hm];revert d1;cases l.over<;>cases m.over<;>simp
 rw[dU hl];have t1:=EW g (HB hi true);have t2:=EW g (HB hi false);have t3:=EW g (HB hj true);have t4:=EW g (HB hj false);rw[yE hl hc,hoj,PI,Vl g hi] at t1 t2;rw[yE hm mc,<- hoj,b1,hoj,PI,Vl g hj] at t3 t4;have hg:(m.over==(m.sign==1))= !gX l:=by unfold gX;rw[<- d2];revert d1;cases l.over<;>cases m.over<;>cases (l.sign==1)<;>simp
 rw[hg] at t3 t4;have Ch:(l.over==(l.sign==1))=gX l:=rfl;rw[Ch] at t1 t2;cases wP:gX l<;>rw[wP] at t1 t2 t3 t4<;>simp at t1 t2 t3 t4<;>constructor<;>simp[t1,t2,t3,t4]
theorem Oe(g:ct F ls){l:Let}(hl:ls[v]?=some l)(hp:l.ay=true):A6 (TF ls) (BF ls) (dA ls v):=by
 have hv:=(aV.1 hl).1;have ok:=g.ok;have gd:=ok.ax.eQ l (aQ hl) hp;obtain⟨g0,g1,r0,r1⟩:=gd;obtain⟨a1,a2⟩:=Fy ok hl hp;have Uh:=HD ok.ax hl hp;have hP:eU ls l.gate.toNat+l.aA.toNat=(aC ls).idxOf v+1:=by rw[Uh];unfold dJ;omega
 have hPm:eU ls l.gate.toNat+(l.aA.toNat-1)=(aC ls).idxOf v:=aa;have eR:(eU ls l.gate.toNat+l.aA.toNat+(aC ls).length-1)%(aC ls).length=(aC ls).idxOf v:=by rw[hP,show(aC ls).idxOf v+1+(aC ls).length-1=(aC ls).idxOf v+(aC ls).length by omega,uX,fK a1]
 have hk:=dU hl;have hd:=Od g hl hp;have nR:∀k,k<(aC ls).length->2*ls.length+2*k<nD ls/\2*ls.length+2*k+1<nD ls:=fun k hk=>by unfold nD;omega
 have hm:=dw ((aC ls).idxOf v+(aC ls).length-1) (show 0<(aC ls).length by omega);have q1:=EW g (HB hv (dn ls v));have q2:=EW g (HB hv (!dn ls v));have q3:=EW g (nR _ a1).2;have q4:=EW g (nR _ hm).1;rw[GS hl hp,Vl g hv] at q1 q2;rw[Fg,a2,PI] at q3;rw[Fh,xe a1,a2,PI] at q4;constructor
 .rw[hk];unfold TF;rw[hPm];unfold aG.up;rw[hd];cases fp:dn ls v<;>rw[fp] at q4<;>exact q4
 .rw[hk];unfold TF;rw[eR];unfold aG.up;rw[hd];cases fp:dn ls v<;>rw[fp] at q1<;>exact q1.symm
 .rw[hk];unfold BF;rw[hPm];unfold aG.lo;rw[hd];cases fp:dn ls v<;>rw[fp] at q2<;>exact q2.symm
 rw[hk];unfold BF;rw[eR];unfold aG.lo;rw[hd];cases fp:dn ls v<;>rw[fp] at q3<;>exact q3
theorem ct.cz(g:ct F ls):Cz F (zF ls) (TF ls) (BF ls) (List.range (eN ls)):=by
 have hn:0<ls.length:=iR.2 g.ne;have mem:∀x∈zF ls,∃i,i<ls.length/\x=dA ls i:=fun x hx=>by obtain⟨i,hi,rfl⟩:=dr.1 hx;exact⟨i,fk.1 hi,rfl⟩
 have hT:eU ls (F+1)=(aC ls).length:=Dt fun l hl hp=>((lU hp).1 (g.bad l hl)).1.1.1;have hs:=sO ls F;have hm:0<(aC ls).length:=by obtain⟨l,h1,h2⟩:=g.first;exact NF (tB.2 ⟨l,h1,h2⟩)
 have dX:=g.ok.cr;unfold lz at dX;simp only[bQ,beq_iff_eq] at dX;refine⟨⟨kS ls (ls.length-1),?_⟩,fun x hx=>?_,PD fun i j hi hj fQ=>KS g hi hj fQ,by rw[gY];exact dX.1.1,fun x hx hc=>?_,PD fun i j hi hj fQ=>?_,fun x hx hp=>?_,fun x hx hp=>?_,
  fun k hk=>?_,?_,?_,Dl,fun s hs=>?_,?_⟩
 .have:=ade (dA ls) (fun i=>kS ls ((i+ls.length-1)%ls.length)) ls.length 0 fun i _ hi=>⟨rfl,?_⟩
  .simp only[jc] at this;rw[fK aa,show ls.length+ls.length-1=(ls.length-1)+ls.length by omega,uX,fK aa,<- List.range_eq_range'] at this;exact this
  show kS ls i=kS ls ((i+1+ls.length-1)%ls.length);rw[show i+1+ls.length-1=i+ls.length by omega,uX,fK aa]
 .obtain⟨i,hi,rfl⟩:=mem x hx;exact DF g hi
 .obtain⟨i,hi,rfl⟩:=mem x hx;obtain⟨l,hl⟩:=aI hi;rw[dU hl] at hc ⊢;rw[gY];exact g.ids.1 l (aQ hl) hc
 .obtain⟨l,hl⟩:=aI hi;obtain⟨m,hm⟩:=aI hj;intro pl pm e1 e2;rw[dU hl] at pl e1 e2;rw[dU hm] at pm e1 e2;exact fQ (g.ok.ax.inj i j l m hl hm pl pm ((GJ (g.ok.ax.eQ l (aQ hl) pl) (g.ok.ax.eQ m (aQ hm) pm)).2 ⟨e1,e2⟩))
 .obtain⟨i,hi,rfl⟩:=mem x hx;obtain⟨l,hl⟩:=aI hi;rw[dU hl] at hp ⊢;rw[gY];obtain⟨_,_,r0,r1⟩:=g.ok.ax.eQ l (aQ hl) hp;exact⟨r0,r1⟩
 .obtain⟨i,hi,rfl⟩:=mem x hx;obtain⟨l,hl⟩:=aI hi;rw[dU hl] at hp;exact Oe g hl hp
 .rw[gY];unfold TF BF;rw[sO ls k,rA];exact⟨rfl,rfl⟩
 .rw[gY];unfold TF BF;have e1:eU ls F+cg ls F=(aC ls).length:=aa;have e0:eU ls 0=0:=rfl;rw[e1,e0,jc,show(aC ls).length+(aC ls).length-1=((aC ls).length-1)+(aC ls).length by omega,uX];exact⟨rfl,rfl⟩
 .obtain⟨l,h1,h2⟩:=g.first;exact⟨dA ls 0,aQ (Dd hn),by rw[dU h1];exact h2⟩
 .obtain⟨w,hw⟩:=aI (fk.1 hs);obtain⟨⟨d,t,e,hd⟩,_⟩:=zZ g.ok w (aQ hw);have hp:nK ls d=s:=JA g hw (by rw[e];simp);refine⟨dA ls (d/2),aQ (Dd aa),?_⟩;rcases sH d with h|h
  .refine .inl ?_;show s=nK ls (2*(d/2));rw[show 2*(d/2)=d by omega,hp]
  refine .inr ?_;show s=nK ls (2*(d/2)+1);rw[show 2*(d/2)+1=d by omega,hp]
 rw[gY,vM,g.nw];omega
end
structure Cq (F:Nat) (z:List aG) (T B:Nat->Nat->Nat):Prop where
 ok:∀x∈z,vz F x
 cr:z.Pairwise Xr
 ev:au Let.aw (aM z)%2=0
 ids:∀x∈z,x.k.aw=true->1<=x.k.id/\x.k.id<=((au Let.aw (aM z)/2:Nat):Int)
 rk:z.Pairwise Dr
 rr:∀x∈z,x.k.ay=true->1<=x.k.aA/\x.k.aA<=(cg (aM z) x.k.gate.toNat:Int)
 pl:∀x∈z,x.k.ay=true->A6 T B x
 gt:∀g,g<F->T g (cg (aM z) g)=T (g+1) 0/\B g (cg (aM z) g)=B (g+1) 0
 gz:T F (cg (aM z) F)=T 0 0/\B F (cg (aM z) F)=B 0 0
def dz.mp(ψ:Nat->Nat)(s:dz):dz:=⟨ψ s.l,ψ s.r,s.b⟩
def aG.mp(ψ:Nat->Nat)(h:Let->Let)(x:aG):aG:=⟨⟨h x.p.l,x.p.d⟩,x.i.mp ψ,x.o.mp ψ⟩
theorem X4.mp{g:Bool}{i o j q:dz}(h:X4 g i o j q)(ψ:Nat->Nat):X4 g (i.mp ψ) (o.mp ψ) (j.mp ψ) (q.mp ψ):=by obtain⟨a,b,c,d⟩:=h;cases g<;>simp only[eY,if_false,if_true] at a b c d<;>constructor<;>simp[dz.mp,a,b,c,d]
theorem acy(ψ:Nat->Nat)(h:Let->Let)(x:aG):(x.mp ψ h).up=x.up.mp ψ:=by unfold aG.up aG.mp;cases x.p.d<;>rfl
theorem acx(ψ:Nat->Nat)(h:Let->Let)(x:aG):(x.mp ψ h).lo=x.lo.mp ψ:=by unfold aG.lo aG.mp;cases x.p.d<;>rfl
theorem GH{ψ:Nat->Nat}{h:Let->Let}:∀ {z:List aG} {s t:dz},hY s z t->hY (s.mp ψ) (z.map (aG.mp ψ h)) (t.mp ψ):=by
 intro z
 induction z with
 |nil=>intro s t e;cases e;rfl
 |cons x z ih=>intro s t e;obtain⟨rfl,e⟩:=e;exact⟨rfl,ih e⟩
theorem Z2{S L:List Nat}(hn:S.Nodup):S.length<=(S.filter fun s=> !L.contains s).length+L.length:=by
 have h1:S.length=(S.filter fun s=> !L.contains s).length+(S.filter fun s=>L.contains s).length:=by have:=List.length_eq_countP_add_countP (fun s=> !L.contains s) (l:=S);rw[NB,NB] at this;rw[this];congr 2;apply List.filter_congr;intro x _;simp
 have h2:=Np (S.filter fun s=>L.contains s) L (hn.filter _) fun x hx=>by simpa using (tv.1 hx).2
 omega
structure xB (h:Let->Let):Prop where
 kind:∀l,(h l).kind=l.kind
 over:∀l,(h l).over=l.over
 sign:∀l,(h l).sign=l.sign
theorem xB.ay{h:Let->Let}(s:xB h)(l:Let):(h l).ay=l.ay:=by unfold Let.ay;rw[s.kind]
theorem xB.aw{h:Let->Let}(s:xB h)(l:Let):(h l).aw=l.aw:=by unfold Let.aw;rw[s.kind]
theorem xB.id:xB id:=⟨fun _=>rfl,fun _=>rfl,fun _=>rfl⟩
section
variable {F:Nat} {X r X':List aG} {T B T' B':Nat->Nat->Nat} {S:List Nat} {ψ:Nat->Nat} {h:Let->Let}
theorem Cz.q{z:List aG}(c:Cz F z T B S):Cq F z T B:=⟨c.ok,c.cr,c.ev,c.ids,c.rk,c.rr,c.pl,c.gt,c.gz⟩
theorem Cq.perm{z z':List aG}(c:Cq F z T B)(hh:z.Perm z'):Cq F z' T B:=by
 have hm:∀ {x},x∈z'↔x∈z:=fun {x}=>hh.symm.mem_iff;have e:∀p,au p (aM z')=au p (aM z):=fun p=>(xI hh).symm;have eg:∀g,cg (aM z') g=cg (aM z) g:=fun g=>e _;exact⟨fun x hx=>c.ok x (hm.1 hx),(hh.pairwise_iff fun {x y}=>Xr.symm).1 c.cr,by rw[e];exact c.ev,fun x hx=>by rw[e];exact c.ids x (hm.1 hx),(hh.pairwise_iff fun {x y}=>Dr.symm).1 c.rk,
  fun x hx=>by rw[eg];exact c.rr x (hm.1 hx),fun x hx=>c.pl x (hm.1 hx),fun g hg=>by rw[eg];exact c.gt g hg,by rw[eg];exact c.gz⟩
theorem vz.mp{x:aG}(o:vz F x)(s:xB h)(hb:de F (h x.k)=false):vz F (x.mp ψ h):=by
 refine⟨hb,fun hc=>?_,fun hp=>?_⟩
 .exact o.cb (by rw[<- s.aw];exact hc)
 exact o.pb (by rw[<- s.ay];exact hp)
theorem Cq.edit(q:Cq F (X++r) T B)(s:xB h)(hb:∀x∈r,de F (h x.k)=false)
  (hid:∀x∈r,∀y∈r,x.k.aw=true->y.k.aw=true->(h x.k).id=(h y.k).id->x.k.id=y.k.id)
  (kK:∀x∈r,∀y∈r,x.k.ay=true->y.k.ay=true->(h x.k).gate=(h y.k).gate->(h x.k).aA=(h y.k).aA->x.k.gate=y.k.gate/\x.k.aA=y.k.aA)
  (n1:∀x∈X',vz F x) (n2:X'.Pairwise Xr) (n3:X'.Pairwise Dr) (n4:∀x∈X',∀y∈r,Xr x (y.mp ψ h)) (n5:∀x∈X',∀y∈r,Dr x (y.mp ψ h))
  (ev:au Let.aw (aM (X'++r.map (aG.mp ψ h)))%2=0)
  (ids:∀x∈X',x.k.aw=true->1<=x.k.id/\x.k.id<=((au Let.aw (aM (X'++r.map (aG.mp ψ h)))/2:Nat):Int))
  (alg:∀x∈r,x.k.aw=true->1<=(h x.k).id/\(h x.k).id<=((au Let.aw (aM (X'++r.map (aG.mp ψ h)))/2:Nat):Int))
  (rr:∀x∈X',x.k.ay=true->1<=x.k.aA/\x.k.aA<=(cg (aM (X'++r.map (aG.mp ψ h))) x.k.gate.toNat:Int))
  (rr':∀x∈r,x.k.ay=true->1<=(h x.k).aA/\(h x.k).aA<=(cg (aM (X'++r.map (aG.mp ψ h))) (h x.k).gate.toNat:Int))
  (pl:∀x∈X',x.k.ay=true->A6 T' B' x)
  (JB:∀x∈r,x.k.ay=true->(ψ (T x.k.gate.toNat (x.k.aA.toNat-1))=T' (h x.k).gate.toNat ((h x.k).aA.toNat-1)/\ψ (B x.k.gate.toNat (x.k.aA.toNat-1))=B' (h x.k).gate.toNat ((h x.k).aA.toNat-1))/\ψ (T x.k.gate.toNat x.k.aA.toNat)=T' (h x.k).gate.toNat (h x.k).aA.toNat/\ψ (B x.k.gate.toNat x.k.aA.toNat)=B' (h x.k).gate.toNat (h x.k).aA.toNat)
  (gt:∀g,g<F->T' g (cg (aM (X'++r.map (aG.mp ψ h))) g)=T' (g+1) 0/\B' g (cg (aM (X'++r.map (aG.mp ψ h))) g)=B' (g+1) 0)
  (gz:T' F (cg (aM (X'++r.map (aG.mp ψ h))) F)=T' 0 0/\B' F (cg (aM (X'++r.map (aG.mp ψ h))) F)=B' 0 0):Cq F (X'++r.map (aG.mp ψ h)) T' B':=by
 have crr:=(NG.1 q.cr).2.1;have rkr:=(NG.1 q.rk).2.1;have mem:∀x∈X'++r.map (aG.mp ψ h),x∈X'\/ ∃y∈r,x=y.mp ψ h:=fun x hx=>by
  rcases fq.1 hx with hx|hx
  .exact .inl hx
  obtain⟨y,hy,rfl⟩:=dr.1 hx;exact .inr ⟨y,hy,rfl⟩
 have in':∀y∈r,y∈X++r:=fun y hy=>Br _ hy;refine⟨fun x hx=>?_,?_,ev,fun x hx hc=>?_,?_,fun x hx hp=>?_,fun x hx hp=>?_,gt,gz⟩
 .rcases mem x hx with hx|⟨y,hy,rfl⟩
  .exact n1 x hx
  exact(q.ok y (in' y hy)).mp s (hb y hy)
 .refine NG.2 ⟨n2,Hi.2 (crr.imp_of_mem fun {x y} hx hy kr hc hd e=>?_),fun x hx y hy=>?_⟩
  .have hc:x.k.aw=true:=by rw[<- s.aw];exact hc
   have hd:y.k.aw=true:=by rw[<- s.aw];exact hd
   obtain⟨h1,h2,h3⟩:=kr hc hd (hid x hx y hy hc hd e);refine⟨?_,?_,?_⟩
   .show(h x.k).over= !(h y.k).over;rw[s.over,s.over];exact h1
   .show(h x.k).sign=(h y.k).sign;rw[s.sign,s.sign];exact h2
   have:gX (x.mp ψ h).k=gX x.k:=by show((h x.k).over==((h x.k).sign==1))=_;rw[s.over,s.sign];rfl
   rw[this];exact h3.mp ψ
  obtain⟨w,hw,rfl⟩:=dr.1 hy;exact n4 x hx w hw
 .rcases mem x hx with hx|⟨y,hy,rfl⟩
  .exact ids x hx hc
  exact alg y hy (by rw[<- s.aw];exact hc)
 .refine NG.2 ⟨n3,Hi.2 (rkr.imp_of_mem fun {x y} hx hy kr hc hd e1 e2=>?_),fun x hx y hy=>?_⟩
  .have hc:x.k.ay=true:=by rw[<- s.ay];exact hc
   have hd:y.k.ay=true:=by rw[<- s.ay];exact hd
   obtain⟨f1,f2⟩:=kK x hx y hy hc hd e1 e2;exact kr hc hd f1 f2
  obtain⟨w,hw,rfl⟩:=dr.1 hy;exact n5 x hx w hw
 .rcases mem x hx with hx|⟨y,hy,rfl⟩
  .exact rr x hx hp
  exact rr' y hy (by rw[<- s.ay];exact hp)
 rcases mem x hx with hx|⟨y,hy,rfl⟩
 .exact pl x hx hp
 have hp:y.k.ay=true:=by rw[<- s.ay];exact hp
 obtain⟨p1,p2,p3,p4⟩:=q.pl y (in' y hy) hp;obtain⟨⟨a1,a2⟩,a3,a4⟩:=JB y hy hp;constructor
 .rw[acy];show ψ y.up.r=_;rw[p1];exact a1
 .rw[acy];show ψ y.up.l=_;rw[p2];exact a3
 .rw[acx];show ψ y.lo.r=_;rw[p3];exact a2
 rw[acx];show ψ y.lo.l=_;rw[p4];exact a4
theorem Cq.done{l:List Pc}{z':List aG}{L N:List Nat}{V:Nat}(q:Cq F (X'++r.map (aG.mp ψ h)) T' B')(im:S.Nodup)(wit:∀s∈S,∃x∈X++r,s=x.o.l\/s=x.o.r)
  (je:z'.Perm (X'++r.map (aG.mp ψ h))) (akV:∃s,hY s z' s) (hl:z'.map aG.p=l) (one:∃x∈X'++r.map (aG.mp ψ h),x.k.ay=true)
  (hψ:∀s∈S,s∉L->ψ s=s) (hX:∀x∈X,∀s∈S,(s=x.o.l\/s=x.o.r)->s∉L->∃y∈X'++r.map (aG.mp ψ h),s=y.o.l\/s=y.o.r)
  (hN:N.Nodup) (hNS:∀s∈N,s∉S) (hNw:∀s∈N,∃y∈X'++r.map (aG.mp ψ h),s=y.o.l\/s=y.o.r)
  (hS:V<=S.length) (num:au Let.ay (aM (X'++r.map (aG.mp ψ h)))+au Let.aw (aM (X'++r.map (aG.mp ψ h)))/2+1+L.length<=V+N.length):Cert F l:=by
 have qz:=q.perm je.symm;have hm:∀ {x},x∈z'↔x∈X'++r.map (aG.mp ψ h):=fun {x}=>je.mem_iff;refine⟨z',T',B',N++S.filter (fun s=> !L.contains s),hl,⟨akV,qz.ok,qz.cr,qz.ev,qz.ids,qz.rk,qz.rr,qz.pl,qz.gt,qz.gz,?_,?_,fun s hs=>?_,?_⟩⟩
 .obtain⟨x,hx,e⟩:=one;exact⟨x,hm.2 hx,e⟩
 .refine Hh.2 ⟨hN,im.filter _,fun a ha b hb e=>?_⟩;subst e;exact hNS a ha (tv.1 hb).1
 .have key:∃y∈X'++r.map (aG.mp ψ h),s=y.o.l\/s=y.o.r:=by
   rcases fq.1 hs with hs|hs
   .exact hNw s hs
   obtain⟨h1,h2⟩:=tv.1 hs;have h2:s∉L:=by simpa using h2
   obtain⟨x,hx,e⟩:=wit s h1;rcases fq.1 hx with hx|hx
   .exact hX x hx s h1 e h2
   refine⟨x.mp ψ h,Br _ (dr.2 ⟨x,hx,rfl⟩),?_⟩;have hp:=hψ s h1 h2;rcases e with e|e
   .left;show s=ψ x.o.l;rw[<- e,hp]
   right;show s=ψ x.o.r;rw[<- e,hp]
  obtain⟨y,hy,e⟩:=key;exact⟨y,hm.2 hy,e⟩
 have e:∀p,au p (aM z')=au p (aM (X'++r.map (aG.mp ψ h))):=fun p=>xI je;rw[e,e,fc];have:=Z2 (L:=L) im;omega
end
theorem amO(x:aG):x.mp id id=x:=rfl
theorem A3(r:List aG):r.map (aG.mp id id)=r:=by rw[show(aG.mp id id)=id from funext fun x=>amO x,List.map_id]
theorem rK(p:Let->Bool)(a b:List aG):au p (aM (a++b))=au p (aM a)+au p (aM b):=by show List.countP p (List.map _ _)=List.countP p (List.map _ _)+List.countP p (List.map _ _);rw[iS,uU]
theorem eI(p:Let->Bool)(x:aG)(b:List aG):au p (aM (x::b))=(if p x.k then 1 else 0)+au p (aM b):=by show List.countP p (List.map _ _)=_+List.countP p (List.map _ _);rw[dG,uV,Nat.add_comm]
theorem rL(p:Let->Bool):au p (aM [])=0:=rfl
theorem uA{p:Let->Bool}{ψ:Nat->Nat}{h:Let->Let}(hp:∀l,p (h l)=p l)(r:List aG):au p (aM (r.map (aG.mp ψ h)))=au p (aM r):=by
 induction r with
 |nil=>rfl
 |cons x r ih=>rw[dG,eI,eI,ih];show(if p (h x.k) then 1 else 0)+_=_;rw[hp]
theorem xG{l:Let}(g:Nat)(h:l.aw=true):lY g l=false:=by
 unfold lY;cases hp:l.ay
 .rfl
 rw[mA hp] at h;cases h
theorem kO{l:Let}(h:l.aw=true):l.ay=false:=by
 cases hp:l.ay
 .rfl
 rw[mA hp] at h;cases h
theorem Ww{x y:aG}(h:x.k.aw=false):Xr x y:=fun hc=>by rw[h] at hc;cases hc
theorem FJ{x y:aG}(h:x.k.aw=true):Dr x y:=fun hp=>by rw[kO h] at hp;cases hp
theorem ajy{α:Type}{z:List α}{a:Nat}(ha:a<z.length)(h2:2<=z.length):∃x y r,z.drop a++z.take a=x::y::r/\z[a]?=some x/\z[(a+1)%z.length]?=some y:=by
 obtain⟨x,hx⟩:=aI ha;obtain⟨hl,e⟩:=aV.1 hx;have hd:z.drop a=x::z.drop (a+1):=by rw[<- e,yJ]
 by_cases c:a+1<z.length
 .obtain⟨y,hy⟩:=aI c;obtain⟨l7,e2⟩:=aV.1 hy;have ya:z.drop (a+1)=y::z.drop (a+1+1):=by rw[<- e2,yJ]
  exact⟨x,y,z.drop (a+1+1)++z.take a,by rw[hd,ya];rfl,hx,by rw[fK c];exact hy⟩
 have ea:a+1=z.length:=aa;obtain⟨y,hy⟩:=aI (ls:=z) (k:=0) aa;have ya:z.drop (a+1)=[]:=List.drop_eq_nil_of_le aa;have ht:z.take a=y::(z.take a).drop 1:=by
  have h0:(z.take a)[0]?=some y:=by rw[jm,if_pos aa];exact hy
  obtain⟨hl3,e3⟩:=aV.1 h0;have:=yJ (h:=hl3);rw[e3,List.drop_zero] at this;exact this.symm
 refine⟨x,y,(z.take a).drop 1,?_,hx,by rw[ea,xz];exact hy⟩;rw[hd,ya]
 conv=>lhs;rw[ht]
 rfl
section
variable {F:Nat} {ls:List Let}
theorem mM{l:Let}(h:l.aw=true):(if Let.aw l=true then 1 else 0)=1/\(if Let.ay l=true then 1 else 0)=0:=by simp[h,kO h]
theorem yq{l:Let}(h:l.ay=true):(if Let.aw l=true then 1 else 0)=0/\(if Let.ay l=true then 1 else 0)=1:=by simp[h,mA h]
theorem XT(g:ct F ls){a:Nat}(ha:a<ls.length){sg:Int}{o:Bool}(hs:sg=1\/sg= -1):Cert F (EG ls a sg o):=by
 have c:=g.cz;have iV:=gY ls;obtain⟨s,hp⟩:=c.path;have hz:zF ls=(zF ls).take (a+1)++(zF ls).drop (a+1):=(lX ..).symm;rw[hz] at hp;obtain⟨m,qW,lS⟩:=yw.1 hp
 let N:Int:=((au Let.aw ls/2+1:Nat):Int)
 let k:dz:=if o==(sg==1) then ⟨m.r,eN ls,m.b⟩ else ⟨eN ls,m.l,m.b⟩
 let x:aG:=⟨⟨⟨2,0,0,N,sg,o⟩,false⟩,m,k⟩
 let y:aG:=⟨⟨⟨2,0,0,N,sg,!o⟩,false⟩,k,m⟩
 have kb:k.b=m.b:=by show(if _ then _ else _:dz).b=_;split<;>rfl
 have cx:x.k.aw=true:=rfl;have cy:y.k.aw=true:=rfl;have I2:(sg !=1&&sg != -1)=false:=by rcases hs with rfl|rfl<;>decide
 have bx:∀ov,de F ⟨2,0,0,N,sg,ov⟩=false:=fun ov=>by simp[de];simpa using I2
 have cC:au Let.aw (aM ([x,y]++(zF ls).map (aG.mp id id)))=au Let.aw ls+2:=by rw[A3,rK,eI,eI,rL,iV,(mM cx).1,(mM cy).1];omega
 have cP:au Let.ay (aM ([x,y]++(zF ls).map (aG.mp id id)))=au Let.ay ls:=by rw[A3,rK,eI,eI,rL,iV,(mM cx).2,(mM cy).2];omega
 have cG:∀q,cg (aM ([x,y]++(zF ls).map (aG.mp id id))) q=cg ls q:=fun q=>by show au _ _=au _ _;rw[A3,rK,eI,eI,rL,iV,xG q cx,xG q cy];simp
 have ev:=c.ev;rw[iV] at ev;have Gq:Xc x y:=by
  refine⟨by show o= !!o;simp,rfl,?_⟩;show X4 (o==(sg==1)) m k k m;cases hg:(o==(sg==1))
  .have:k=⟨eN ls,m.l,m.b⟩:=by show(if _ then _ else _:dz)=_;rw[hg];rfl
   rw[this];constructor<;>rfl
  have:k=⟨m.r,eN ls,m.b⟩:=by show(if _ then _ else _:dz)=_;rw[hg];rfl
  rw[this];constructor<;>rfl
 have Mf:∀w∈zF ls,w.k.aw=true->1<=w.k.id/\w.k.id<=((au Let.aw ls/2:Nat):Int):=fun w hw hc=>by have:=c.ids w hw hc;rwa[iV] at this
 have q:Cq F ([x,y]++(zF ls).map (aG.mp id id)) (TF ls) (BF ls):=by
  refine Cq.edit (X:=[]) (r:=zF ls) c.q xB.id (fun w hw=>(c.ok w hw).bad) (fun _ _ _ _ _ _ e=>e) (fun _ _ _ _ _ _ e f=>⟨e,f⟩) (fun w hw=>?_) ?_ ?_ (fun u hu w hw=>?_) (fun u hu w hw=>?_) (by rw[cC];omega) (fun w hw hc=>?_) (fun w hw hc=>?_) (fun w hw hp=>?_) (fun w hw hp=>?_) (fun w hw hp=>?_) (fun w hw hp=>⟨⟨rfl,rfl⟩,rfl,rfl⟩) (fun g' hg=>?_) ?_
  .simp only[cT,hJ,or_false] at hw;rcases hw with rfl|rfl
   .exact⟨bx o,fun _=>kb.symm,fun h=>by cases h⟩
   exact⟨bx (!o),fun _=>kb,fun h=>by cases h⟩
  .exact jP.2 ⟨fun w hw=>by simp only[cT,hJ,or_false] at hw;subst hw;exact fun _ _ _=>Gq,Hj ..⟩
  .exact jP.2 ⟨fun w hw=>FJ cx,Hj ..⟩
  .intro h1 h2 e;have jg:=Mf w hw h2;simp only[cT,hJ,or_false] at hu;have:u.k.id=N:=by rcases hu with rfl|rfl<;>rfl
   have e:u.k.id=w.k.id:=e;exfalso;omega
  .simp only[cT,hJ,or_false] at hu;rcases hu with rfl|rfl
   .exact FJ cx
   exact FJ cy
  .rw[cC];simp only[cT,hJ,or_false] at hw;have:w.k.id=N:=by rcases hw with rfl|rfl<;>rfl
   omega
  .rw[cC];have jg:=Mf w hw hc;simp only[id];omega
  .simp only[cT,hJ,or_false] at hw;rcases hw with rfl|rfl<;>cases hp
  .rw[cG];have:=c.rr w hw hp;rwa[iV] at this
  .simp only[cT,hJ,or_false] at hw;rcases hw with rfl|rfl<;>cases hp
  .have:=c.gt g' hg;rw[iV] at this;rw[cG];exact this
  have:=c.gz;rw[iV] at this;rw[cG];exact this
 refine Cq.done (X:=[]) (L:=[]) (N:=[eN ls]) (V:=eN ls) (z':=(zF ls).take (a+1)++[x,y]++(zF ls).drop (a+1)) q c.nd (fun s hs=>c.wit s hs) ?_ ⟨s,?_⟩ ?_ ?_ (fun _ _ _=>rfl) (fun x hx=>by cases hx) (nY.2 ⟨hJ,tz⟩) (fun s hs=>?_) (fun s hs=>?_) (by rw[vM];exact aZ _) ?_
 .rw[A3];have h1:((zF ls).take (a+1)++[x,y]++(zF ls).drop (a+1)).Perm ([x,y]++(zF ls).take (a+1)++(zF ls).drop (a+1)):=List.Perm.append_right _ NI;rw[qG [x,y],<- hz] at h1;exact h1
 .exact yw.2 ⟨m,yw.2 ⟨m,qW,rfl,rfl,rfl⟩,lS⟩
 .rw[iS,iS,Ad,Dk,um];rfl
 .obtain⟨w,hw,e⟩:=c.one;rw[A3];exact⟨w,Br _ hw,e⟩
 .simp only[cT,hJ,or_false] at hs;subst hs;simp
 .simp only[cT,hJ,or_false] at hs;subst hs;refine⟨x,af,?_⟩;show eN ls=k.l\/eN ls=k.r;show eN ls=(if _ then _ else _:dz).l\/eN ls=(if _ then _ else _:dz).r;split
  .exact .inr rfl
  exact .inl rfl
 rw[cC,cP];have:=g.nw;simp only[dQ,cE];omega
end
def gU(ids:List Int)(l:Let):Let:=if l.kind==2 then {l with id:=l.id-((ids.take ids.length).countP (fun i=>decide (i<l.id)):Nat)} else l
theorem AY(ids:List Int):xB (gU ids):=by refine⟨fun l=>?_,fun l=>?_,fun l=>?_⟩<;>unfold gU<;>split<;>rfl
theorem ach(ids:List Int)(p:Pc):pQ ids p=⟨gU ids p.l,p.d⟩:=by unfold pQ gU jN;split<;>rfl
theorem AX{ids:List Int}{l:Let}(h:l.ay=true):gU ids l=l:=by unfold gU;have:=mA h;unfold Let.aw at this;rw[if_neg (by rw[this];decide)]
theorem ace{ids:List Int}{l:Let}(h:de F l=false):de F (gU ids l)=false:=by
 rcases yW h with hp|hc
 .rw[AX hp];exact h
 have ki:(gU ids l).aw=true:=by rw[(AY ids).aw];exact hc
 rw[MT hc] at h;rw[MT ki];unfold gU;split<;>exact h
theorem acd(ids:List Int)(g:Nat)(l:Let):lY g (gU ids l)=lY g l:=by
 cases hp:l.ay
 .unfold lY;rw[(AY ids).ay,hp];rfl
 rw[AX hp]
theorem acf{ids:List Int}{l:Let}(h:l.aw=true):(gU ids l).id=l.id-((ids.countP fun i=>decide (i<l.id):Nat):Int):=by unfold gU;unfold Let.aw at h;rw[if_pos h,jo]
theorem abL{l:List Pc}{drop:Nat->Pc->Bool}{d:Pc->Bool}(h:∀i p,drop i p=d p):mf l drop=l.filter fun p=> !d p:=by
 have key:∀k,k<=l.length->oq l drop k=(l.take k).filter fun p=> !d p:=by
  intro k
  induction k with
  |zero=>intro _;rfl
  |succ k ih=>
   intro hk;obtain⟨p,hp⟩:=aI (ls:=l) (k:=k) aa;rw[kW,hp,ND,<- ih aa];cases hd:d p
   .rw[CB hp (by rw[h];exact hd)];simp[hd]
   rw[w8 hp (by rw[h];exact hd)];simp[hd]
 unfold mf;rw[key _ (aZ _),jo]
theorem PG:∀ {z:List aG} {s t:dz},hY s z t->z≠[]->∃w∈z,w.o=t:=by
 intro z
 induction z with
 |nil=>intro s t _ h;exact absurd rfl h
 |cons x z ih=>
  intro s t h _;obtain⟨_,h⟩:=h;cases z with
  |nil=>cases h;exact⟨x,af,rfl⟩
  |cons y z=>obtain⟨w,hw,e⟩:=ih h af;exact⟨w,vN _ hw,e⟩
section
variable {F:Nat} {ls:List Let}
theorem amW{x y:aG}{r:List aG}{T B:Nat->Nat->Nat}(q:Cq F (x::y::r) T B)(cx:x.k.aw=true)(cy:y.k.aw=true)(e:x.k.id=y.k.id):∀w∈r,w.k.aw=true->w.k.id≠x.k.id:=by intro w hw cw ew;obtain⟨p1,p2⟩:=jP.1 q.cr;obtain⟨p3,_⟩:=jP.1 p2;have a:=(p1 y af cx cy e).ov;have b:=(p1 w (by simp[hw]) cx cw ew.symm).ov;have d:=(p3 w hw cy cw (by rw[<- e,ew])).ov;rw[b] at a;rw[d] at a;revert a;cases w.k.over<;>simp
theorem Wx(g:ct F ls){a:Nat}(ha:a<ls.length):∃x y r s,(zF ls).drop a++(zF ls).take a=x::y::r/\(pieces ls)[a]?=some x.p/\(pieces ls)[nx ls a]?=some y.p/\
  Cz F (x::y::r) (TF ls) (BF ls) (List.range (eN ls))/\hY s (x::y::r) s/\(pieces ls).drop a++(pieces ls).take a=(x::y::r).map aG.p/\(zF ls)[a]?=some x/\(zF ls)[nx ls a]?=some y/\(x::y::r).Perm (zF ls):=by
 have h2:2<=ls.length:=by obtain⟨l,h1,hp⟩:=g.first;have:=g.even;have:0<au Let.ay ls:=Bp.2 ⟨l,aQ h1,hp⟩;have:=sM Let.ay ls;omega
 have hl:=De ls;obtain⟨x,y,r,e,hx,hy⟩:=ajy (z:=zF ls) (a:=a) aa aa;rw[hl] at hy;have c:Cz F ((zF ls).drop a++(zF ls).take a) (TF ls) (BF ls) (List.range (eN ls)):=by refine Cz.lh ?_;rw[lX];exact g.cz
 rw[e] at c;obtain⟨s,hs⟩:=c.path;refine⟨x,y,r,s,e,?_,?_,c,hs,?_,hx,hy,?_⟩
 .rw[<- um,fX,hx];rfl
 .rw[<- um,fX,hy];rfl
 .rw[<- e,iS,Dk,Ad,um]
 rw[<- e];exact NI.trans (by rw[lX])
theorem YB{a:Nat}{d:Pc->Bool}{f:Pc->Pc}(c:Cert F ((((pieces ls).drop a++(pieces ls).take a).filter d).map f)):Cert F (((pieces ls).filter d).map f):=by rw[ND,iS] at c;have:=c.lh;rwa[<- iS,<- ND,lX] at this
theorem abG{l:Let}:l.aw=(l.kind==2):=rfl
theorem filter_all{α:Type}{l:List α}{p:α->Bool}(h:∀x∈l,p x=true):l.filter p=l:=List.filter_eq_self.2 h
theorem XS(g:ct F ls){a:Nat}(ha:a<ls.length){L:List Pc}(h:CC ls a=some L):Cert F L:=by
 obtain⟨x,y,r,s,e,hx,hy,c,hp,I0,_,_,je⟩:=Wx g ha;have q:=c.q;unfold CC at h;have e1:(pieces ls).getD a ⟨kP,false⟩=x.p:=by rw[cJ,hx];rfl
 have e2:(pieces ls).getD ((a+1)%ls.length) ⟨kP,false⟩=y.p:=by rw[cJ,hy];rfl
 simp only[e1,e2] at h;split at h
 case isFalse=>cases h
 rename_i hc;simp only[bQ,beq_iff_eq] at hc;obtain⟨fG,qP,hid⟩:=hc;have cx:x.k.aw=true:=by rw[abG];simp[fG]
 have cy:y.k.aw=true:=by rw[abG];simp[qP]
 have tU:x.k.id=y.k.id:=hid;cases h;have O1:=amW q cx cy tU;have kr:Xc x y:=(jP.1 q.cr).1 y af cx cy tU;obtain⟨fL,eH,vl⟩:=hp
 -- both ends of the kink look alike
 have ix:=(q.ok x af).cb cx;have iy:=(q.ok y af).cb cy;have hk:=kr.x4;rw[fL,eH] at hk;rw[fL] at ix;rw[eH] at iy;have hyo:y.o=s:=by
  obtain⟨k1,k2,k3,k4⟩:=hk;have hb:y.o.b=s.b:=by rw[<- iy,<- ix]
  cases y with
  |mk yp yi yo=>
  cases yo with
  |mk l r b=>
  cases s with
  |mk sl sr sb=>
  cases hg:gX x.k<;>rw[hg] at k1 k2 k3 k4<;>simp only[eY,if_false,if_true] at k1 k2 k3 k4 hb<;>simp_all
 rw[hyo] at vl;have Ul:∃b,(s.r=b\/s.l=b)/\ ∀t,(t=x.o.l\/t=x.o.r)->t=s.l\/t=s.r\/t=(if gX x.k then x.o.r else x.o.l):=by
  obtain⟨k1,k2,k3,k4⟩:=hk;refine⟨s.r,.inl rfl,?_⟩;cases hg:gX x.k<;>rw[hg] at k1 k2 k3 k4<;>simp only[eY,if_false,if_true] at k1 k2 k3 k4 ⊢
  .rintro t (rfl|rfl)
   .exact .inr (.inr rfl)
   exact .inl k1.symm
  rintro t (rfl|rfl)
  .exact .inr (.inl k3)
  exact .inr (.inr rfl)
 obtain⟨_,_,Ul⟩:=Ul;have dD:=q.ev;have zq:∀z:List aG,au Let.aw (aM (x::y::z))=au Let.aw (aM z)+2:=fun z=>by rw[eI,eI,(mM cx).1,(mM cy).1];omega
 have FZ:∀z:List aG,au Let.ay (aM (x::y::z))=au Let.ay (aM z):=fun z=>by rw[eI,eI,(mM cx).2,(mM cy).2];omega
 have xX:∀(z:List aG) k,cg (aM (x::y::z)) k=cg (aM z) k:=fun z k=>by show au _ _=au _ _;rw[eI,eI,xG k cx,xG k cy];simp
 have mC:au Let.aw (aM (r.map (aG.mp id (gU [x.k.id]))))=au Let.aw (aM r):=uA (fun l=>(AY _).aw l) r;have mP:au Let.ay (aM (r.map (aG.mp id (gU [x.k.id]))))=au Let.ay (aM r):=uA (fun l=>(AY _).ay l) r;have mG:∀k,cg (aM (r.map (aG.mp id (gU [x.k.id])))) k=cg (aM r) k:=fun k=>uA (fun l=>acd _ k l) r;have lowid:∀w∈r,w.k.aw=true->(gU [x.k.id] w.k).id=if x.k.id<w.k.id then w.k.id-1 else w.k.id:=fun w hw hc=>by
  rw[acf hc];by_cases c:x.k.id<w.k.id
  .simp[c]
  simp[c]
 have IK:∀w∈x::y::r,w.k.aw=true->1<=w.k.id/\w.k.id<=((au Let.aw (aM r)/2:Nat):Int)+1:=fun w hw hc=>by have:=q.ids w hw hc;rw[zq] at this;omega
 have hr:r≠[]:=by
  obtain⟨w,hw,qD⟩:=c.one;rintro rfl
  simp only[cT,hJ,or_false] at hw;rcases hw with rfl|rfl
  .rw[kO cx] at qD;cases qD
  rw[kO cy] at qD;cases qD
 have inr:∀w∈r,w∈x::y::r:=fun w hw=>by simp[hw]
 have qn:Cq F ([]++r.map (aG.mp id (gU [x.k.id]))) (TF ls) (BF ls):=by
  refine Cq.edit (X:=[x,y]) (r:=r) q (AY _) (fun w hw=>ace (q.ok w (inr w hw)).bad) (fun u hu v hv cu cv e=>?_) (fun u hu v hv pu pv e1 e2=>?_) (fun _ h=>by cases h) List.Pairwise.nil List.Pairwise.nil (fun _ h=>by cases h) (fun _ h=>by cases h) ?_ (fun _ h=>by cases h) (fun u hu cu=>?_) (fun _ h=>by cases h) (fun u hu pu=>?_) (fun _ h=>by cases h) (fun u hu pu=>?_) (fun k hk=>?_) ?_
  .have h1:=O1 u hu cu;have h2:=O1 v hv cv;rw[lowid u hu cu,lowid v hv cv] at e;split at e<;>split at e<;>omega
  .rw[AX pu,AX pv] at e1 e2;exact⟨e1,e2⟩
  .rw[gZ,mC];rw[zq] at dD;omega
  .rw[gZ,mC,lowid u hu cu];have h1:=IK u (inr u hu) cu;have h2:=O1 u hu cu;have h3:=IK x af cx;split<;>omega
  .rw[gZ,AX pu,mG,<- xX r];exact q.rr u (inr u hu) pu
  .rw[AX pu];exact⟨⟨rfl,rfl⟩,rfl,rfl⟩
  .rw[gZ,mG,<- xX r];exact q.gt k hk
  rw[gZ,mG,<- xX r];exact q.gz
 have LR:Cert F (r.map fun w=>pQ [x.k.id] w.p):=by
  refine Cq.done (X:=[x,y]) (r:=r) (X':=[]) (L:=[if gX x.k then x.o.r else x.o.l]) (N:=[]) (V:=eN ls) (z':=r.map (aG.mp id (gU [x.k.id]))) qn c.nd (fun t ht=>c.wit t ht) (List.Perm.refl _) ⟨s,GH (ψ:=id) vl⟩ ?_ ?_ (fun _ _ _=>rfl) (fun w hw t ht ew hL=>?_) tz (fun t ht=>by cases ht) (fun t ht=>by cases ht) (by rw[vM];exact aZ _) ?_
  .rw[qH];refine uu fun w _=>?_;rw[ach];rfl
  .obtain⟨w,hw,qD⟩:=c.one;simp only[cT] at hw;rcases hw with rfl|rfl|hw
   .rw[kO cx] at qD;cases qD
   .rw[kO cy] at qD;cases qD
   refine⟨w.mp id (gU [x.k.id]),?_,?_⟩
   .rw[gZ];exact dr.2 ⟨w,hw,rfl⟩
   show(gU [x.k.id] w.k).ay=true;rw[(AY _).ay];exact qD
  .obtain⟨v,hv,hvo⟩:=PG vl hr;have key:t=s.l\/t=s.r:=by
    simp only[cT,hJ,or_false] at hw hL;rcases hw with rfl|rfl
    .rcases Ul t ew with h|h|h
     .exact .inl h
     .exact .inr h
     exact absurd h hL
    rw[hyo] at ew;exact ew
   refine⟨v.mp id (gU [x.k.id]),by rw[gZ];exact dr.2 ⟨v,hv,rfl⟩,?_⟩;show t=id v.o.l\/t=id v.o.r;rw[hvo];exact key
  rw[gZ,mC,mP];have h1:=g.nw;have h2:au Let.aw (aM (x::y::r))=au Let.aw ls:=by rw[xI je,gY]
  have h3:au Let.ay (aM (x::y::r))=au Let.ay ls:=by rw[xI je,gY]
  rw[zq] at h2;rw[FZ] at h3;simp only[dQ,cE];omega
 show Cert F ((mf (pieces ls) (sN [x.k.id])).map (pQ [x.k.id]));rw[abL (l:=pieces ls) (drop:=sN [x.k.id]) (d:=fun p=>(p.l.kind==2)&&[x.k.id].contains p.l.id) fun _ _=>rfl];refine YB (a:=a) ?_;rw[I0];have hf:((x::y::r).map aG.p).filter (fun p=> !((p.l.kind==2)&&[x.k.id].contains p.l.id))=r.map aG.p:=by
  rw[dG,dG,List.filter_cons_of_neg (by simp[fG]),List.filter_cons_of_neg (by simp[qP,hid])];refine filter_all fun p hp=>?_;obtain⟨w,hw,rfl⟩:=dr.1 hp;cases hk:(w.p.l.kind==2)
  .rfl
  have:=O1 w hw hk;simp[this]
 rw[hf,qH];exact LR
end
def jE(c e a:Nat):Nat:=if a=c then e else a
theorem ua(c e:Nat):jE c e c=e:=if_pos rfl
theorem ub(c e:Nat):jE c e e=e:=by unfold jE;split<;>rfl
theorem Pp{c e a:Nat}(h:a≠c):jE c e a=a:=if_neg h
def ky(g ab fZ:Int)(l:Let):Let:=if (l.kind==1)&&((l.gate==g)&&decide (ab<l.aA)) then {l with aA:=l.aA+fZ} else l
theorem Nj(g ab fZ:Int)(p:Pc):jw g ab fZ p=⟨ky g ab fZ p.l,p.d⟩:=by unfold jw ky;split<;>rfl
theorem uh(g ab fZ:Int):xB (ky g ab fZ):=by refine⟨fun l=>?_,fun l=>?_,fun l=>?_⟩<;>unfold ky<;>split<;>rfl
theorem ug(g ab fZ:Int)(l:Let):(ky g ab fZ l).gate=l.gate:=by unfold ky;split<;>rfl
theorem Bf(g ab fZ:Int)(l:Let):(ky g ab fZ l).id=l.id:=by unfold ky;split<;>rfl
theorem ao6{g ab fZ:Int}{l:Let}(h:l.aw=true):ky g ab fZ l=l:=by unfold ky;have:=kO h;unfold Let.ay at this;rw[this];simp
theorem VU(g ab fZ:Int)(k:Nat)(l:Let):lY k (ky g ab fZ l)=lY k l:=by unfold lY;rw[(uh g ab fZ).ay,ug]
theorem Qe{g ab fZ:Int}{l:Let}(h:l.ay=true):(ky g ab fZ l).aA=if l.gate=g/\ab<l.aA then l.aA+fZ else l.aA:=by
 unfold ky;unfold Let.ay at h;rw[h];by_cases c:l.gate=g/\ab<l.aA
 .rw[if_pos c,if_pos (by simp[c.1,c.2])]
 rw[if_neg c,if_neg (by simpa using c)]
theorem VV{g ab fZ:Int}{l:Let}(h:de F l=false):de F (ky g ab fZ l)=false:=by
 rcases yW h with hp|hc
 .have gE:(ky g ab fZ l).ay=true:=by rw[(uh g ab fZ).ay];exact hp
  rw[lU hp] at h;rw[lU gE,ug,Bf,(uh g ab fZ).sign,(uh g ab fZ).over];exact h
 rw[ao6 hc];exact h
theorem UU{l:List Pc}{drop:Nat->Pc->Bool}:∀d j,j+d<=l.length->(∀i p,j<=i->i<j+d->drop i p=false)->oq l drop (j+d)=oq l drop j++(l.drop j).take d:=by
 intro d
 induction d with
 |zero=>intro j _ _;simp
 |succ d ih=>intro j hj h;obtain⟨p,hp⟩:=aI (ls:=l) (k:=j+d) aa;rw[show j+(d+1)=(j+d)+1 by omega,CB hp (h _ _ aa aa),ih j aa fun i p h1 h2=>h i p h1 aa,kW,ur,hp,qG];rfl
theorem abM{l:List Pc}{a:Nat}(ha:a<l.length)(h2:2<=l.length){p q:Pc}{r:List Pc}(e:l.drop a++l.take a=p::q::r):∃u v,(mf l fun k _=>decide (k=a)||decide (k=(a+1)%l.length))=u++v/\r=v++u:=by
 have LN:∀i (p:Pc),i≠a->i≠(a+1)%l.length->(fun(k:Nat) (_:Pc)=>decide (k=a)||decide (k=(a+1)%l.length)) i p=false:=fun i p h1 h2=>by simp[h1,h2]
 have xZ:∀i (p:Pc),i=a\/i=(a+1)%l.length->(fun(k:Nat) (_:Pc)=>decide (k=a)||decide (k=(a+1)%l.length)) i p=true:=fun i p h=>by simpa using h
 obtain⟨x,hx⟩:=aI ha;by_cases c:a+1<l.length
 .obtain⟨y,hy⟩:=aI c;have hm:(a+1)%l.length=a+1:=fK c;rw[hm] at LN xZ ⊢;have k0:=UU (l:=l) (drop:=fun k _=>decide (k=a)||decide (k=a+1)) a 0 aa fun i p _ h=>LN i p aa aa;have k1:=w8 (drop:=fun k _=>decide (k=a)||decide (k=a+1)) hx (xZ a x (.inl rfl));have k2:=w8 (drop:=fun k _=>decide (k=a)||decide (k=a+1)) hy (xZ (a+1) y (.inr rfl));have k3:=UU (l:=l) (drop:=fun k _=>decide (k=a)||decide (k=a+1)) (l.length-(a+2)) (a+1+1) aa fun i p h _=>LN i p aa aa;refine⟨l.take a,l.drop (a+2),?_,?_⟩
  .unfold mf;rw[show a+1+1+(l.length-(a+2))=l.length by omega,k2,k1] at k3;rw[jc] at k0;rw[k3,k0];have:oq l (fun k _=>decide (k=a)||decide (k=a+1)) 0=[]:=rfl;rw[this,List.drop_zero,gZ,fY (l:=l.drop (a+1+1)) (by rw[nW];omega)]
  have e1:l.drop a=x::y::l.drop (a+2):=by obtain⟨h1,e1⟩:=aV.1 hx;obtain⟨h2,e2⟩:=aV.1 hy;rw[<- yJ h1,e1,<- yJ h2,e2]
  rw[e1] at e;simp only[mq,List.cons.injEq] at e;exact e.2.2.symm
 have ea:a+1=l.length:=aa;have hm:(a+1)%l.length=0:=by rw[ea,xz]
 rw[hm] at LN xZ ⊢;obtain⟨y,hy⟩:=aI (ls:=l) (k:=0) aa;have k1:=w8 (drop:=fun k _=>decide (k=a)||decide (k=0)) hy (xZ 0 y (.inr rfl));have k2:=UU (l:=l) (drop:=fun k _=>decide (k=a)||decide (k=0)) (a-1) 1 aa fun i p h h'=>LN i p aa aa;have k3:=w8 (drop:=fun k _=>decide (k=a)||decide (k=0)) hx (xZ a x (.inl rfl));refine⟨[],(l.drop 1).take (a-1),?_,?_⟩
 .unfold mf;rw[<- ea,k3];rw[show 1+(a-1)=a by omega] at k2;rw[k2];rw[show(1:Nat)=0+1 from rfl,k1];rfl
 have e1:l.drop a=[x]:=by obtain⟨h1,e1⟩:=aV.1 hx;rw[<- yJ h1,e1,List.drop_eq_nil_of_le aa]
 have e2:l.take a=y::(l.drop 1).take (a-1):=by
  obtain⟨h1,e1⟩:=aV.1 hy;have:l=y::l.drop 1:=by have:=yJ h1;rw[e1,List.drop_zero] at this;exact this.symm
  conv=>lhs;rw[this]
  rw[show a=(a-1)+1 by omega,List.take_succ_cons];rfl
 rw[e1,e2] at e;simp only[mq,gZ,List.cons.injEq] at e;rw[oN];exact e.2.2.symm
section
variable {F:Nat} {ls:List Let}
theorem dz.ext'{s t:dz}(h1:s.l=t.l)(h2:s.r=t.r)(h3:s.b=t.b):s=t:=by cases s;cases t;simp_all
theorem XM(g:ct F ls){a:Nat}(ha:a<ls.length){L:List Pc}(h:Bz ls a=some L):L=[]\/Cert F L:=by
 obtain⟨x,y,r,s,e,hx,hy,c,hp,I0,_,_,je⟩:=Wx g ha;have q:=c.q;unfold Bz at h;have e1:(pieces ls).getD a ⟨kP,false⟩=x.p:=by rw[cJ,hx];rfl
 have e2:(pieces ls).getD ((a+1)%ls.length) ⟨kP,false⟩=y.p:=by rw[cJ,hy];rfl
 simp only[e1,e2] at h;split at h
 case isFalse=>cases h
 rename_i hc;simp only[bQ,beq_iff_eq,gH,Bool.and_eq_false_iff,decide_eq_false_iff_not] at hc;obtain⟨fG,qP,iU,kK,akj⟩:=hc;cases h;have px:x.k.ay=true:=by show(x.k.kind==1)=true;simp[fG]
 have py:y.k.ay=true:=by show(y.k.kind==1)=true;simp[qP]
 obtain⟨fL,eH,vl⟩:=hp;have ox:=(q.ok x af).pb px;have oy:=(q.ok y af).pb py;have plx:=q.pl x af px;have ply:=q.pl y af py;have gx:=((lU px).1 (q.ok x af).bad).1.1.1;have rx:=q.rr x af px;have ry:=q.rr y af py;have vf:y.k.gate=x.k.gate:=iU.symm;rw[vf] at ry
 -- the counts
 have zq:∀z:List aG,au Let.aw (aM (x::y::z))=au Let.aw (aM z):=fun z=>by rw[eI,eI,(yq px).1,(yq py).1];omega
 have FZ:∀z:List aG,au Let.ay (aM (x::y::z))=au Let.ay (aM z)+2:=fun z=>by rw[eI,eI,(yq px).2,(yq py).2];omega
 have hGi:((x.k.gate.toNat:Nat):Int)=x.k.gate:=Int.toNat_of_nonneg gx.1;have xX:∀(z:List aG) k,cg (aM (x::y::z)) k=cg (aM z) k+if k=x.k.gate.toNat then 2 else 0:=fun z k=>by
  show au _ _=au _ _+_;rw[eI,eI];have:∀w:aG,w.k.ay=true->w.k.gate=x.k.gate->(if lY k w.k=true then 1 else 0)=if k=x.k.gate.toNat then 1 else 0:=fun w hw hgw=>by
   unfold lY;rw[hw,hgw];by_cases ck:k=x.k.gate.toNat
   .subst ck;simp[hGi]
   have:(x.k.gate==(k:Int))=false:=by rw[beq_eq_false_iff_ne];omega
   simp[this,ck]
  rw[this x px rfl,this y py vf];split<;>omega
 have h2:au Let.aw (aM (x::y::r))=au Let.aw ls:=by rw[xI je,gY]
 have h3:au Let.ay (aM (x::y::r))=au Let.ay ls:=by rw[xI je,gY]
 have hlen:ls.length=r.length+2:=by have:=je.length_eq;rw[De] at this;simpa using this.symm
 -- ranks
 obtain⟨lo,hlo1,Uk,sa⟩:∃lo:Nat,1<=lo/\((x.k.aA=lo/\y.k.aA=lo+1)\/(x.k.aA=lo+1/\y.k.aA=lo))/\xf x.k.aA y.k.aA=lo+1:=by
  have IZ:xf x.k.aA y.k.aA-CH x.k.aA y.k.aA=1:=kK;unfold xf CH at IZ;unfold xf;by_cases c1:x.k.aA<y.k.aA
  .rw[if_pos c1] at IZ ⊢;rw[if_neg aa] at IZ;exact⟨x.k.aA.toNat,aa,.inl ⟨aa,aa⟩,aa⟩
  rw[if_neg c1] at IZ ⊢;by_cases c2:y.k.aA<x.k.aA
  .rw[if_pos c2] at IZ;exact⟨y.k.aA.toNat,aa,.inr ⟨aa,aa⟩,aa⟩
  rw[if_neg c2] at IZ;omega
 have aaW:lo+1<=cg (aM (x::y::r)) x.k.gate.toNat:=by rcases Uk with ⟨h1,h2⟩|⟨h1,h2⟩<;>omega
 -- which names are merged
 obtain⟨mc,me,m1,m2,m3,m4,m5⟩:∃mc me:Nat,(y.o.mp (jE mc me)=s.mp (jE mc me))/\jE mc me (TF ls x.k.gate.toNat (lo+1))=jE mc me (TF ls x.k.gate.toNat (lo-1))/\jE mc me (BF ls x.k.gate.toNat (lo+1))=jE mc me (BF ls x.k.gate.toNat (lo-1))/\
   (∀t,(t=y.o.l\/t=y.o.r)->t=mc\/t=s.l\/t=s.r)/\True:=by
  have hdy:y.p.d= !x.p.d:=by have h1:=oy.2;rw[eH,ox.1] at h1;revert h1;cases x.p.d<;>cases y.p.d<;>simp
  have hb:y.o.b=s.b:=by rw[oy.1,hdy,<- fL,ox.2]
  obtain⟨p1,p2,p3,p4⟩:=plx;obtain⟨p5,p6,p7,p8⟩:=ply;rw[vf] at p5 p6 p7 p8;unfold aG.up at p1 p2 p5 p6;unfold aG.lo at p3 p4 p7 p8;rw[hdy] at p5 p6 p7 p8;rw[fL] at p1 p2 p3 p4;rw[eH] at p5 p6 p7 p8;have done:∀mc me,(jE mc me y.o.l=jE mc me s.l)->(jE mc me y.o.r=jE mc me s.r)->y.o.mp (jE mc me)=s.mp (jE mc me):=fun mc me h1 h2=>dz.ext' h1 h2 hb;rcases Uk with ⟨r1,r2⟩|⟨r1,r2⟩
  .have n1:x.k.aA.toNat=lo:=aa;have n2:y.k.aA.toNat=lo+1:=aa;rw[n1] at p1 p2 p3 p4;rw[n2] at p5 p6 p7 p8;rw[Hl] at p5 p7;cases hd:x.p.d<;>rw[hd] at p1 p2 p3 p4 p5 p6 p7 p8<;>simp only[Bool.not_false,Dg,eY,if_false,if_true,ke] at p1 p2 p3 p4 p5 p6 p7 p8
   .have ee:y.o.r=s.r:=by rw[p7,p4]
    refine⟨y.o.l,s.l,done _ _ ?_ (by rw[ee]),by rw[<- p6,p1],by rw[<- p8,<- p3,ua,ub],?_,trivial⟩
    .rw[ua,ub]
    rintro t (rfl|rfl)
    .exact .inl rfl
    exact .inr (.inr ee)
   have ee:y.o.l=s.l:=by rw[p5,p2]
   refine⟨y.o.r,s.r,done _ _ (by rw[ee]) ?_,by rw[<- p6,<- p1,ua,ub],by rw[<- p8,p3],?_,trivial⟩
   .rw[ua,ub]
   rintro t (rfl|rfl)
   .exact .inr (.inl ee)
   exact .inl rfl
  have n1:x.k.aA.toNat=lo+1:=aa;have n2:y.k.aA.toNat=lo:=aa;rw[n1] at p1 p2 p3 p4;rw[n2] at p5 p6 p7 p8;rw[Hl] at p1 p3;cases hd:x.p.d<;>rw[hd] at p1 p2 p3 p4 p5 p6 p7 p8<;>simp only[Bool.not_false,Dg,eY,if_false,if_true,ke] at p1 p2 p3 p4 p5 p6 p7 p8
  .have ee:y.o.l=s.l:=by rw[p8,p3]
   refine⟨y.o.r,s.r,done _ _ (by rw[ee]) ?_,by rw[<- p2,p5],by rw[<- p4,<- p7,ua,ub],?_,trivial⟩
   .rw[ua,ub]
   rintro t (rfl|rfl)
   .exact .inr (.inl ee)
   exact .inl rfl
  have ee:y.o.r=s.r:=by rw[p6,p1]
  refine⟨y.o.l,s.l,done _ _ ?_ (by rw[ee]),by rw[<- p2,<- p5,ua,ub],by rw[<- p4,p7],?_,trivial⟩
  .rw[ua,ub]
  rintro t (rfl|rfl)
  .exact .inl rfl
  exact .inr (.inr ee)
 clear m5;by_cases hr:∃w∈r,w.k.ay=true
 case neg=>
  left;have DR:au Let.ay (aM r)=0:=He.2 fun l hl Co=>by obtain⟨w,hw,rfl⟩:=dr.1 hl;exact hr ⟨w,hw,Co⟩
  have hC0:au Let.aw ls=0:=by have dD:=q.ev;rw[h2] at dD;rw[FZ] at h3;rcases akj with h|h<;>omega
  have:ls.length=2:=by have:=U1 g.ok;rw[FZ] at h3;omega
  have Ck:r=[]:=Hg.1 aa;obtain⟨u,v,k1,k2⟩:=abM (l:=pieces ls) (a:=a) (by rw[eW];exact ha) (by rw[eW];omega) (by rw[I0];rfl);rw[eW] at k1;rw[Ck] at k2;have k2:=k2.symm;simp only[lK,List.append_eq_nil_iff] at k2;unfold dT;rw[k1,k2.1,k2.2];rfl
 right;obtain⟨w0,hw0,pw0⟩:=hr;have ak3:r≠[]:=List.ne_nil_of_mem hw0
 let ψ:=jE mc me
 let hL:=ky x.k.gate (lo+1) (-2)
 let T':Nat->Nat->Nat:=fun G k=>if G=x.k.gate.toNat then (if k<=lo-1 then ψ (TF ls G k) else ψ (TF ls G (k+2))) else ψ (TF ls G k)
 let B':Nat->Nat->Nat:=fun G k=>if G=x.k.gate.toNat then (if k<=lo-1 then ψ (BF ls G k) else ψ (BF ls G (k+2))) else ψ (BF ls G k)
 have mC:au Let.aw (aM (r.map (aG.mp ψ hL)))=au Let.aw (aM r):=uA (fun l=>(uh _ _ _).aw l) r;have mP:au Let.ay (aM (r.map (aG.mp ψ hL)))=au Let.ay (aM r):=uA (fun l=>(uh _ _ _).ay l) r;have mG:∀k,cg (aM (r.map (aG.mp ψ hL))) k=cg (aM r) k:=fun k=>uA (fun l=>VU _ _ _ k l) r;have inr:∀w∈r,w∈x::y::r:=fun w hw=>by simp[hw]
 -- the others have other ranks
 have oth:∀w∈r,w.k.ay=true->w.k.gate=x.k.gate->w.k.aA<lo\/(lo:Int)+1<w.k.aA:=fun w hw pw gw=>by obtain⟨d1,d2⟩:=jP.1 q.rk;obtain⟨d3,_⟩:=jP.1 d2;have n1:=d1 w (by simp[hw]) px pw gw.symm;have n2:=d3 w hw py pw (by rw[vf,gw]);rcases Uk with ⟨r1,r2⟩|⟨r1,r2⟩<;>omega
 have oG:∀w∈r,w.k.ay=true->(hL w.k).aA=if w.k.gate=x.k.gate/\(lo:Int)+1<w.k.aA then w.k.aA-2 else w.k.aA:=fun w hw pw=>by have:=Qe (g:=x.k.gate) (ab:=(lo:Int)+1) (fZ:= -2) pw;rw[show w.k.aA+ -2=w.k.aA-2 by omega] at this;exact this
 have key:∀f:Nat->Nat->Nat,ψ (f x.k.gate.toNat (lo+1))=ψ (f x.k.gate.toNat (lo-1))->∀w∈r,w.k.ay=true->
   (ψ (f w.k.gate.toNat (w.k.aA.toNat-1))=(fun G k=>if G=x.k.gate.toNat then (if k<=lo-1 then ψ (f G k) else ψ (f G (k+2))) else ψ (f G k)) (hL w.k).gate.toNat ((hL w.k).aA.toNat-1))/\
   ψ (f w.k.gate.toNat w.k.aA.toNat)=(fun G k=>if G=x.k.gate.toNat then (if k<=lo-1 then ψ (f G k) else ψ (f G (k+2))) else ψ (f G k)) (hL w.k).gate.toNat (hL w.k).aA.toNat:=by
  intro f hf w hw pw;have Ch:(hL w.k).gate=w.k.gate:=ug _ _ _ _;have gw:=((lU pw).1 (q.ok w (inr w hw)).bad).1.1.1;have rw1:=(q.rr w (inr w hw) pw).1;rw[oG w hw pw,Ch];by_cases rJ:w.k.gate=x.k.gate
  .have ho:=oth w hw pw rJ;simp only[rJ,if_true,true_and];by_cases cr:(lo:Int)+1<w.k.aA
   .rw[if_pos cr];constructor
    .by_cases c3:(w.k.aA-2).toNat-1<=lo-1
     .rw[if_pos c3];have e3:w.k.aA.toNat-1=lo+1:=aa;have e4:(w.k.aA-2).toNat-1=lo-1:=aa;rw[e3,e4];exact hf
     rw[if_neg c3];congr 2;omega
    rw[if_neg aa];congr 2;omega
   rw[if_neg cr];constructor
   .rw[if_pos aa]
   rw[if_pos aa]
  have:¬(w.k.gate.toNat=x.k.gate.toNat):=aa;simp only[rJ,false_and,if_false,if_neg this];exact⟨trivial,trivial⟩
 have keyg:∀f:Nat->Nat->Nat,ψ (f x.k.gate.toNat (lo+1))=ψ (f x.k.gate.toNat (lo-1))->∀k,
   ((fun G k=>if G=x.k.gate.toNat then (if k<=lo-1 then ψ (f G k) else ψ (f G (k+2))) else ψ (f G k)) k (cg (aM r) k)=ψ (f k (cg (aM (x::y::r)) k)))/\
   (fun G k=>if G=x.k.gate.toNat then (if k<=lo-1 then ψ (f G k) else ψ (f G (k+2))) else ψ (f G k)) k 0=ψ (f k 0):=by
  intro f hf k;rw[xX r k];by_cases ck:k=x.k.gate.toNat
  .subst ck;simp only[if_true];rw[if_pos (aY _)];refine⟨?_,rfl⟩;rw[xX r x.k.gate.toNat,if_pos rfl] at aaW;by_cases c3:cg (aM r) x.k.gate.toNat<=lo-1
   .rw[if_pos c3];have e3:cg (aM r) x.k.gate.toNat=lo-1:=aa;rw[e3,show lo-1+2=lo+1 by omega];exact hf.symm
   rw[if_neg c3]
  simp only[if_neg ck,rA];exact⟨trivial,trivial⟩
 have qn:Cq F ([]++r.map (aG.mp ψ hL)) T' B':=by
  refine Cq.edit (X:=[x,y]) (r:=r) q (uh _ _ _) (fun w hw=>VV (q.ok w (inr w hw)).bad) (fun u hu v hv cu cv e=>?_) (fun u hu v hv pu pv e1 e2=>?_) (fun _ h=>by cases h) List.Pairwise.nil List.Pairwise.nil (fun _ h=>by cases h) (fun _ h=>by cases h) ?_ (fun _ h=>by cases h) (fun u hu cu=>?_) (fun _ h=>by cases h) (fun u hu pu=>?_) (fun _ h=>by cases h) (fun u hu pu=>?_) (fun k hk=>?_) ?_
  .rw[Bf,Bf] at e;exact e
  .have BU:u.k.gate=v.k.gate:=by rw[ug,ug] at e1;exact e1
   refine⟨BU,?_⟩;have e2:(hL u.k).aA=(hL v.k).aA:=e2;rw[oG u hu pu,oG v hv pv] at e2;by_cases rJ:u.k.gate=x.k.gate
   .have o1:=oth u hu pu rJ;have o2:=oth v hv pv (BU▸rJ);have cv:v.k.gate=x.k.gate:=BU▸rJ;simp only[rJ,cv,true_and] at e2;split at e2<;>split at e2<;>omega
   have cv:¬v.k.gate=x.k.gate:=BU▸rJ;simp only[rJ,cv,false_and,if_false] at e2;exact e2
  .rw[gZ,mC,<- zq r];exact q.ev
  .rw[gZ,mC,Bf,<- zq r];exact q.ids u (inr u hu) cu
  .rw[gZ,ug,mG];show 1<=(hL u.k).aA/\(hL u.k).aA<=_;rw[oG u hu pu];have h1:=q.rr u (inr u hu) pu;rw[xX r] at h1;have gu:=((lU pu).1 (q.ok u (inr u hu)).bad).1.1.1;by_cases rJ:u.k.gate=x.k.gate
   .have o1:=oth u hu pu rJ;rw[rJ] at h1 ⊢;rw[if_pos rfl] at h1;rw[xX r,if_pos rfl] at aaW;simp only[true_and];split<;>omega
   simp only[rJ,false_and,if_false];rw[if_neg aa] at h1;exact h1
  .obtain⟨t1,t2⟩:=key (TF ls) m2 u hu pu;obtain⟨b1,b2⟩:=key (BF ls) m3 u hu pu;exact⟨⟨t1,b1⟩,t2,b2⟩
  .rw[gZ,mG];obtain⟨t1,t2⟩:=keyg (TF ls) m2 k;obtain⟨b1,b2⟩:=keyg (BF ls) m3 k;obtain⟨_,t3⟩:=keyg (TF ls) m2 (k+1);obtain⟨_,b3⟩:=keyg (BF ls) m3 (k+1);have:=q.gt k hk;exact⟨by rw[show T' k _=_ from t1,this.1];exact t3.symm,by rw[show B' k _=_ from b1,this.2];exact b3.symm⟩
  rw[gZ,mG];obtain⟨t1,t2⟩:=keyg (TF ls) m2 F;obtain⟨b1,b2⟩:=keyg (BF ls) m3 F;obtain⟨_,t3⟩:=keyg (TF ls) m2 0;obtain⟨_,b3⟩:=keyg (BF ls) m3 0;have:=q.gz;exact⟨by rw[show T' F _=_ from t1,this.1];exact t3.symm,by rw[show B' F _=_ from b1,this.2];exact b3.symm⟩
 have LR:Cert F (r.map fun w=>jw x.k.gate (lo+1) (-2) w.p):=by
  refine Cq.done (X:=[x,y]) (r:=r) (X':=[]) (L:=[mc,x.o.l,x.o.r]) (N:=[]) (V:=eN ls) (z':=r.map (aG.mp ψ hL)) qn c.nd (fun t ht=>c.wit t ht) (List.Perm.refl _) ⟨s.mp ψ,?_⟩ ?_ ?_ (fun t _ ht=>Pp fun e=>ht (by simp[e])) (fun w hw t ht ew Ap=>?_) tz (fun t ht=>by cases ht) (fun t ht=>by cases ht) (by rw[vM];exact aZ _) ?_
  .have:=GH (ψ:=ψ) (h:=hL) vl;rwa[show y.o.mp ψ=s.mp ψ from m1] at this
  .rw[qH];refine uu fun w _=>?_;rw[Nj];rfl
  .refine⟨w0.mp ψ hL,?_,?_⟩
   .rw[gZ];exact dr.2 ⟨w0,hw0,rfl⟩
   show(hL w0.k).ay=true;rw[(uh _ _ _).ay];exact pw0
  .obtain⟨v,hv,hvo⟩:=PG vl ak3;simp only[cT,hJ,or_false,not_or] at hw Ap;have key:t=s.l\/t=s.r:=by
    rcases hw with rfl|rfl
    .rcases ew with ew|ew
     .exact absurd ew Ap.2.1
     exact absurd ew Ap.2.2
    rcases m4 t ew with h|h
    .exact absurd h Ap.1
    exact h
   refine⟨v.mp ψ hL,by rw[gZ];exact dr.2 ⟨v,hv,rfl⟩,?_⟩;show t=ψ v.o.l\/t=ψ v.o.r;rw[hvo];have:ψ t=t:=Pp Ap.1;rcases key with h|h
   .left;rw[<- h,this]
   right;rw[<- h,this]
  rw[gZ,mC,mP];have h1:=g.nw;rw[zq] at h2;rw[FZ] at h3;simp only[dQ,cE];omega
 obtain⟨u,v,k1,k2⟩:=abM (l:=pieces ls) (a:=a) (by rw[eW];exact ha) (by rw[eW];omega) (by rw[I0];rfl);rw[eW] at k1;show Cert F ((mf (pieces ls) fun k _=>decide (k=a)||decide (k=(a+1)%ls.length)).map (jw x.k.gate (xf x.k.aA y.k.aA) (-2)));rw[k1,sa,iS];refine Cert.lh ?_;rw[<- iS,<- k2,qH];exact LR
end
section
variable {F:Nat} {ls:List Let}
theorem Rn(g:ct F ls){pl:Nat}{edges:List Nat}{e0:Nat}(he0:e0<ls.length)(h:tF F ls pl edges e0=true):∃w,w∈fV (aO ls) (nD ls)/\(lA F ls w).places.length=pl/\((w.filter fun x=>decide (x<2*ls.length)).length=edges.length)/\ ∀e∈edges,∃d,d∈w/\d<2*ls.length/\d/2=e:=by
 have key:∀f∈dS F ls,DC f pl edges=true->∃w,w∈fV (aO ls) (nD ls)/\(lA F ls w).places.length=pl/\((w.filter fun x=>decide (x<2*ls.length)).length=edges.length)/\ ∀e∈edges,∃d,d∈w/\d<2*ls.length/\d/2=e:=by intro f hf hc;obtain⟨w,hw,rfl⟩:=dr.1 hf;unfold DC at hc;simp only[bQ,beq_iff_eq,iC] at hc;obtain⟨h1,h2,h3⟩:=hc;rw[DH] at h1;refine⟨w,hw,h2,h1,fun e he=>?_⟩;have h4:=h3 e he;unfold zc at h4;obtain⟨d,hd,vd⟩:=Bp.1 (show 0<((lA F ls w).dd.countP fun d=>d/2==e) by omega);rw[DH] at hd;obtain⟨d1,d2⟩:=tv.1 hd;exact⟨d,d1,by simpa using d2,by simpa using vd⟩
 unfold tF at h;rw[uq] at h;rcases h with h|h
 .exact key _ (ZT aa) h
 exact key _ (ZT aa) h
theorem ae8{D:List Nat}(h:D.length=2){y:Nat}(hx:x∈D)(hy:y∈D)(aK:x≠y){z:Nat}(hz:z∈D):z=x\/z=y:=by
 match D,h with
 |[p,q],_=>simp only[cT,hJ,or_false] at hx hy hz;omega
theorem acW{e:Nat}(he:e<ls.length){l:Let}(hl:ls[nx ls e]?=some l)(hc:l.aw=true):aO ls (2*e)=dk ls.length (fH ls (nx ls e)) (gX l):=by
 have:2*e=gQ ls.length (nx ls e) true:=by unfold gQ nx;rw[if_pos rfl,EL he]
 rw[this,yE hl hc];unfold gX;cases (l.over==(l.sign==1))<;>rfl
theorem acV{e:Nat}{l:Let}(hl:ls[e]?=some l)(hc:l.aw=true):aO ls (2*e+1)=dk ls.length (fH ls e) (!gX l):=by have:2*e+1=gQ ls.length e false:=rfl;rw[this,yE hl hc];unfold gX;cases (l.over==(l.sign==1))<;>rfl
theorem xD{b:Bool}(h:dk ls.length v b=x):(b=true/\x=2*v)\/(b=false/\x=2*((v+ls.length-1)%ls.length)+1):=by
 cases b
 .exact .inr ⟨rfl,h.symm⟩
 exact .inl ⟨rfl,h.symm⟩
theorem BI{e:Nat}(hv:v<ls.length)(h:(v+ls.length-1)%ls.length=e):v=nx ls e:=by unfold nx;rw[<- h,xe hv]
theorem DM(ok:eP F ls){u:Nat}{l m:Let}(hl:ls[v]?=some l)(hc:l.aw=true)(hm:ls[u]?=some m)(ho:fH ls v=u):gX m= !gX l/\m.aw=true/\m.id=l.id:=by obtain⟨_,w,hw,wc,wi,wo,ws⟩:=pW ok.cr hl hc;rw[ho,hm] at hw;cases hw;refine⟨?_,wc,wi⟩;unfold gX;rw[wo,ws];cases l.over<;>cases (l.sign==1)<;>rfl
theorem PB(ok:eP F ls){l:Let}(hl:ls[v]?=some l)(hc:l.aw=true):fH ls v<ls.length:=by obtain⟨_,w,hw,_⟩:=pW ok.cr hl hc;exact(aV.1 hw).1
theorem ang(g:ct F ls){a b:Nat}(ha:a<ls.length)(hb:b<ls.length){lx ly lu lv:Let}(hx:ls[a]?=some lx)(hy:ls[nx ls a]?=some ly)(hu:ls[b]?=some lu)(hv:ls[nx ls b]?=some lv)
  (cx:lx.aw=true) (cy:ly.aw=true) (cu:lu.aw=true) (cv:lv.aw=true) (kr:lx.id≠ly.id) (ym:lu.id≠lv.id) (ju:a≠b) (h:tF F ls 0 [a,b] a=true):gX lx= !gX ly:=by
 have ok:=g.ok;obtain⟨w,hw,_,hlen,hE⟩:=Rn g ha h;obtain⟨da,v7,uD,za⟩:=hE a af;obtain⟨db,xK,u6,zb⟩:=hE b af;have aK:da≠db:=aa;have inD:∀d,d∈w->d<2*ls.length->d∈w.filter fun x=>decide (x<2*ls.length):=fun d h1 h2=>tv.2 ⟨h1,by simpa using h2⟩;have two:∀d,d∈w->d<2*ls.length->d=da\/d=db:=fun d h1 h2=>ae8 hlen (inD da v7 uD) (inD db xK u6) aK (inD d h1 h2);have nin:∀d,d∈w->aO ls d∈w:=fun d hd=>Bo (maps ok) hw hd;have str:∀(v:Nat) (b:Bool),v<ls.length->dk ls.length v b<2*ls.length:=fun v b hv=>by have:=yR hv (!b);rw[<- xk] at this;have:=vG this;rwa[vH] at this
 have oy:=PB ok hy cy;have ox:=PB ok hx cx;have ou:=PB ok hu cu;have ov:=PB ok hv cv
 -- where the walk goes on
 have na:(da=2*a/\aO ls da=dk ls.length (fH ls (nx ls a)) (gX ly))\/(da=2*a+1/\aO ls da=dk ls.length (fH ls a) (!gX lx)):=by
  rcases sH da with c|c
  .have:da=2*a:=aa;exact .inl ⟨this,by rw[this];exact acW ha hy cy⟩
  have:da=2*a+1:=aa;exact .inr ⟨this,by rw[this];exact acV hx cx⟩
 have nb:(db=2*b/\aO ls db=dk ls.length (fH ls (nx ls b)) (gX lv))\/(db=2*b+1/\aO ls db=dk ls.length (fH ls b) (!gX lu)):=by
  rcases sH db with c|c
  .have:db=2*b:=aa;exact .inl ⟨this,by rw[this];exact acW hb hv cv⟩
  have:db=2*b+1:=aa;exact .inr ⟨this,by rw[this];exact acV hu cu⟩
 have ta:aO ls da=da\/aO ls da=db:=two _ (nin _ v7) (by rcases na with ⟨_,e⟩|⟨_,e⟩<;>rw[e]<;>exact str _ _ (by assumption));have tb:aO ls db=da\/aO ls db=db:=two _ (nin _ xK) (by rcases nb with ⟨_,e⟩|⟨_,e⟩<;>rw[e]<;>exact str _ _ (by assumption));have ta':aO ls da=db:=by
  rcases ta with e|e
  .exfalso;rcases na with ⟨e1,e2⟩|⟨e1,e2⟩
   .rw[e] at e2;rcases xD e2.symm with ⟨_,e3⟩|⟨_,e3⟩
    .exact kr (DM ok hy cy hx aa).2.2
    omega
   rw[e] at e2;rcases xD e2.symm with ⟨_,e3⟩|⟨_,e3⟩
   .omega
   exact kr (DM ok hx cx hy (BI ox aa)).2.2.symm
  exact e
 have tb':aO ls db=da:=by
  rcases tb with e|e
  .exact e
  exfalso;rcases nb with ⟨e1,e2⟩|⟨e1,e2⟩
  .rw[e] at e2;rcases xD e2.symm with ⟨_,e3⟩|⟨_,e3⟩
   .exact ym (DM ok hv cv hu aa).2.2
   omega
  rw[e] at e2;rcases xD e2.symm with ⟨_,e3⟩|⟨_,e3⟩
  .omega
  exact ym (DM ok hu cu hv (BI ou aa)).2.2.symm
 rcases na with ⟨ea,e1⟩|⟨ea,e1⟩<;>rcases nb with ⟨eb,e2⟩|⟨eb,e2⟩<;>rw[ta'] at e1<;>rw[tb'] at e2
 .rcases xD e1.symm with ⟨g1,e3⟩|⟨g1,e3⟩<;>rcases xD e2.symm with ⟨g2,e4⟩|⟨g2,e4⟩<;>try omega
  have:=(DM ok hv cv hx aa).1;rw[this,g1,g2]
 .rcases xD e1.symm with ⟨g1,e3⟩|⟨g1,e3⟩<;>rcases xD e2.symm with ⟨g2,e4⟩|⟨g2,e4⟩<;>try omega
  have:=(DM ok hu cu hx aa).1;rw[this,g1,g2];rfl
 .rcases xD e1.symm with ⟨g1,e3⟩|⟨g1,e3⟩<;>rcases xD e2.symm with ⟨g2,e4⟩|⟨g2,e4⟩<;>try omega
  have:=(DM ok hv cv hy (BI ov aa)).1;rw[this,g2];revert g1;cases gX lx<;>simp
 rcases xD e1.symm with ⟨g1,e3⟩|⟨g1,e3⟩<;>rcases xD e2.symm with ⟨g2,e4⟩|⟨g2,e4⟩<;>try omega
 have:=(DM ok hu cu hy (BI ou aa)).1;rw[this];revert g1 g2;cases gX lx<;>cases gX lu<;>simp
theorem Qs{x p w:aG}(h1:Xr x p)(h2:Xr x w)(h3:Xr p w)(cx:x.k.aw=true)(cp:p.k.aw=true)(cw:w.k.aw=true)(e1:x.k.id=p.k.id):w.k.id≠x.k.id:=by intro e2;have a:=(h1 cx cp e1).ov;have b:=(h2 cx cw e2.symm).ov;have d:=(h3 cp cw (by rw[<- e1,e2])).ov;rw[b] at a;rw[d] at a;revert a;cases w.k.over<;>simp
theorem adN{α:Type}{z:List α}{a:Nat}(ha:a<z.length)(hj:j<z.length):(z.drop a++z.take a)[j]?=z[(a+j)%z.length]? :=by
 by_cases h:a+j<z.length
 .rw[oO (by rw[nW];omega),ur,fK h]
 rw[nV (by rw[nW];omega),nW,jm,if_pos aa,Nat.mod_eq_sub_mod aa,fK aa];congr 1;omega
theorem aqk{α:Type}{r:List α}{u v:α}(hu:r[j]?=some u)(hv:r[j+1]?=some v):r=r.take j++u::v::r.drop (j+2):=by
 obtain⟨h1,e1⟩:=aV.1 hu;obtain⟨h2,e2⟩:=aV.1 hv;have:r.drop j=u::v::r.drop (j+2):=by rw[<- yJ h1,e1,<- yJ h2,e2]
 rw[<- this,lX]
end
theorem U5{p q w:Int}{l:Let}(hc:l.aw=true)(hw:l.id=w):(gU [p,q] l).id=w-(if p<w then 1 else 0)-(if q<w then 1 else 0):=by rw[acf hc,hw];by_cases c1:p<w<;>by_cases c2:q<w<;>simp[c1,c2]<;>omega
section
variable {F:Nat} {ls:List Let}
theorem XU(g:ct F ls){a b:Nat}(ha:a<ls.length)(hb:b<ls.length){L:List Pc}(h:CM F ls a b=some L):Cert F L:=by
 obtain⟨x,y,r0,s,e,hx,hy,c,hp,I0,hzx,hzy,je⟩:=Wx g ha;have q:=c.q;have kM:=De ls;unfold CM at h;split at h
 case isFalse=>cases h
 rename_i hc;simp only[bQ,uq,beq_iff_eq,gH,beq_eq_false_iff_ne] at hc;obtain⟨Ly,aK,aa3,il,tV,ID⟩:=hc;have pa:pA ls a=x.p:=iW hx;have pb:pA ls (nx ls a)=y.p:=iW hy;cases h;have hnb:nx ls b<ls.length:=dw _ aa;have hna:nx ls a<ls.length:=dw _ aa;obtain⟨u,I9⟩:=aI (ls:=zF ls) (k:=b) aa;obtain⟨v,ME⟩:=aI (ls:=zF ls) (k:=nx ls b) aa;have pc:pA ls b=u.p:=iW (by rw[<- um,fX,I9];rfl);have pd:pA ls (nx ls b)=v.p:=iW (by rw[<- um,fX,ME];rfl);rw[pa,pb] at aK;rw[pa,pb,pc,pd] at aa3
 -- they are visits, two over and two under
 have kinds:x.k.aw=true/\y.k.aw=true/\u.k.aw=true/\v.k.aw=true/\x.k.over=y.k.over/\u.k.over=v.k.over/\x.k.over≠u.k.over:=by
  have bo:∀e ov,lM ls e ov=true->(pA ls e).l.aw=true/\(pA ls (nx ls e)).l.aw=true/\(pA ls e).l.over=ov/\(pA ls (nx ls e)).l.over=ov:=fun e ov h=>by unfold lM at h;simp only[bQ,beq_iff_eq] at h;obtain⟨h1,h2,h3,h4⟩:=h;exact⟨by unfold Let.aw;rw[h1];rfl,by unfold Let.aw;rw[h2];rfl,h3,h4⟩
  rcases Ly with ⟨h1,h2⟩|⟨h1,h2⟩<;>obtain⟨a1,a2,a3,a4⟩:=bo _ _ h1<;>obtain⟨b1,b2,b3,b4⟩:=bo _ _ h2
  all_goals
   rw[pa] at a1 a3;rw[pb] at a2 a4;rw[pc] at b1 b3;rw[pd] at b2 b4;refine⟨a1,a2,b1,b2,?_,?_,?_⟩
   .show x.p.l.over=y.p.l.over;rw[a3,a4]
   .show u.p.l.over=v.p.l.over;rw[b3,b4]
   show x.p.l.over≠u.p.l.over;rw[a3,b3];decide
 obtain⟨cx,cy,cu,cv,ov1,ov2,ov3⟩:=kinds;have kr:x.k.id≠y.k.id:=aK;have Me:(u.k.id=x.k.id/\v.k.id=y.k.id)\/(u.k.id=y.k.id/\v.k.id=x.k.id):=aa3;have ym:u.k.id≠v.k.id:=by
  rcases Me with ⟨h1,h2⟩|⟨h1,h2⟩
  .rw[h1,h2];exact kr
  rw[h1,h2];exact kr.symm
 have ju:a≠b:=by
  rintro rfl
  rw[hzx] at I9;cases I9;exact ov3 rfl
 have lx:ls[a]?=some x.k:=by have:=AZ hzx;rwa[gY] at this
 have ly:ls[nx ls a]?=some y.k:=by have:=AZ hzy;rwa[gY] at this
 have lu:ls[b]?=some u.k:=by have:=AZ I9;rwa[gY] at this
 have lv:ls[nx ls b]?=some v.k:=by have:=AZ ME;rwa[gY] at this
 have hg:=ang g ha hb lx ly lu lv cx cy cu cv kr ym ju ID
 -- where the second edge stands, from the first one on
 obtain⟨j,zA,jK,yg⟩:∃j,j+3<ls.length/\(a+(j+2))%ls.length=b/\(a+(j+3))%ls.length=nx ls b:=by
  have OW:nx ls a≠b:=by intro e;rw[e,I9] at hzy;cases hzy;exact ov3 ov1
  have Uo:nx ls b≠a:=by intro e;rw[e,hzx] at ME;cases ME;exact ov3 ov2.symm
  unfold nx at OW Uo ⊢;by_cases c1:a<b
  .have e1:(a+1)%ls.length=a+1:=fK aa;rw[e1] at OW;have h2:b≠a+1:=fun h=>OW h.symm;have h3:¬(b+1=ls.length/\a=0):=fun⟨h3,h4⟩=>Uo (by rw[h3,xz,h4]);refine⟨b-a-2,aa,?_,?_⟩
   .rw[show a+(b-a-2+2)=b by omega,fK hb]
   rw[show a+(b-a-2+3)=b+1 by omega]
  have e1:(b+1)%ls.length=b+1:=fK aa;rw[e1] at Uo;have h3:¬(a+1=ls.length/\b=0):=fun⟨h3,h4⟩=>OW (by rw[h3,xz,h4]);refine⟨b+ls.length-a-2,aa,?_,?_⟩
  .rw[show a+(b+ls.length-a-2+2)=b+ls.length by omega,uX,fK hb]
  rw[show a+(b+ls.length-a-2+3)=b+1+ls.length by omega,uX]
 have hru:r0[j]?=some u:=by have:=adN (z:=zF ls) (a:=a) (j:=j+2) aa aa;rw[e,kM,jK,I9] at this;exact this
 have Eu:r0[j+1]?=some v:=by have:=adN (z:=zF ls) (a:=a) (j:=j+3) aa aa;rw[e,kM,yg,ME] at this;exact this
 have mw:=aqk hru Eu;obtain⟨c1,c2,IX,aj8,OL⟩:∃c1 c2,r0=c1++u::v::c2/\c1.length=j/\c2.length+j+4=ls.length:=by
  refine⟨_,_,mw,?_,?_⟩
  .have:=(aV.1 hru).1;rw[fJ];omega
  have h1:=(aV.1 Eu).1;have h2:=je.length_eq;rw[kM] at h2;simp only[cE] at h2;rw[nW];omega
 subst IX
 -- the two paths that are left
 obtain⟨fL,eH,vl⟩:=hp;obtain⟨s2,qW,wU,yn,lS⟩:=yw.1 vl;have hj0:j≠0:=by
  rintro rfl
  exact il jK
 have hj9:c2≠[]:=by
  rintro rfl
  simp only[dQ] at OL;refine tV ?_;rw[<- jK,Nat.mod_add_mod,show a+(j+2)+2=a+ls.length by omega,uX,fK ha]
 have fG:c1≠[]:=by rintro rfl;simp at aj8;omega
 have q4:Cq F ([x,y,u,v]++(c1++c2)) (TF ls) (BF ls):=by refine q.perm ?_;refine List.Perm.cons x (List.Perm.cons y ?_);exact Hk.trans (List.Perm.cons u Hk)
 obtain⟨w1,q5⟩:=jP.1 q4.cr;obtain⟨w2,q6⟩:=jP.1 q5;obtain⟨w3,q7⟩:=jP.1 q6;obtain⟨w4,q8⟩:=jP.1 q7;have rxu:Xr x u:=w1 u af;have rxv:Xr x v:=w1 v af;have ryu:Xr y u:=w2 u af;have ryv:Xr y v:=w2 v af;have Qt:∀w∈c1++c2,w.k.aw=true->w.k.id≠x.k.id/\w.k.id≠y.k.id:=fun w hw cw=>by
  have a1:Xr x w:=w1 w (Br [y,u,v] hw);have a2:Xr y w:=w2 w (Br [u,v] hw);have a3:Xr u w:=w3 w (Br [v] hw);have a4:Xr v w:=w4 w hw;rcases Me with ⟨h1,h2⟩|⟨h1,h2⟩
  .exact⟨Qs rxu a1 a3 cx cu cw h1.symm,Qs ryv a2 a4 cy cv cw h2.symm⟩
  exact⟨Qs rxv a1 a4 cx cv cw h2.symm,Qs ryu a2 a3 cy cu cw h1.symm⟩
 have bx:=(q4.ok x af).cb cx;have fZ:=(q4.ok y af).cb cy;have bu:=(q4.ok u af).cb cu;have bv:=(q4.ok v af).cb cv;rw[fL] at bx;rw[eH] at fZ;rw[yn] at bv
 -- which names are merged, and which are lost
 obtain⟨mc,me,bg,m1,m2,m3⟩:∃mc me bg:Nat,y.o.mp (jE mc me)=s.mp (jE mc me)/\v.o.mp (jE mc me)=s2.mp (jE mc me)/\
   (∀t,(t=x.o.l\/t=x.o.r)\/(t=y.o.l\/t=y.o.r)\/(t=u.o.l\/t=u.o.r)\/(t=v.o.l\/t=v.o.r)->t=mc\/t=bg\/(t=s.l\/t=s.r)\/(t=s2.l\/t=s2.r)):=by
  have aR:y.o.b=s.b:=by rw[<- fZ,<- bx]
  have aU:v.o.b=s2.b:=by rw[<- bv,<- bu,wU]
  have fin:∀mc me,jE mc me y.o.l=jE mc me s.l->jE mc me y.o.r=jE mc me s.r->jE mc me v.o.l=jE mc me s2.l->jE mc me v.o.r=jE mc me s2.r->y.o.mp (jE mc me)=s.mp (jE mc me)/\v.o.mp (jE mc me)=s2.mp (jE mc me):=fun mc me k1 k2 k3 k4=>⟨dz.ext' k1 k2 aR,dz.ext' k3 k4 aU⟩;rcases Me with ⟨h1,h2⟩|⟨h1,h2⟩
  .have p1:=(rxu cx cu h1.symm).x4;have p2:=(ryv cy cv h2.symm).x4;rw[fL,wU] at p1;rw[eH,yn] at p2;obtain⟨a1,a2,a3,a4⟩:=p1;obtain⟨b1,b2,b3,b4⟩:=p2;cases wP:gX x.k
   .have vf:gX y.k=true:=by revert hg;rw[wP];cases gX y.k<;>simp
    rw[wP] at a1 a2 a3 a4;rw[vf] at b1 b2 b3 b4;simp only[eY,if_false,if_true] at a1 a2 a3 a4 b1 b2 b3 b4;refine⟨y.o.l,s.l,x.o.r,?_⟩;have f:=fin y.o.l s.l (by rw[ua,ub]) (by rw[b2,a4]) (by rw[<- b1,a3]) (by rw[b4,<- a1,ua,ub]);refine⟨f.1,f.2,?_⟩;rintro t ((rfl|rfl)|(rfl|rfl)|(rfl|rfl)|(rfl|rfl))
    .exact .inr (.inr (.inr (.inl a3.symm)))
    .exact .inr (.inl rfl)
    .exact .inl rfl
    .exact .inr (.inr (.inl (.inr (b2.trans a4))))
    .exact .inr (.inl a2.symm)
    .exact .inr (.inr (.inl (.inr a4)))
    .exact .inr (.inr (.inr (.inl (by rw[<- b1,a3]))))
    exact .inl b4
   have vf:gX y.k=false:=by revert hg;rw[wP];cases gX y.k<;>simp
   rw[wP] at a1 a2 a3 a4;rw[vf] at b1 b2 b3 b4;simp only[eY,if_false,if_true] at a1 a2 a3 a4 b1 b2 b3 b4;refine⟨y.o.r,s.r,x.o.l,?_⟩;have f:=fin y.o.r s.r (by rw[<- b3,a1]) (by rw[ua,ub]) (by rw[a3,<- b2,ua,ub]) (by rw[b4,a2]);refine⟨f.1,f.2,?_⟩;rintro t ((rfl|rfl)|(rfl|rfl)|(rfl|rfl)|(rfl|rfl))
   .exact .inr (.inl rfl)
   .exact .inr (.inr (.inr (.inr a2)))
   .exact .inr (.inr (.inl (.inl (by rw[<- b3,a1]))))
   .exact .inl rfl
   .exact .inr (.inr (.inl (.inl a1.symm)))
   .exact .inr (.inl a4)
   .exact .inl b2.symm
   exact .inr (.inr (.inr (.inr (b4.trans a2))))
  have p1:=(rxv cx cv h2.symm).x4;have p2:=(ryu cy cu h1.symm).x4;rw[fL,yn] at p1;rw[eH,wU] at p2;obtain⟨a1,a2,a3,a4⟩:=p1;obtain⟨b1,b2,b3,b4⟩:=p2;cases wP:gX x.k
  .have vf:gX y.k=true:=by revert hg;rw[wP];cases gX y.k<;>simp
   rw[wP] at a1 a2 a3 a4;rw[vf] at b1 b2 b3 b4;simp only[eY,if_false,if_true] at a1 a2 a3 a4 b1 b2 b3 b4;refine⟨y.o.r,s.r,x.o.l,?_⟩;have f:=fin y.o.r s.r (by rw[a1,<- b4]) (by rw[ua,ub]) (by rw[<- a2,b3]) (by rw[a4,<- b2,ua,ub]);refine⟨f.1,f.2,?_⟩;rintro t ((rfl|rfl)|(rfl|rfl)|(rfl|rfl)|(rfl|rfl))
   .exact .inr (.inl rfl)
   .exact .inr (.inr (.inr (.inl b3.symm)))
   .exact .inr (.inr (.inl (.inl (by rw[a1,<- b4]))))
   .exact .inl rfl
   .exact .inr (.inl b1.symm)
   .exact .inr (.inr (.inl (.inl (by rw[a1]))))
   .exact .inr (.inr (.inr (.inl (by rw[<- a2,b3]))))
   exact .inr (.inr (.inl (.inr a4)))
  have vf:gX y.k=false:=by revert hg;rw[wP];cases gX y.k<;>simp
  rw[wP] at a1 a2 a3 a4;rw[vf] at b1 b2 b3 b4;simp only[eY,if_false,if_true] at a1 a2 a3 a4 b1 b2 b3 b4;refine⟨y.o.l,s.l,x.o.r,?_⟩;have f:=fin y.o.l s.l (by rw[ua,ub]) (by rw[b2,a3]) (by rw[<- a1,b3,ua,ub]) (by rw[a4,b1]);refine⟨f.1,f.2,?_⟩;rintro t ((rfl|rfl)|(rfl|rfl)|(rfl|rfl)|(rfl|rfl))
  .exact .inr (.inr (.inr (.inr b1)))
  .exact .inr (.inl rfl)
  .exact .inl rfl
  .exact .inr (.inr (.inl (.inr (by rw[b2,a3]))))
  .exact .inr (.inr (.inl (.inr a3)))
  .exact .inr (.inl b4)
  .exact .inr (.inr (.inl (.inl a1.symm)))
  exact .inr (.inr (.inr (.inr (a4.trans b1))))
 have zq:∀z:List aG,au Let.aw (aM ([x,y,u,v]++z))=au Let.aw (aM z)+4:=fun z=>by rw[rK,eI,eI,eI,eI,rL,(mM cx).1,(mM cy).1,(mM cu).1,(mM cv).1];omega
 have FZ:∀z:List aG,au Let.ay (aM ([x,y,u,v]++z))=au Let.ay (aM z):=fun z=>by rw[rK,eI,eI,eI,eI,rL,(mM cx).2,(mM cy).2,(mM cu).2,(mM cv).2];omega
 have xX:∀(z:List aG) k,cg (aM ([x,y,u,v]++z)) k=cg (aM z) k:=fun z k=>by show au _ _=au _ _;rw[rK,eI,eI,eI,eI,rL,xG k cx,xG k cy,xG k cu,xG k cv];simp
 have hP4:([x,y,u,v]++(c1++c2)).Perm (zF ls):=by refine List.Perm.trans (List.Perm.symm ?_) je;refine List.Perm.cons x (List.Perm.cons y ?_);exact Hk.trans (List.Perm.cons u Hk)
 have h2:au Let.aw (aM ([x,y,u,v]++(c1++c2)))=au Let.aw ls:=by rw[xI hP4,gY]
 have h3:au Let.ay (aM ([x,y,u,v]++(c1++c2)))=au Let.ay ls:=by rw[xI hP4,gY]
 have dD:=q4.ev
 let ψ:=jE mc me
 let hL:=gU [x.k.id,y.k.id]
 let r:=c1++c2
 have mC:au Let.aw (aM (r.map (aG.mp ψ hL)))=au Let.aw (aM r):=uA (fun l=>(AY _).aw l) r;have mP:au Let.ay (aM (r.map (aG.mp ψ hL)))=au Let.ay (aM r):=uA (fun l=>(AY _).ay l) r;have mG:∀k,cg (aM (r.map (aG.mp ψ hL))) k=cg (aM r) k:=fun k=>uA (fun l=>acd _ k l) r;have IK:∀w∈[x,y,u,v]++r,w.k.aw=true->1<=w.k.id/\w.k.id<=((au Let.aw (aM r)/2:Nat):Int)+2:=fun w hw hc=>by have:=q4.ids w hw hc;rw[zq] at this;show 1<=w.k.id/\w.k.id<=((au Let.aw (aM (c1++c2))/2:Nat):Int)+2;omega
 have idx:=IK x af cx;have idy:=IK y af cy;have inr:∀w∈r,w∈[x,y,u,v]++r:=fun w hw=>Br _ hw;have qn:Cq F ([]++r.map (aG.mp ψ hL)) (fun G k=>ψ (TF ls G k)) (fun G k=>ψ (BF ls G k)):=by
  refine Cq.edit (X:=[x,y,u,v]) (r:=r) q4 (AY _) (fun w hw=>ace (q4.ok w (inr w hw)).bad) (fun p hp o ho cp co e=>?_) (fun p hp o ho pp po e1 e2=>?_) (fun _ h=>by cases h) List.Pairwise.nil List.Pairwise.nil (fun _ h=>by cases h) (fun _ h=>by cases h) ?_ (fun _ h=>by cases h) (fun p hp cp=>?_) (fun _ h=>by cases h) (fun p hp pp=>?_) (fun _ h=>by cases h) (fun p hp pp=>?_) (fun k hk=>?_) ?_
  .obtain⟨n1,n2⟩:=Qt p hp cp;obtain⟨n3,n4⟩:=Qt o ho co;rw[U5 cp rfl,U5 co rfl] at e;split at e<;>split at e<;>split at e<;>split at e<;>omega
  .have e1:(gU [x.k.id,y.k.id] p.k).gate=(gU [x.k.id,y.k.id] o.k).gate:=e1;have e2:(gU [x.k.id,y.k.id] p.k).aA=(gU [x.k.id,y.k.id] o.k).aA:=e2;rw[AX pp,AX po] at e1 e2;exact⟨e1,e2⟩
  .rw[gZ,mC];rw[zq] at dD;show au Let.aw (aM (c1++c2))%2=0;omega
  .rw[gZ,mC];show 1<=(gU [x.k.id,y.k.id] p.k).id/\(gU [x.k.id,y.k.id] p.k).id<=_;rw[U5 cp rfl];have h1:=IK p (inr p hp) cp;obtain⟨n1,n2⟩:=Qt p hp cp;have hxy':=kr;split<;>split<;>omega
  .rw[gZ,mG];show 1<=(gU [x.k.id,y.k.id] p.k).aA/\(gU [x.k.id,y.k.id] p.k).aA<=((cg (aM r) (gU [x.k.id,y.k.id] p.k).gate.toNat:Nat):Int);rw[AX pp,<- xX r];exact q4.rr p (inr p hp) pp
  .show(ψ _=ψ (TF ls (gU [x.k.id,y.k.id] p.k).gate.toNat ((gU [x.k.id,y.k.id] p.k).aA.toNat-1))/\ψ _=ψ (BF ls (gU [x.k.id,y.k.id] p.k).gate.toNat ((gU [x.k.id,y.k.id] p.k).aA.toNat-1)))/\ψ _=ψ (TF ls (gU [x.k.id,y.k.id] p.k).gate.toNat (gU [x.k.id,y.k.id] p.k).aA.toNat)/\ψ _=ψ (BF ls (gU [x.k.id,y.k.id] p.k).gate.toNat (gU [x.k.id,y.k.id] p.k).aA.toNat);rw[AX pp];exact⟨⟨rfl,rfl⟩,rfl,rfl⟩
  .rw[gZ,mG,<- xX r];obtain⟨t1,t2⟩:=q4.gt k hk;exact⟨congrArg ψ t1,congrArg ψ t2⟩
  rw[gZ,mG,<- xX r];obtain⟨t1,t2⟩:=q4.gz;exact⟨congrArg ψ t1,congrArg ψ t2⟩
 have LR:Cert F (r.map fun w=>pQ [x.k.id,y.k.id] w.p):=by
  refine Cq.done (X:=[x,y,u,v]) (r:=r) (X':=[]) (L:=[mc,bg]) (N:=[]) (V:=eN ls) (z':=r.map (aG.mp ψ hL)) qn Dl (fun t ht=>?_) (List.Perm.refl _) ⟨s.mp ψ,?_⟩ ?_ ?_ (fun t _ ht=>Pp fun e=>ht (by simp[e])) (fun w hw t ht ew Ap=>?_) tz (fun t ht=>by cases ht) (fun t ht=>by cases ht) (by rw[vM];exact aZ _) ?_
  .obtain⟨w,hw,ew⟩:=c.wit t ht;refine⟨w,?_,ew⟩;have:w∈zF ls:=je.mem_iff.1 hw;exact hP4.mem_iff.2 this
  .have e1:=GH (ψ:=ψ) (h:=hL) qW;have e2:=GH (ψ:=ψ) (h:=hL) lS;rw[show y.o.mp ψ=s.mp ψ from m1] at e1;rw[show v.o.mp ψ=s2.mp ψ from m2] at e2;show hY (s.mp ψ) ((c1++c2).map (aG.mp ψ hL)) (s.mp ψ);rw[iS];exact yw.2 ⟨_,e1,e2⟩
  .rw[qH];refine uu fun w _=>?_;rw[ach];rfl
  .obtain⟨w,hw,qD⟩:=c.one;have Gp:w∈[x,y,u,v]++r:=hP4.mem_iff.2 (je.mem_iff.1 hw);rcases fq.1 Gp with h|h
   .exfalso;simp only[cT,hJ,or_false] at h;rcases h with rfl|rfl|rfl|rfl
    .rw[kO cx] at qD;cases qD
    .rw[kO cy] at qD;cases qD
    .rw[kO cu] at qD;cases qD
    rw[kO cv] at qD;cases qD
   refine⟨w.mp ψ hL,by rw[gZ];exact dr.2 ⟨w,h,rfl⟩,?_⟩;show(gU [x.k.id,y.k.id] w.k).ay=true;rw[(AY _).ay];exact qD
  .simp only[cT,hJ,or_false,not_or] at hw Ap;have key:=m3 t (by
    rcases hw with rfl|rfl|rfl|rfl
    .exact .inl ew
    .exact .inr (.inl ew)
    .exact .inr (.inr (.inl ew))
    exact .inr (.inr (.inr ew)))
   have hψ:ψ t=t:=Pp Ap.1;have put:∀d∈r,(t=d.o.l\/t=d.o.r)->∃y'∈[]++r.map (aG.mp ψ hL),t=y'.o.l\/t=y'.o.r:=fun d hd h=>by
    refine⟨d.mp ψ hL,by rw[gZ];exact dr.2 ⟨d,hd,rfl⟩,?_⟩;rcases h with h|h
    .left;show t=ψ d.o.l;rw[<- h,hψ]
    right;show t=ψ d.o.r;rw[<- h,hψ]
   rcases key with h|h|h|h
   .exact absurd h Ap.1
   .exact absurd h Ap.2
   .obtain⟨d,hd,ed⟩:=PG lS hj9;exact put d (Br _ hd) (by rw[ed];exact h)
   obtain⟨d,hd,ed⟩:=PG qW fG;exact put d (List.mem_append_left _ hd) (by rw[ed];exact h)
  rw[gZ,mC,mP];have h1:=g.nw;rw[zq] at h2;rw[FZ] at h3;show au Let.ay (aM (c1++c2))+au Let.aw (aM (c1++c2))/2+1+2<=_;simp only[dQ];omega
 rw[pa,pb];show Cert F ((mf (pieces ls) (sN [x.k.id,y.k.id])).map (pQ [x.k.id,y.k.id]));rw[abL (l:=pieces ls) (drop:=sN [x.k.id,y.k.id]) (d:=fun p=>(p.l.kind==2)&&[x.k.id,y.k.id].contains p.l.id) fun _ _=>rfl];refine YB (a:=a) ?_;rw[I0];have hkx:(x.p.l.kind==2)=true:=cx;have hky:(y.p.l.kind==2)=true:=cy;have hku:(u.p.l.kind==2)=true:=cu;have hkv:(v.p.l.kind==2)=true:=cv;have akp:∀d∈r,(fun p:Pc=> !((p.l.kind==2)&&[x.k.id,y.k.id].contains p.l.id)) d.p=true:=fun d hd=>by
  show(!((d.p.l.kind==2)&&_))=true;cases hk:(d.p.l.kind==2)
  .rfl
  obtain⟨n1,n2⟩:=Qt d hd hk;simp[n1,n2]
 have OT:∀(d:aG) (t:List Pc),(d.p.l.kind==2)=true->(d.k.id=x.k.id\/d.k.id=y.k.id)->(d.p::t).filter (fun p=> !((p.l.kind==2)&&[x.k.id,y.k.id].contains p.l.id))=t.filter (fun p=> !((p.l.kind==2)&&[x.k.id,y.k.id].contains p.l.id)):=fun d t hd h=>by
  refine List.filter_cons_of_neg ?_;rcases h with h|h
  .have h:d.p.l.id=x.k.id:=h;simp[h,hd]
  have h:d.p.l.id=y.k.id:=h;simp[h,hd]
 have hf:((x::y::(c1++u::v::c2)).map aG.p).filter (fun p=> !((p.l.kind==2)&&[x.k.id,y.k.id].contains p.l.id))=r.map aG.p:=by
  rw[dG,dG,OT x _ hkx (.inl rfl),OT y _ hky (.inr rfl),iS,ND,dG,dG,
   OT u _ hku (Me.imp (fun h=>h.1) fun h=>h.1),OT v _ hkv (Me.symm.imp (fun h=>h.2) fun h=>h.2)]
  rw[<- ND,<- iS];refine filter_all fun p hp=>?_;obtain⟨d,hd,rfl⟩:=dr.1 hp;exact akp d hd
 rw[hf,qH];exact LR
end
theorem Nn{α:Type}{z:List α}{a:Nat}{x:α}(h:z[a]?=some x):z=z.take a++x::z.drop (a+1):=by
 obtain⟨hl,e⟩:=aV.1 h;have:z.drop a=x::z.drop (a+1):=by rw[<- e,yJ]
 rw[<- this,lX]
theorem anm{ψ:Nat->Nat}{h:Let->Let}{z1 z2:List aG}{x x':aG}{s:dz}(hp:hY s (z1++x::z2) s)(hi:x'.i=x.i.mp ψ)(ho:x'.o=x.o.mp ψ):hY (s.mp ψ) (z1.map (aG.mp ψ h)++x'::z2.map (aG.mp ψ h)) (s.mp ψ):=by obtain⟨m,h1,h2,h3⟩:=yw.1 hp;exact yw.2 ⟨m.mp ψ,GH h1,by rw[hi,h2],by rw[ho];exact GH h3⟩
theorem NZ{w:aG}{G:Nat}(hw:w.k.ay=true)(hg:w.k.gate=(G:Int))(k:Nat):(if lY k w.k=true then 1 else 0)=if k=G then 1 else 0:=by
 unfold lY;rw[hw,hg];by_cases ck:k=G
 .subst ck;simp
 have:((G:Int)==(k:Int))=false:=by rw[beq_eq_false_iff_ne];omega
 simp[this,ck]
theorem ad5{l:List Pc}{f:Pc->Pc}{i:Nat}{p q:Pc}(hp:l[i]?=some p):(l.map f).set i q=(l.take i).map f++q::(l.drop (i+1)).map f:=by
 have hl:=(aV.1 hp).1
 conv=>lhs;rw[Nn hp]
 rw[iS,dG,List.set_append_right _ _ (by rw[cF,fJ];omega),cF,fJ,yK aa,Nat.sub_self];rfl
section
variable {F:Nat} {ls:List Let}
theorem X0(g:ct F ls){a:Nat}{x:aG}(hx:(zF ls)[a]?=some x)(px:x.k.ay=true){G G':Nat}(hG:x.k.gate=(G:Int))(hG':G'<=F)(aK:G'≠G){g' ab fZ oG:Int}{T' B':Nat->Nat->Nat}
  (l6:∀w∈(zF ls).take a++(zF ls).drop (a+1),w.k.ay=true->(1<=(ky g' ab fZ w.k).aA/\(ky g' ab fZ w.k).aA<=((cg ls w.k.gate.toNat:Nat):Int)+(if w.k.gate.toNat=G' then 1 else 0)-(if w.k.gate.toNat=G then 1 else 0))/\(w.k.gate=(G':Int)->(ky g' ab fZ w.k).aA≠oG))
  (akn:∀u∈(zF ls).take a++(zF ls).drop (a+1),∀v∈(zF ls).take a++(zF ls).drop (a+1),u.k.ay=true->v.k.ay=true->u.k.gate=v.k.gate->(ky g' ab fZ u.k).aA=(ky g' ab fZ v.k).aA->u.k.aA=v.k.aA)
  (kK:1<=oG/\oG<=(cg ls G':Int)+1)
  (hT:∀f f':Nat->Nat->Nat,(f=TF ls/\f'=T')\/(f=BF ls/\f'=B')->(f x.k.gate.toNat (x.k.aA.toNat-1)=f' G' (oG.toNat-1)/\f x.k.gate.toNat x.k.aA.toNat=f' G' oG.toNat)/\
   (∀w∈(zF ls).take a++(zF ls).drop (a+1),w.k.ay=true->f w.k.gate.toNat (w.k.aA.toNat-1)=f' w.k.gate.toNat ((ky g' ab fZ w.k).aA.toNat-1)/\f w.k.gate.toNat w.k.aA.toNat=f' w.k.gate.toNat (ky g' ab fZ w.k).aA.toNat)/\
   (∀k,k<F->f' k (cg ls k+(if k=G' then 1 else 0)-(if k=G then 1 else 0))=f' (k+1) 0)/\f' F (cg ls F+(if F=G' then 1 else 0)-(if F=G then 1 else 0))=f' 0 0):
  Cert F (((pieces ls).take a).map (jw g' ab fZ)++⟨{x.k with gate:=(G':Int),aA:=oG},x.p.d⟩::((pieces ls).drop (a+1)).map (jw g' ab fZ)):=by
 have c:=g.cz;have hz:=Nn hx
 let z1:=(zF ls).take a
 let z2:=(zF ls).drop (a+1)
 let x':aG:=⟨⟨{x.k with gate:=(G':Int),aA:=oG},x.p.d⟩,x.i,x.o⟩
 have JH:x'.k.ay=true:=px;have je:(zF ls).Perm ([x]++(z1++z2)):=by
  conv=>lhs;rw[hz]
  exact Hk
 have q:Cq F ([x]++(z1++z2)) (TF ls) (BF ls):=c.q.perm je
 let r:=z1++z2
 let hL:=ky g' ab fZ
 have mC:au Let.aw (aM (r.map (aG.mp id hL)))=au Let.aw (aM r):=uA (fun l=>(uh _ _ _).aw l) r;have mP:au Let.ay (aM (r.map (aG.mp id hL)))=au Let.ay (aM r):=uA (fun l=>(uh _ _ _).ay l) r;have mG:∀k,cg (aM (r.map (aG.mp id hL))) k=cg (aM r) k:=fun k=>uA (fun l=>VU _ _ _ k l) r;have tC:au Let.aw ls=au Let.aw (aM r):=by have:=xI (p:=Let.aw) je;rw[gY,rK,eI,rL,(yq px).1] at this;show _=au Let.aw (aM (z1++z2));rw[this];omega
 have tP:au Let.ay ls=au Let.ay (aM r)+1:=by have:=xI (p:=Let.ay) je;rw[gY,rK,eI,rL,(yq px).2] at this;show _=au Let.ay (aM (z1++z2))+1;rw[this];omega
 have tG:∀k,cg ls k=cg (aM r) k+if k=G then 1 else 0:=fun k=>by have:=xI (p:=lY k) je;rw[gY,rK,eI,rL,NZ px hG] at this;show au _ _=au (lY k) (aM (z1++z2))+_;rw[this];omega
 have nC:au Let.aw (aM ([x']++r.map (aG.mp id hL)))=au Let.aw ls:=by rw[rK,eI,rL,(yq JH).1,mC,tC];omega
 have nP:au Let.ay (aM ([x']++r.map (aG.mp id hL)))=au Let.ay ls:=by rw[rK,eI,rL,(yq JH).2,mP,tP];omega
 have nG:∀k,cg (aM ([x']++r.map (aG.mp id hL))) k=cg ls k+(if k=G' then 1 else 0)-(if k=G then 1 else 0):=fun k=>by
  have e1:cg (aM ([x']++r.map (aG.mp id hL))) k=(if k=G' then 1 else 0)+cg (aM (r.map (aG.mp id hL))) k:=by show au _ _=_+au _ _;rw[rK,eI,rL,NZ JH rfl];omega
  rw[e1,mG,tG];split<;>split<;>omega
 have nx':x'.k.aw=false:=mA JH;have agW:de F x'.k=false:=by have:=(lU px).1 (c.ok x (aQ hx)).bad;refine(lU JH).2 ?_;exact⟨⟨⟨⟨by show(0:Int)<=(G':Int);omega,by show(G':Int)<=(F:Int);omega⟩,this.1.1.2⟩,this.1.2⟩,this.2⟩
 have inr:∀w∈r,w∈[x]++r:=fun w hw=>Br _ hw;have tx:=hT (TF ls) T' (.inl ⟨rfl,rfl⟩);have bx:=hT (BF ls) B' (.inr ⟨rfl,rfl⟩);have plx:=q.pl x af px;have qn:Cq F ([x']++r.map (aG.mp id hL)) T' B':=by
  refine Cq.edit (X:=[x]) (r:=r) q (uh _ _ _) (fun w hw=>VV (q.ok w (inr w hw)).bad) (fun u hu v hv cu cv e=>?_) (fun u hu v hv pu pv e1 e2=>?_) (fun w hw=>?_) (Hj ..) (Hj ..) (fun u hu w hw=>?_) (fun u hu w hw pu pw e1 e2=>?_) (by rw[nC];have:=c.ev;rwa[gY] at this) (fun w hw cw=>?_) (fun u hu cu=>?_) (fun w hw pw=>?_) (fun u hu pu=>?_) (fun w hw pw=>?_) (fun u hu pu=>?_) (fun k hk=>?_) ?_
  .rw[Bf,Bf] at e;exact e
  .have BU:u.k.gate=v.k.gate:=by rw[ug,ug] at e1;exact e1
   exact⟨BU,akn u hu v hv pu pv BU e2⟩
  .rw[j6] at hw;subst hw;exact⟨agW,fun h=>absurd h (by rw[nx'];decide),fun _=>(c.ok x (aQ hx)).pb px⟩
  .rw[j6] at hu;subst hu;exact Ww nx'
  .rw[j6] at hu;subst hu;have pw:w.k.ay=true:=by rw[<- (uh g' ab fZ).ay];exact pw
   have e1:(G':Int)=(hL w.k).gate:=e1;have e1:w.k.gate=(G':Int):=by rw[e1];exact(ug _ _ _ _).symm
   exact(l6 w hw pw).2 e1 e2.symm
  .rw[j6] at hw;subst hw;rw[nx'] at cw;cases cw
  .rw[nC,Bf,<- gY ls];exact c.ids u (je.mem_iff.2 (inr u hu)) cu
  .rw[j6] at hw;subst hw;rw[nG];show 1<=oG/\oG<=((cg ls ((G':Int)).toNat+(if ((G':Int)).toNat=G' then 1 else 0)-(if ((G':Int)).toNat=G then 1 else 0):Nat):Int);rw[lJ,if_pos rfl,if_neg aK];omega
  .rw[ug,nG];obtain⟨⟨a1,a2⟩,_⟩:=l6 u hu pu;refine⟨a1,?_⟩;have ff:(if u.k.gate.toNat=G then 1 else 0)<=cg ls u.k.gate.toNat:=by rw[tG];omega
   have a2:(hL u.k).aA<=((cg ls u.k.gate.toNat:Nat):Int)+(if u.k.gate.toNat=G' then 1 else 0)-(if u.k.gate.toNat=G then 1 else 0):=a2;show(hL u.k).aA<=((cg ls u.k.gate.toNat+(if u.k.gate.toNat=G' then 1 else 0)-(if u.k.gate.toNat=G then 1 else 0):Nat):Int);by_cases h1:u.k.gate.toNat=G'<;>by_cases h2:u.k.gate.toNat=G
   .rw[if_pos h1,if_pos h2] at a2 ⊢;rw[if_pos h2] at ff;omega
   .rw[if_pos h1,if_neg h2] at a2 ⊢;omega
   .rw[if_neg h1,if_pos h2] at a2 ⊢;rw[if_pos h2] at ff;omega
   rw[if_neg h1,if_neg h2] at a2 ⊢;omega
  .rw[j6] at hw;subst hw;obtain⟨p1,p2,p3,p4⟩:=plx;obtain⟨⟨t1,t2⟩,_⟩:=tx;obtain⟨⟨b1,b2⟩,_⟩:=bx;have e0:x'.k.gate.toNat=G':=lJ _;constructor
   .rw[e0];exact p1.trans t1
   .rw[e0];exact p2.trans t2
   .rw[e0];exact p3.trans b1
   rw[e0];exact p4.trans b2
  .rw[ug];obtain⟨t1,t2⟩:=tx.2.1 u hu pu;obtain⟨b1,b2⟩:=bx.2.1 u hu pu;exact⟨⟨t1,b1⟩,t2,b2⟩
  .rw[nG];exact⟨tx.2.2.1 k hk,bx.2.2.1 k hk⟩
  rw[nG];exact⟨tx.2.2.2,bx.2.2.2⟩
 obtain⟨s,hp⟩:=c.path;rw[hz] at hp;refine Cq.done (X:=[x]) (r:=r) (X':=[x']) (L:=[]) (N:=[]) (V:=eN ls) (z':=z1.map (aG.mp id hL)++x'::z2.map (aG.mp id hL)) qn c.nd (fun t ht=>?_) ?_ ⟨s.mp id,anm hp rfl rfl⟩ ?_ ⟨x',af,JH⟩ (fun _ _ _=>rfl) (fun w hw t ht ew _=>?_) tz (fun t ht=>by cases ht) (fun t ht=>by cases ht) (by rw[vM];exact aZ _) ?_
 .obtain⟨w,hw,ew⟩:=c.wit t ht;exact⟨w,je.mem_iff.1 hw,ew⟩
 .show(z1.map (aG.mp id hL)++x'::z2.map (aG.mp id hL)).Perm ([x']++(z1++z2).map (aG.mp id hL));rw[iS];exact Hk
 .have h1:∀t:List aG,(t.map (aG.mp id hL)).map aG.p=(t.map aG.p).map (jw g' ab fZ):=fun t=>by
   rw[qH,qH];refine uu fun w _=>?_;show _=jw g' ab fZ w.p;rw[Nj];rfl
  rw[iS,dG,h1,h1];show(((zF ls).take a).map aG.p).map _++_::(((zF ls).drop (a+1)).map aG.p).map _=_;rw[Ad,Dk,um]
 .rw[j6] at hw;subst hw;exact⟨x',af,ew⟩
 rw[nC,nP];have:=g.nw;simp only[dQ];omega
theorem XY(g:ct F ls){a:Nat}(ha:a<ls.length){L:List Pc}(h:Db F ls a=some L):Cert F L:=by
 have kM:=De ls;obtain⟨x,hx⟩:=aI (ls:=zF ls) (k:=a) aa;have ko:(pieces ls)[a]?=some x.p:=by rw[<- um,fX,hx];rfl
 have Ge:pA ls a=x.p:=iW ko;unfold Db at h;rw[Ge] at h;split at h
 case isFalse=>cases h
 rename_i hc;simp only[bQ,beq_iff_eq,decide_eq_true_eq] at hc;obtain⟨h1,h2,h3⟩:=hc;cases h;have c:=g.cz;have px:x.k.ay=true:=by show(x.k.kind==1)=true;simp[h1]
 have gx:=((lU px).1 (c.ok x (aQ hx)).bad).1.1.1;have rx:=c.rr x (aQ hx) px;rw[gY] at rx;have h3:x.k.aA=(cg ls x.k.gate.toNat:Int):=h3;have h2:x.k.gate<(F:Int):=h2;have hG:x.k.gate=((x.k.gate.toNat:Nat):Int):=(Int.toNat_of_nonneg gx.1).symm;generalize x.k.gate.toNat=G at hG h3 rx;have hz:=Nn hx;have je:(zF ls).Perm (x::((zF ls).take a++(zF ls).drop (a+1))):=by
  conv=>lhs;rw[hz]
  exact Hk
 have q:=c.q.perm je;have oth:∀w∈(zF ls).take a++(zF ls).drop (a+1),w.k.ay=true->(0<=w.k.gate/\w.k.gate<=(F:Int))/\1<=w.k.aA/\w.k.aA<=(cg ls w.k.gate.toNat:Int)/\(w.k.gate=(G:Int)->w.k.aA≠x.k.aA):=fun w hw pw=>by have Gp:w∈zF ls:=je.mem_iff.2 (vN _ hw);have r1:=c.rr w Gp pw;rw[gY] at r1;refine⟨((lU pw).1 (c.ok w Gp).bad).1.1.1,r1.1,r1.2,fun e1 e2=>?_⟩;exact(jP.1 q.rk).1 w hw px pw (by rw[hG,e1]) e2.symm
 have rk:∀w:aG,w.k.ay=true->(ky ((G:Int)+1) 0 1 w.k).aA=if w.k.gate=(G:Int)+1/\0<w.k.aA then w.k.aA+1 else w.k.aA:=fun w pw=>Qe pw;have gxn:x.k.gate.toNat=G:=by rw[hG];exact lJ _
 have rxn:x.k.aA.toNat=cg ls G:=by rw[h3];exact lJ _
 have main:=X0 g hx px (G:=G) (G':=G+1) hG aa aa (g':=(G:Int)+1) (ab:=0) (fZ:=1) (oG:=1)
  (T':=fun k j=>if k=G+1 then (if j=0 then TF ls G (cg ls G-1) else TF ls (G+1) (j-1)) else TF ls k j)
  (B':=fun k j=>if k=G+1 then (if j=0 then BF ls G (cg ls G-1) else BF ls (G+1) (j-1)) else BF ls k j) ?_ ?_ ⟨aa,aa⟩ ?_
 .have e:tm (dT (pieces ls) (x.p.l.gate+1) 0 1) a (x.p.l.gate+1) 1=((pieces ls).take a).map (jw ((G:Int)+1) 0 1)++⟨{x.k with gate:=((G+1:Nat):Int),aA:=1},x.p.d⟩::((pieces ls).drop (a+1)).map (jw ((G:Int)+1) 0 1):=by
   have Eb:x.p.l.gate=(G:Int):=hG;unfold tm;have eC:(dT (pieces ls) (x.p.l.gate+1) 0 1)[a]?=some x.p:=by
    show((pieces ls).map _)[a]?=_;rw[fX,ko];show some (jw _ _ _ x.p)=_;rw[Nj];congr 1;have:ky (x.p.l.gate+1) 0 1 x.p.l=x.p.l:=by unfold ky;rw[if_neg];simp only[bQ,beq_iff_eq,not_and];intro _ h;omega
    rw[this]
   rw[cJ,eC,kA];rw[show dT (pieces ls) (x.p.l.gate+1) 0 1=(pieces ls).map (jw (x.p.l.gate+1) 0 1) from rfl,ad5 ko,Eb];rfl
  rw[e];exact main
 .intro w hw pw;obtain⟨o1,o2,o3,o4⟩:=oth w hw pw;rw[rk w pw];refine⟨?_,fun e=>?_⟩
  .by_cases c1:w.k.gate=(G:Int)+1
   .rw[if_pos ⟨c1,aa⟩,if_pos aa,if_neg aa];omega
   rw[if_neg aa,if_neg aa];by_cases c2:w.k.gate=(G:Int)
   .rw[if_pos aa];have:=o4 c2;have e3:w.k.gate.toNat=G:=aa;rw[e3] at o3 ⊢;omega
   rw[if_neg aa];omega
  rw[if_pos ⟨aa,aa⟩];omega
 .intro u hu v hv pu pv e1 e2;rw[rk u pu,rk v pv] at e2;obtain⟨_,o2,_⟩:=oth u hu pu;obtain⟨_,o3,_⟩:=oth v hv pv;split at e2<;>split at e2<;>omega
 intro f f' DY;have hf:f'=fun k j=>if k=G+1 then (if j=0 then f G (cg ls G-1) else f (G+1) (j-1)) else f k j:=by rcases DY with ⟨rfl,rfl⟩|⟨rfl,rfl⟩<;>rfl
 have iU:∀k,k<F->f k (cg ls k)=f (k+1) 0:=fun k hk=>by
  have:=c.gt k hk;rw[gY] at this;rcases DY with ⟨rfl,_⟩|⟨rfl,_⟩
  .exact this.1
  exact this.2
 have F5:f F (cg ls F)=f 0 0:=by
  have:=c.gz;rw[gY] at this;rcases DY with ⟨rfl,_⟩|⟨rfl,_⟩
  .exact this.1
  exact this.2
 rw[hf,gxn,rxn];refine⟨⟨?_,?_⟩,fun w hw pw=>?_,fun k hk=>?_,?_⟩
 .simp
 .simp[iU G aa]
 .obtain⟨o1,o2,o3,o4⟩:=oth w hw pw;rw[rk w pw];by_cases c1:w.k.gate=(G:Int)+1
  .have e1:w.k.gate.toNat=G+1:=aa;have e2:(w.k.aA+1).toNat=w.k.aA.toNat+1:=aa;have e3:w.k.aA.toNat≠0:=aa;rw[if_pos ⟨c1,aa⟩,e1,e2];simp[e3]
  have e1:w.k.gate.toNat≠G+1:=aa;rw[if_neg aa];simp[e1]
 .by_cases c1:k=G
  .subst c1;simp
  by_cases c2:k=G+1
  .subst c2;simp[iU _ hk]
  have:k+1≠G+1:=aa;simp[c1,c2,iU k hk]
 have hFG:F≠G:=aa;by_cases c2:F=G+1
 .rw[c2] at F5;simp[c2,F5]
 simp[hFG,c2,F5]
end
section
variable {F:Nat} {ls:List Let}
theorem XN(g:ct F ls){a:Nat}(ha:a<ls.length){L:List Pc}(h:C0 ls a=some L):Cert F L:=by
 have kM:=De ls;obtain⟨x,hx⟩:=aI (ls:=zF ls) (k:=a) aa;have ko:(pieces ls)[a]?=some x.p:=by rw[<- um,fX,hx];rfl
 have Ge:pA ls a=x.p:=iW ko;unfold C0 at h;rw[Ge] at h;split at h
 case isFalse=>cases h
 rename_i hc;simp only[bQ,beq_iff_eq,decide_eq_true_eq] at hc;obtain⟨h1,h2,h3⟩:=hc;cases h;have c:=g.cz;have px:x.k.ay=true:=by show(x.k.kind==1)=true;simp[h1]
 have gx:=((lU px).1 (c.ok x (aQ hx)).bad).1.1.1;have rx:=c.rr x (aQ hx) px;rw[gY] at rx;have h3:x.k.aA=1:=h3;have h2:0<x.k.gate:=h2;obtain⟨G,hG⟩:∃G:Nat,x.k.gate=((G+1:Nat):Int):=⟨x.k.gate.toNat-1,aa⟩;have gxn:x.k.gate.toNat=G+1:=by rw[hG];exact lJ _
 rw[gxn] at rx;have hz:=Nn hx;have je:(zF ls).Perm (x::((zF ls).take a++(zF ls).drop (a+1))):=by
  conv=>lhs;rw[hz]
  exact Hk
 have q:=c.q.perm je;have oth:∀w∈(zF ls).take a++(zF ls).drop (a+1),w.k.ay=true->(0<=w.k.gate/\w.k.gate<=(F:Int))/\1<=w.k.aA/\w.k.aA<=(cg ls w.k.gate.toNat:Int)/\(w.k.gate=((G+1:Nat):Int)->w.k.aA≠1):=fun w hw pw=>by have Gp:w∈zF ls:=je.mem_iff.2 (vN _ hw);have r1:=c.rr w Gp pw;rw[gY] at r1;refine⟨((lU pw).1 (c.ok w Gp).bad).1.1.1,r1.1,r1.2,fun e1 e2=>?_⟩;exact(jP.1 q.rk).1 w hw px pw (by rw[hG,e1]) (by rw[h3,e2])
 have rk:∀w:aG,w.k.ay=true->(ky ((G+1:Nat):Int) 1 (-1) w.k).aA=if w.k.gate=((G+1:Nat):Int)/\1<w.k.aA then w.k.aA-1 else w.k.aA:=fun w pw=>by rw[Qe pw];rfl
 have rxn:x.k.aA.toNat=1:=by rw[h3];rfl
 have main:=X0 g hx px (G:=G+1) (G':=G) hG aa aa (g':=((G+1:Nat):Int)) (ab:=1) (fZ:= -1) (oG:=((cg ls G+1:Nat):Int))
  (T':=fun k j=>if k=G+1 then TF ls (G+1) (j+1) else if k=G then (if j<=cg ls G then TF ls G j else TF ls (G+1) 1) else TF ls k j)
  (B':=fun k j=>if k=G+1 then BF ls (G+1) (j+1) else if k=G then (if j<=cg ls G then BF ls G j else BF ls (G+1) 1) else BF ls k j) ?_ ?_ ⟨aa,aa⟩ ?_
 .have Eb:x.p.l.gate=((G+1:Nat):Int):=hG;have wN:x.p.l.gate-1=(G:Int):=by rw[Eb];omega
  have e:tm (dT (pieces ls) x.p.l.gate 1 (-1)) a (x.p.l.gate-1) ((cg ls (x.p.l.gate-1).toNat+1:Nat):Int)=((pieces ls).take a).map (jw ((G+1:Nat):Int) 1 (-1))++⟨{x.k with gate:=(G:Int),aA:=((cg ls G+1:Nat):Int)},x.p.d⟩::((pieces ls).drop (a+1)).map (jw ((G+1:Nat):Int) 1 (-1)):=by
   unfold tm;have eC:(dT (pieces ls) x.p.l.gate 1 (-1))[a]?=some x.p:=by
    show((pieces ls).map _)[a]?=_;rw[fX,ko];show some (jw _ _ _ x.p)=_;rw[Nj];congr 1;have:ky x.p.l.gate 1 (-1) x.p.l=x.p.l:=by unfold ky;rw[if_neg];simp only[bQ,beq_iff_eq,decide_eq_true_eq,not_and];intro _ _ h;have qo:x.p.l.aA=1:=h3;omega
    rw[this]
   rw[cJ,eC,kA];rw[show dT (pieces ls) x.p.l.gate 1 (-1)=(pieces ls).map (jw x.p.l.gate 1 (-1)) from rfl,ad5 ko,wN,Eb,lJ]
  rw[e];exact main
 .intro w hw pw;obtain⟨o1,o2,o3,o4⟩:=oth w hw pw;rw[rk w pw];refine⟨?_,fun e=>?_⟩
  .by_cases c1:w.k.gate=((G+1:Nat):Int)
   .have:=o4 c1;rw[if_pos ⟨c1,aa⟩,if_neg aa,if_pos aa];omega
   rw[if_neg aa,if_neg (show ¬w.k.gate.toNat=G+1 by omega)];split<;>omega
  rw[if_neg aa];have e3:w.k.gate.toNat=G:=aa;rw[e3] at o3;omega
 .intro u hu v hv pu pv e1 e2;rw[rk u pu,rk v pv] at e2;obtain⟨_,o2,_,o4⟩:=oth u hu pu;obtain⟨_,o3,_,o5⟩:=oth v hv pv;by_cases c1:u.k.gate=((G+1:Nat):Int)
  .have n1:=o4 c1;have n2:=o5 (by rw[<- e1,c1]);rw[if_pos ⟨c1,aa⟩,if_pos ⟨by rw[<- e1,c1],aa⟩] at e2;omega
  rw[if_neg aa,if_neg (by rw[<- e1];omega)] at e2;exact e2
 intro f f' DY;have hf:f'=fun k j=>if k=G+1 then f (G+1) (j+1) else if k=G then (if j<=cg ls G then f G j else f (G+1) 1) else f k j:=by rcases DY with ⟨rfl,rfl⟩|⟨rfl,rfl⟩<;>rfl
 have iU:∀k,k<F->f k (cg ls k)=f (k+1) 0:=fun k hk=>by
  have:=c.gt k hk;rw[gY] at this;rcases DY with ⟨rfl,_⟩|⟨rfl,_⟩
  .exact this.1
  exact this.2
 have F5:f F (cg ls F)=f 0 0:=by
  have:=c.gz;rw[gY] at this;rcases DY with ⟨rfl,_⟩|⟨rfl,_⟩
  .exact this.1
  exact this.2
 have zo:G<F:=aa;have ff:1<=cg ls (G+1):=aa;have v1:∀j,f' (G+1) j=f (G+1) (j+1):=fun j=>by rw[hf];exact if_pos rfl
 have v2:∀j,j<=cg ls G->f' G j=f G j:=fun j hj=>by rw[hf];show(if G=G+1 then _ else if G=G then (if j<=cg ls G then f G j else f (G+1) 1) else f G j)=_;rw[if_neg aa,if_pos rfl,if_pos hj]
 have v3:f' G (cg ls G+1)=f (G+1) 1:=by rw[hf];show(if G=G+1 then _ else if G=G then (if cg ls G+1<=cg ls G then f G (cg ls G+1) else f (G+1) 1) else f G (cg ls G+1))=_;rw[if_neg aa,if_pos rfl,if_neg aa]
 have v4:∀k j,k≠G->k≠G+1->f' k j=f k j:=fun k j h1 h2=>by rw[hf];show(if k=G+1 then _ else if k=G then _ else f k j)=_;rw[if_neg h2,if_neg h1]
 have v0:∀k,k≠G+1->f' k 0=f k 0:=fun k h=>by
  by_cases c:k=G
  .subst c;exact v2 0 (aY _)
  exact v4 k 0 c h
 have ec:cg ls (G+1)-1+1=cg ls (G+1):=aa;rw[gxn,rxn,lJ];refine⟨⟨?_,?_⟩,fun w hw pw=>?_,fun k hk=>?_,?_⟩
 .rw[Hl,v2 _ (aZ _),iU G zo]
 .exact v3.symm
 .obtain⟨o1,o2,o3,o4⟩:=oth w hw pw;rw[rk w pw];by_cases c1:w.k.gate=((G+1:Nat):Int)
  .have n1:=o4 c1;have e1:w.k.gate.toNat=G+1:=aa;have e2:(w.k.aA-1).toNat-1+1=w.k.aA.toNat-1:=aa;have e3:(w.k.aA-1).toNat+1=w.k.aA.toNat:=aa;rw[if_pos ⟨c1,aa⟩,e1,v1,v1,e2,e3];exact⟨rfl,rfl⟩
  have e1:w.k.gate.toNat≠G+1:=aa;rw[if_neg aa];by_cases c2:w.k.gate.toNat=G
  .rw[c2] at o3 ⊢;rw[v2 _ aa,v2 _ aa];exact⟨rfl,rfl⟩
  rw[v4 _ _ c2 e1,v4 _ _ c2 e1];exact⟨rfl,rfl⟩
 .by_cases c1:k=G+1
  .subst c1;rw[if_neg aa,if_pos rfl,v1,show cg ls (G+1)+0-1+1=cg ls (G+1) by omega,v0 _ aa,iU _ hk]
  rw[if_neg c1,Nat.sub_zero];by_cases c2:k=G
  .subst c2;rw[if_pos rfl,v3,v1]
  rw[if_neg c2,rA,v4 _ _ c2 c1,v0 _ aa,iU k hk]
 rw[v0 0 aa];have hFG:F≠G:=aa;rw[if_neg hFG,rA];by_cases c2:F=G+1
 .rw[if_pos c2];rw[c2] at F5 ⊢;rw[v1,ec,F5]
 rw[if_neg c2,Nat.sub_zero,v4 _ _ hFG c2,F5]
end
theorem X4.OC{g:Bool}{i o j q:dz}(h:X4 g i o j q):X4 (!g) (ke o) (ke i) j q:=by obtain⟨a,b,c,d⟩:=h;cases g<;>simp only[eY,if_false,if_true] at a b c d<;>constructor<;>simp[ke,a,b,c,d]
theorem X4.OD{g:Bool}{i o j q:dz}(h:X4 g i o j q):X4 (!g) i o (ke q) (ke j):=by obtain⟨a,b,c,d⟩:=h;cases g<;>simp only[eY,if_false,if_true] at a b c d<;>constructor<;>simp[ke,a,b,c,d]
def fv(f:Bool)(x:aG):dz:=if f then x.i else ke x.o
def iB(f:Bool)(x:aG):dz:=if f then x.o else ke x.i
theorem QL{f f':Bool}{x y:aG}:X4 true (fv f x) (iB f x) (fv f' y) (iB f' y)↔X4 (f==f') x.i x.o y.i y.o:=by
 cases f<;>cases f'<;>simp only[fv,iB,eY,if_false,if_true]
 .exact⟨fun h=>h.OC.OD,fun h=>h.OC.OD⟩
 .exact⟨fun h=>h.OC,fun h=>h.OC⟩
 .exact⟨fun h=>h.OD,fun h=>h.OD⟩
 exact Iff.rfl
def oT (n d:Nat):Nat:=if d%2=0 then d/2 else (d/2+1)%n
def oH (n d:Nat):Nat:=if d%2=0 then (d/2+1)%n else d/2
def bd(d:Nat):Bool:=d%2==0
section
variable {F:Nat} {ls:List Let}
def bZ(P:List Pc)(sd:Nat->dz)(i:Nat):aG:=⟨P.getD i ⟨kP,false⟩,sd ((i+P.length-1)%P.length),sd i⟩
def zG (P:List Pc)(sd:Nat->dz):List aG:=(List.range P.length).map (bZ P sd)
theorem afw(P:List Pc)(sd:Nat->dz):(zG P sd).map aG.p=P:=by
 unfold zG;rw[qH];apply xx;intro i;rw[fX];by_cases hi:i<P.length
 .obtain⟨p,hp⟩:=aI hi;rw[tu hi,hp];show some (P.getD i _)=_;rw[cJ,hp];rfl
 rw[mS (by rw[vM];omega),mS aa];rfl
theorem arY(P:List Pc)(sd:Nat->dz)(h:0<P.length):∃s,hY s (zG P sd) s:=by
 refine⟨sd (P.length-1),?_⟩;have:=ade (bZ P sd) (fun i=>sd ((i+P.length-1)%P.length)) P.length 0 fun i _ hi=>⟨rfl,?_⟩
 .simp only[jc] at this;rw[fK aa,show P.length+P.length-1=(P.length-1)+P.length by omega,uX,fK aa,<- List.range_eq_range'] at this;exact this
 show sd i=sd ((i+1+P.length-1)%P.length);rw[show i+1+P.length-1=i+P.length by omega,uX,fK aa]
theorem XZ(g:ct F ls){P:List Pc}{sd:Nat->dz}{T' B':Nat->Nat->Nat}{tau:Nat}(hl:P.length=ls.length)
  (hC:au Let.aw (P.map Pc.l)=au Let.aw ls) (hP:au Let.ay (P.map Pc.l)=au Let.ay ls) (hG:∀k,cg (P.map Pc.l) k=cg ls k)
  (ok:∀i,i<ls.length->vz F (bZ P sd i)) (cr:∀i j,i<ls.length->j<ls.length->i≠j->Xr (bZ P sd i) (bZ P sd j)) (rk:∀i j,i<ls.length->j<ls.length->i≠j->Dr (bZ P sd i) (bZ P sd j))
  (ids:∀i,i<ls.length->(bZ P sd i).k.aw=true->1<=(bZ P sd i).k.id/\(bZ P sd i).k.id<=((au Let.aw ls/2:Nat):Int))
  (rr:∀i,i<ls.length->(bZ P sd i).k.ay=true->1<=(bZ P sd i).k.aA/\(bZ P sd i).k.aA<=(cg ls (bZ P sd i).k.gate.toNat:Int))
  (pl:∀i,i<ls.length->(bZ P sd i).k.ay=true->A6 T' B' (bZ P sd i))
  (gt:∀k,k<F->T' k (cg ls k)=T' (k+1) 0/\B' k (cg ls k)=B' (k+1) 0) (gz:T' F (cg ls F)=T' 0 0/\B' F (cg ls F)=B' 0 0)
  (wit:∀j,j<ls.length->∀t,(t=(kS ls j).l\/t=(kS ls j).r)->t=tau\/ ∃j',j'<ls.length/\(t=(sd j').l\/t=(sd j').r)):Cert F P:=by
 have hn:0<ls.length:=iR.2 g.ne;have iV:aM (zG P sd)=P.map Pc.l:=by
  show(zG P sd).map (fun x=>x.p.l)=_;have:(zG P sd).map (fun x=>x.p.l)=((zG P sd).map aG.p).map Pc.l:=by rw[qH];rfl
  rw[this,afw]
 have mem:∀x∈zG P sd,∃i,i<ls.length/\x=bZ P sd i:=fun x hx=>by obtain⟨i,hi,rfl⟩:=dr.1 hx;exact⟨i,by have:=fk.1 hi;omega,rfl⟩
 have inz:∀i,i<ls.length->bZ P sd i∈zG P sd:=fun i hi=>dr.2 ⟨i,fk.2 aa,rfl⟩;have q:Cq F (zG P sd) T' B':=by
  refine⟨fun x hx=>?_,PD fun i j hi hj fQ=>cr i j aa aa fQ,?_,fun x hx hc=>?_,PD fun i j hi hj fQ=>rk i j aa aa fQ,fun x hx hp=>?_,fun x hx hp=>?_,fun k hk=>?_,?_⟩
  .obtain⟨i,hi,rfl⟩:=mem x hx;exact ok i hi
  .rw[iV,hC];have:=g.cz.ev;rwa[gY] at this
  .obtain⟨i,hi,rfl⟩:=mem x hx;rw[iV,hC];exact ids i hi hc
  .obtain⟨i,hi,rfl⟩:=mem x hx;rw[iV,hG];exact rr i hi hp
  .obtain⟨i,hi,rfl⟩:=mem x hx;exact pl i hi hp
  .rw[iV,hG];exact gt k hk
  rw[iV,hG];exact gz
 refine⟨zG P sd,T',B',(List.range (eN ls)).filter (fun s=> ![tau].contains s),afw P sd,⟨arY P sd aa,q.ok,q.cr,q.ev,q.ids,q.rk,q.rr,q.pl,q.gt,q.gz,?_,Dl.filter _,fun s hs=>?_,?_⟩⟩
 .have:0<au Let.ay (P.map Pc.l):=by
   rw[hP];obtain⟨l,h1,h2⟩:=g.first;exact Bp.2 ⟨l,aQ h1,h2⟩
  rw[<- iV] at this;obtain⟨l,h1,h2⟩:=Bp.1 this;obtain⟨x,hx,rfl⟩:=dr.1 h1;exact⟨x,hx,h2⟩
 .obtain⟨h1,h2⟩:=tv.1 hs;have h2:s≠tau:=by simpa using h2
  obtain⟨x,hx,e⟩:=g.cz.wit s h1;obtain⟨j,hj,rfl⟩:=dr.1 hx;have hj:=fk.1 hj;rcases wit j hj s e with h|⟨j',hj',h⟩
  .exact absurd h h2
  exact⟨bZ P sd j',inz j' hj',h⟩
 rw[iV,hC,hP];have h1:=Z2 (L:=[tau]) (Dl (n:=eN ls));have h2:=g.nw;rw[vM] at h1;simp only[cE,dQ] at h1;omega
theorem MV(g:ct F ls){d:Nat}(hd:d<2*ls.length):oT ls.length d<ls.length:=by
 unfold oT;split
 .omega
 exact dw _ (iR.2 g.ne)
theorem Jw(g:ct F ls){d:Nat}(hd:d<2*ls.length):oH ls.length d<ls.length:=by
 unfold oH;split
 .exact dw _ (iR.2 g.ne)
 omega
theorem Rx{d:Nat}(hd:d<2*ls.length):d=gQ ls.length (oH ls.length d) (bd d):=by have:=Ky hd;unfold oH bd;exact this
theorem N7{f:Bool}(hv:v<n):oT n (dk n v f)=v/\bd (dk n v f)=f:=by
 unfold oT bd dk;cases f
 .simp only[eY,if_false];have e1:(2*((v+n-1)%n)+1)%2=1:=aa;have e2:(2*((v+n-1)%n)+1)/2=(v+n-1)%n:=aa;rw[e1,e2,xe hv];exact⟨rfl,rfl⟩
 simp only[if_true];have e1:(2*v)%2=0:=aa;have e2:(2*v)/2=v:=aa;rw[e1,e2];exact⟨rfl,rfl⟩
def oK (ls:List Let)(d:Nat):dz:=if d%2=0 then kS ls (d/2) else ke (kS ls (d/2))
theorem IG{d:Nat}(hd:d<2*ls.length):fv (bd d) (dA ls (oH ls.length d))=oK ls d:=by
 unfold fv bd oH oK dA;rcases sH d with h|h
 .simp only[h,beq_self_eq_true,if_true];rw[EL aa]
 simp[h]
theorem JY{d:Nat}(hd:d<2*ls.length):iB (bd d) (dA ls (oT ls.length d))=oK ls d:=by
 unfold iB bd oT oK dA;rcases sH d with h|h
 .simp[h]
 simp only[h,show((1:Nat)==0)=false from rfl,eY,if_false,Nat.one_ne_zero];rw[EL aa]
theorem HU(g:ct F ls){d:Nat}(hd:d<2*ls.length){l:Let}(hl:ls[oH ls.length d]?=some l)(hc:l.aw=true):aO ls d<2*ls.length/\oT ls.length (aO ls d)=fH ls (oH ls.length d)/\gX l=(bd d==bd (aO ls d))/\
  X4 true (fv (bd d) (dA ls (oH ls.length d))) (iB (bd d) (dA ls (oH ls.length d))) (fv (bd (aO ls d)) (dA ls (oT ls.length (aO ls d)))) (iB (bd (aO ls d)) (dA ls (oT ls.length (aO ls d)))):=by
 have ok:=g.ok;have hv:=Jw g hd;obtain⟨b1,m,hm,mc,mi,mo,ms⟩:=pW ok.cr hl hc;have ho:=(aV.1 hm).1;have e:aO ls d=dk ls.length (fH ls (oH ls.length d)) (bd d==gX l):=by
  conv=>lhs;rw[Rx hd]
  rw[yE hl hc];rfl
 obtain⟨a1,a2⟩:=N7 (n:=ls.length) (f:=(bd d==gX l)) ho;have aK:oH ls.length d≠fH ls (oH ls.length d):=by intro ee;rw[<- ee,hl] at hm;have:=rB hm;rw[<- this] at mo;revert mo;cases l.over<;>simp
 have hg:gX l=(bd d==(bd d==gX l)):=by cases bd d<;>cases gX l<;>rfl
 rw[e,a1,a2];refine⟨?_,rfl,hg,?_⟩
 .have:=yR ho (!(bd d==gX l));rw[<- xk] at this;have:=vG this;rwa[vH] at this
 rw[QL,<- hg];have:=(KS g hv ho aK (by rw[dU hl];exact hc) (by rw[dU hm];exact mc) (by rw[dU hl,dU hm];exact mi.symm)).x4;rwa[dU hl] at this
theorem Fb{l:List Pc}(hl:l.length=ls.length){e:Nat}(he:e<ls.length)(i:Nat):(fU ls l e)[i]?=if i=nx ls e then l[e]? else if i=e then l[nx ls e]? else l[i]? :=by
 have hn:nx ls e<ls.length:=dw _ aa;obtain⟨p,hp⟩:=aI (ls:=l) (k:=e) aa;obtain⟨q,hq⟩:=aI (ls:=l) (k:=nx ls e) aa;unfold fU;rw[mT,mT,cJ,cJ,hp,hq,nX];by_cases c1:i=nx ls e
 .subst c1;rw[if_pos rfl,if_pos aa,if_pos rfl];rfl
 rw[if_neg (Ne.symm c1),if_neg c1];by_cases c2:i=e
 .subst c2;rw[if_pos rfl,if_pos aa,if_pos rfl];rfl
 rw[if_neg (Ne.symm c2),if_neg c2]
theorem arD(g:ct F ls){w:List Nat}(hw:w∈fV (aO ls) (nD ls)){Q:Nat->Prop}(h1:∀x,x<nD ls->(Q (aO ls x)↔Q x)){x y:Nat}(hx:x∈w)(hy:y∈w):Q x↔Q y:=by
 have e:=Qy (maps g.ok) (R:=gr (nD ls) (aO ls)) (fun z hz=>.rel ⟨hz,rfl⟩) hw hx hy;have:=e.inv (f:=fun x=>Q x) fun a b r=>by obtain⟨ha,rfl⟩:=r;exact propext (h1 a ha).symm
 exact Eq.to_iff this
end
theorem aqJ:∀(L M:List Int),L.Nodup->(∀x∈L,x∈M)->L.length<=M.length:=by
 intro L
 induction L with
 |nil=>intro M _ _;exact aY _
 |cons a L ih=>intro M hn hs;obtain⟨h1,h2⟩:=nY.1 hn;have ha:=hs a af;have:=ih (M.erase a) h2 fun x hx=>(List.mem_erase_of_ne (by rintro rfl;exact h1 hx)).2 (hs x (by simp[hx]));rw[List.length_erase_of_mem ha] at this;have:0<M.length:=NF ha;simp only[cE];omega
theorem aii:∀l:List Int,(nc l).Nodup:=by
 intro l
 induction l with
 |nil=>exact tz
 |cons a l ih=>
  unfold nc;split
  .exact ih
  rename_i h;exact nY.2 ⟨fun hm=>h (N8.1 hm),ih⟩
theorem aij{l:List Int}:(nc l).length=l.length->l.Nodup:=by
 induction l with
 |nil=>intro _;exact tz
 |cons a l ih=>
  have hle:(nc l).length<=l.length:=aqJ _ _ (aii l) fun x hx=>N8.1 hx;unfold nc;rw[nY];split
  .intro e;simp only[cE] at e;omega
  rename_i h;simp only[cE];intro e;exact⟨h,ih aa⟩
theorem N3{p:Pc->Bool}{l:List Pc}{i:Nat}{x y:Pc}(h:l[i]?=some x):(l.set i y).countP p+(if p x then 1 else 0)=l.countP p+(if p y then 1 else 0):=by
 have e:=Nn h;have hl:=(aV.1 h).1;have e2:l.set i y=l.take i++y::l.drop (i+1):=by
  conv=>lhs;rw[e]
  rw[List.set_append_right _ _ (by rw[fJ];omega),fJ,yK aa,Nat.sub_self];rfl
 rw[e2]
 conv=>rhs;rw[e]
 rw[uU,uU,uV,uV];omega
section
variable {F:Nat} {ls:List Let}
theorem JX{l:List Pc}(hl:l.length=ls.length){e:Nat}(he:e<ls.length)(aK:e≠nx ls e)(p:Pc->Bool):(fU ls l e).countP p=l.countP p:=by
 have hn:nx ls e<ls.length:=dw _ aa;obtain⟨x,hx⟩:=aI (ls:=l) (k:=e) aa;obtain⟨y,hy⟩:=aI (ls:=l) (k:=nx ls e) aa;unfold fU;rw[cJ,cJ,hx,hy];simp only[kA];have h1:=N3 (p:=p) (y:=y) hx;have h2:(l.set e y)[nx ls e]?=some y:=by rw[mT,if_neg aK];exact hy
 have h3:=N3 (p:=p) (y:=x) h2;omega
theorem GD(g:ct F ls){e:Nat}(he:e<ls.length):e≠nx ls e:=by
 have h2:2<=ls.length:=by obtain⟨l,h1,hp⟩:=g.first;have:=g.even;have:0<au Let.ay ls:=Bp.2 ⟨l,aQ h1,hp⟩;have:=sM Let.ay ls;omega
 unfold nx;by_cases c:e+1<ls.length
 .rw[fK c];omega
 rw[show e+1=ls.length by omega,xz];omega
theorem Vj(p:Let->Bool):au p ((pieces ls).map Pc.l)=au p ls:=by
 have:(pieces ls).map Pc.l=ls:=by
  have h:=gY ls;rw[<- h];have e:aM (zF ls)=((zF ls).map aG.p).map Pc.l:=by rw[qH];rfl
  rw[h,<- um,<- e,h]
 rw[this]
theorem JP(g:ct F ls){i:Nat}{l m:Let}(hl:ls[i]?=some l)(hm:ls[j]?=some m)(hc:l.aw=true)(mc:m.aw=true)(e:l.id=m.id)(fQ:i≠j):fH ls i=j:=by obtain⟨_,hp⟩:=g.ids;obtain⟨d1,_⟩:=hp i j l m hl hm hc mc e fQ;obtain⟨b1,w,hw,wc,wi,wo,ws⟩:=pW g.ok.cr hl hc;refine Classical.byContradiction fun aK=>?_;have d3:=(hp _ _ w m hw hm wc mc (by rw[wi,e]) aK).1;rw[wo] at d3;revert d1 d3;cases l.over<;>cases m.over<;>simp
theorem aqV(g:ct F ls){w:List Nat}(hw:w∈fV (aO ls) (nD ls)){p q r:Nat}(hp:p∈w)(hq:q∈w)(hr:r∈w)(pq:p≠q)(pr:p≠r)(qr:q≠r)(lp:p<nD ls)(lq:q<nD ls)(lr:r<nD ls)
  (np:aO ls p=p\/aO ls p=q\/aO ls p=r) (nq:aO ls q=p\/aO ls q=q\/aO ls q=r) (nr:aO ls r=p\/aO ls r=q\/aO ls r=r):
  (aO ls p=q/\aO ls q=r/\aO ls r=p)\/(aO ls p=r/\aO ls r=q/\aO ls q=p):=by
 have inj:=(maps g.ok).inj;have i1:aO ls p≠aO ls q:=fun e=>pq (inj _ _ lp lq e);have i2:aO ls p≠aO ls r:=fun e=>pr (inj _ _ lp lr e);have i3:aO ls q≠aO ls r:=fun e=>qr (inj _ _ lq lr e);have one:∀x y,x∈w->y∈w->x≠y->x<nD ls->aO ls x≠x:=fun x y hx hy kr lx e=>by have:=arD g hw (Q:=fun t=>t=x) (fun t ht=>⟨fun h=>inj _ _ ht lx (by rw[h,e]),fun h=>by rw[h,e]⟩) hx hy;exact kr (this.1 rfl).symm
 have n1:=one p q hp hq pq lp;have n2:=one q p hq hp (Ne.symm pq) lq;have n3:=one r p hr hp (Ne.symm pr) lr;omega
theorem RR{d i:Nat}:(i≠oT n d/\i≠oH n d)↔(i≠d/2/\i≠(d/2+1)%n):=by
 unfold oT oH;split
 .exact Iff.rfl
 exact And.comm
theorem Ry{d d':Nat}(h:d/2≠d'/2/\d/2≠(d'/2+1)%n/\(d/2+1)%n≠d'/2/\(d/2+1)%n≠(d'/2+1)%n):oT n d≠oT n d'/\oT n d≠oH n d'/\oH n d≠oT n d'/\oH n d≠oH n d':=by
 obtain⟨h1,h2,h3,h4⟩:=h;unfold oT oH;split<;>split
 .exact⟨h1,h2,h3,h4⟩
 .exact⟨h2,h1,h4,h3⟩
 .exact⟨h3,h4,h1,h2⟩
 exact⟨h4,h3,h2,h1⟩
theorem Rz{d:Nat}(h:d/2≠(d/2+1)%n):oT n d≠oH n d:=by
 unfold oT oH;split
 .exact h
 exact h.symm
def uo (f:Bool)(s:dz):dz:=if f then s else ke s
theorem Jd(f:Bool)(x:aG):(fv f x).b=if f then x.i.b else x.o.b:=by cases f<;>rfl
theorem Jy(f:Bool)(x:aG):(iB f x).b=if f then x.o.b else x.i.b:=by cases f<;>rfl
theorem KT{P:List Pc}{sd:Nat->dz}{d:Nat}{k':dz}(hP:P.length=ls.length)(hd:d<2*ls.length)(hk:sd (d/2)=uo (bd d) k')(h1:sd ((d/2+ls.length-1)%ls.length)=kS ls ((d/2+ls.length-1)%ls.length))(h2:sd (nx ls (d/2))=kS ls (nx ls (d/2))):
  fv (bd d) (bZ P sd (oT ls.length d))=fv (bd d) (dA ls (oT ls.length d))/\iB (bd d) (bZ P sd (oT ls.length d))=k'/\fv (bd d) (bZ P sd (oH ls.length d))=k'/\iB (bd d) (bZ P sd (oH ls.length d))=iB (bd d) (dA ls (oH ls.length d)):=by
 unfold nx at h2;unfold fv iB bZ dA oT oH;unfold bd at hk ⊢;rw[hP];rcases sH d with h|h
 .simp only[h,beq_self_eq_true,if_true] at hk ⊢;rw[EL aa,hk,h1,h2];exact⟨rfl,rfl,rfl,rfl⟩
 simp only[h,show((1:Nat)==0)=false from rfl,eY,if_false,Nat.one_ne_zero] at hk ⊢;rw[EL aa,hk,h1,h2];exact⟨rfl,rfl,rfl,rfl⟩
theorem YN{P:List Pc}{sd:Nat->dz}{i:Nat}(hP:P.length=ls.length)(hi:i<ls.length)(hp:P[i]?=(pieces ls)[i]?)(h1:sd ((i+ls.length-1)%ls.length)=kS ls ((i+ls.length-1)%ls.length))(h2:sd i=kS ls i):bZ P sd i=dA ls i:=by
 have:P.getD i ⟨kP,false⟩=⟨ls.getD i kP,iE ls i⟩:=by obtain⟨l,hl⟩:=aI hi;rw[cJ,hp,nL hl,cJ,hl];rfl
 unfold bZ dA;rw[hP,h1,h2,this]
theorem Ij{P:List Pc}{sd:Nat->dz}{i:Nat}(hj:j<ls.length)(hp:P[i]?=(pieces ls)[j]?):(bZ P sd i).p=(dA ls j).p:=by obtain⟨l,hl⟩:=aI hj;show P.getD i _=⟨ls.getD j kP,iE ls j⟩;rw[cJ,hp,nL hl,cJ,hl];rfl
theorem XX(g:ct F ls){a b c:Nat}(ha:a<ls.length)(hb:b<ls.length)(hc:c<ls.length){L:List Pc}(h:zX F ls a b c=some L):Cert F L:=by
 unfold zX at h;split at h
 case isFalse=>cases h
 rename_i ht;cases h;unfold JZ at ht;simp only[bQ,beq_iff_eq] at ht;obtain⟨dX,h6,_,_,_,ID⟩:=ht;have hn:0<ls.length:=iR.2 g.ne;have bh:=eW ls;have ok:=g.ok
 -- six letters
 have im:(vI ls [a,b,c]).Nodup:=aij (by rw[h6];rfl);have im:(([a,nx ls a,b,nx ls b,c,nx ls c]:List Nat).map fun i:Nat=>(i:Int)).Nodup:=im;have six:a≠nx ls a/\a≠b/\a≠nx ls b/\a≠c/\a≠nx ls c/\nx ls a≠b/\nx ls a≠nx ls b/\nx ls a≠c/\nx ls a≠nx ls c/\b≠nx ls b/\b≠c/\b≠nx ls c/\nx ls b≠c/\nx ls b≠nx ls c/\c≠nx ls c:=by simp only[dG,lK,nY,cT,hJ,or_false,not_or,tz,and_true,not_false_eq_true] at im;omega
 have crs:∀e∈[a,b,c],∃l m,ls[e]?=some l/\ls[nx ls e]?=some m/\l.aw=true/\m.aw=true:=fun e he=>by
  have h1:=iC.1 dX e he;have di:e<ls.length:=by simp only[cT,hJ,or_false] at he;rcases he with rfl|rfl|rfl<;>assumption
  obtain⟨l,hl⟩:=aI di;obtain⟨m,hm⟩:=aI (ls:=ls) (k:=nx ls e) (dw _ hn);have e1:pA ls e=⟨l,iE ls e⟩:=iW (nL hl);have e2:pA ls (nx ls e)=⟨m,iE ls (nx ls e)⟩:=iW (nL hm);unfold y7 at h1;rw[e1,e2,bQ] at h1;exact⟨l,m,hl,hm,h1.1,h1.2⟩
 obtain⟨w,hw,_,hlen,hE⟩:=Rn g ha ID;obtain⟨da,v7,uD,za⟩:=hE a af;obtain⟨db,xK,u6,zb⟩:=hE b af;obtain⟨dc,dc1,H0,Ia⟩:=hE c af;have hN:∀d,d<2*ls.length->d<nD ls:=fun d hd=>by unfold nD;omega
 have three:∀d,d∈w->d<2*ls.length->d=da\/d=db\/d=dc:=fun d h1 h2=>by
  have inD:∀d,d∈w->d<2*ls.length->d∈w.filter fun x=>decide (x<2*ls.length):=fun d h1 h2=>tv.2 ⟨h1,by simpa using h2⟩;have q1:=inD da v7 uD;have q2:=inD db xK u6;have q3:=inD dc dc1 H0;have q4:=inD d h1 h2;generalize w.filter (fun x=>decide (x<2*ls.length))=D at hlen q1 q2 q3 q4
  match D,hlen with
  |[x,y,z],_=>simp only[cT,hJ,or_false] at q1 q2 q3 q4;have:=six.2.1;have:=six.2.2.2.1;have:=six.2.2.2.2.2.2.2.2.2.2.1;omega
 have LU:∀d,d<2*ls.length->d/2∈[a,b,c]->∃l,ls[oH ls.length d]?=some l/\l.aw=true:=fun d hd he=>by
  obtain⟨l,m,h1,h2,h3,h4⟩:=crs _ he;unfold oH;split
  .exact⟨m,h2,h4⟩
  exact⟨l,h1,h3⟩
 have step:∀d,d∈w->d<2*ls.length->d/2∈[a,b,c]->aO ls d=da\/aO ls d=db\/aO ls d=dc:=fun d hd hl he=>by obtain⟨l,h1,h2⟩:=LU d hl he;exact three _ (Bo (maps ok) hw hd) (HU g hl h1 h2).1
 have round:∃d1 d2 d3,d1<2*ls.length/\d2<2*ls.length/\d3<2*ls.length/\aO ls d1=d2/\aO ls d2=d3/\aO ls d3=d1/\((d1/2=a/\d2/2=b/\d3/2=c)\/(d1/2=a/\d2/2=c/\d3/2=b)):=by
  have nab:da≠db:=fun e=>six.2.1 (by rw[<- za,<- zb,e]);have nac:da≠dc:=fun e=>six.2.2.2.1 (by rw[<- za,<- Ia,e]);have nbc:db≠dc:=fun e=>six.2.2.2.2.2.2.2.2.2.2.1 (by rw[<- zb,<- Ia,e]);rcases aqV g hw v7 xK dc1 nab nac nbc (hN _ uD) (hN _ u6) (hN _ H0) (step da v7 uD (by rw[za];simp)) (step db xK u6 (by rw[zb];simp)) (step dc dc1 H0 (by rw[Ia];simp)) with ⟨h1,h2,h3⟩|⟨h1,h2,h3⟩
  .exact⟨da,db,dc,uD,u6,H0,h1,h2,h3,.inl ⟨za,zb,Ia⟩⟩
  exact⟨da,dc,db,uD,H0,u6,h1,h2,h3,.inr ⟨za,Ia,zb⟩⟩
 clear three step hE hlen v7 uD za xK u6 zb dc1 H0 Ia hw ID;clear im dX h6;obtain⟨d1,d2,d3,l1,l2,l3,s1,s2,s3,je⟩:=round
 -- the new pieces
 have ina:a∈[a,b,c]:=af;have inb:b∈[a,b,c]:=af;have inc:c∈[a,b,c]:=af;have DR:(iY ls (pieces ls) [a,b,c]).length=ls.length:=by rw[Fe,bh]
 have vm:∀i,(iY ls (pieces ls) [a,b,c])[i]?=if i=nx ls c then (pieces ls)[c]? else if i=c then (pieces ls)[nx ls c]? else if i=nx ls b then (pieces ls)[b]? else if i=b then (pieces ls)[nx ls b]? else if i=nx ls a then (pieces ls)[a]? else if i=a then (pieces ls)[nx ls a]? else (pieces ls)[i]? :=fun i=>by
  show(fU ls (fU ls (fU ls (pieces ls) a) b) c)[i]?=_;have e1:(fU ls (pieces ls) a).length=ls.length:=by rw[CZ,bh]
  have e2:(fU ls (fU ls (pieces ls) a) b).length=ls.length:=by rw[CZ,e1]
  simp only[Fb e2 hc,Fb e1 hb,Fb bh ha];obtain⟨x1,x2,x3,x4,x5,x6,x7,x8,x9,G9,Kh,Ki,Kj,Kk,Nz⟩:=six;simp only[x2.symm,x3.symm,x4.symm,x5.symm,x6.symm,x7.symm,x8.symm,x9.symm,Kh.symm,Ki.symm,Kj.symm,Kk.symm,if_false]
 have sU:∀p:Pc->Bool,(iY ls (pieces ls) [a,b,c]).countP p=(pieces ls).countP p:=fun p=>by
  show(fU ls (fU ls (fU ls (pieces ls) a) b) c).countP p=_;have e1:(fU ls (pieces ls) a).length=ls.length:=by rw[CZ,bh]
  have e2:(fU ls (fU ls (pieces ls) a) b).length=ls.length:=by rw[CZ,e1]
  rw[JX e2 hc six.2.2.2.2.2.2.2.2.2.2.2.2.2.2,JX e1 hb six.2.2.2.2.2.2.2.2.2.1,JX bh ha six.1]
 generalize iY ls (pieces ls) [a,b,c]=P at DR vm sU;obtain⟨x1,x2,x3,x4,x5,x6,x7,x8,x9,G9,Kh,Ki,Kj,Kk,Nz⟩:=six;have pa:P[a]?=(pieces ls)[nx ls a]? /\P[nx ls a]?=(pieces ls)[a]? :=by
  constructor
  .rw[vm];simp only[x1,x2,x3,x4,x5,if_false,if_true]
  rw[vm];simp only[x6,x7,x8,x9,if_false,if_true]
 have pb:P[b]?=(pieces ls)[nx ls b]? /\P[nx ls b]?=(pieces ls)[b]? :=by
  constructor
  .rw[vm];simp only[G9,Kh,Ki,if_false,if_true]
  rw[vm];simp only[Kj,Kk,if_false,if_true]
 have pc:P[c]?=(pieces ls)[nx ls c]? /\P[nx ls c]?=(pieces ls)[c]? :=by
  constructor
  .rw[vm];simp only[Nz,if_false,if_true]
  rw[vm];simp only[if_true]
 have pn:∀i,i≠a->i≠nx ls a->i≠b->i≠nx ls b->i≠c->i≠nx ls c->P[i]?=(pieces ls)[i]? :=fun i h1 h2 h3 h4 h5 h6=>by rw[vm];simp only[h1,h2,h3,h4,h5,h6,if_false]
 clear vm
 -- edges and letters by dd
 have nE:∀d,d/2=a\/d/2=b\/d/2=c->P[oT ls.length d]?=(pieces ls)[oH ls.length d]? /\P[oH ls.length d]?=(pieces ls)[oT ls.length d]? :=fun d hd=>by
  have:P[d/2]?=(pieces ls)[nx ls (d/2)]? /\P[nx ls (d/2)]?=(pieces ls)[d/2]? :=by rcases hd with e|e|e<;>rw[e]<;>assumption
  unfold oT oH;rcases sH d with h|h
  .simp only[h,if_true];exact this
  simp only[h,Nat.one_ne_zero,if_false];exact this.symm
 have m1:d1/2=a\/d1/2=b\/d1/2=c:=by
  rcases je with ⟨h,_,_⟩|⟨h,_,_⟩
  .exact .inl h
  exact .inl h
 have m2:d2/2=a\/d2/2=b\/d2/2=c:=by
  rcases je with ⟨_,h,_⟩|⟨_,h,_⟩
  .exact .inr (.inl h)
  exact .inr (.inr h)
 have m3:d3/2=a\/d3/2=b\/d3/2=c:=by
  rcases je with ⟨_,_,h⟩|⟨_,_,h⟩
  .exact .inr (.inr h)
  exact .inr (.inl h)
 have mm:∀d,d/2=a\/d/2=b\/d/2=c->d/2∈[a,b,c]:=fun d h=>by simpa using h
 have pn2:∀i,i≠oT ls.length d1->i≠oH ls.length d1->i≠oT ls.length d2->i≠oH ls.length d2->i≠oT ls.length d3->i≠oH ls.length d3->P[i]?=(pieces ls)[i]? /\ ∀d,d/2=a\/d/2=b\/d/2=c->i≠d/2/\i≠nx ls (d/2):=fun i a1 a2 a3 a4 a5 a6=>by
  obtain⟨b1,b2⟩:=RR.1 ⟨a1,a2⟩;obtain⟨b3,b4⟩:=RR.1 ⟨a3,a4⟩;obtain⟨b5,b6⟩:=RR.1 ⟨a5,a6⟩;have key:(i≠a/\i≠nx ls a)/\(i≠b/\i≠nx ls b)/\(i≠c/\i≠nx ls c):=by
   rcases je with ⟨h1,h2,h3⟩|⟨h1,h2,h3⟩
   .rw[h1] at b1 b2;rw[h2] at b3 b4;rw[h3] at b5 b6;exact⟨⟨b1,b2⟩,⟨b3,b4⟩,b5,b6⟩
   rw[h1] at b1 b2;rw[h2] at b3 b4;rw[h3] at b5 b6;exact⟨⟨b1,b2⟩,⟨b5,b6⟩,b3,b4⟩
  obtain⟨⟨c1,c2⟩,⟨c3,c4⟩,c5,c6⟩:=key;refine⟨pn i c1 c2 c3 c4 c5 c6,fun d hd=>?_⟩;rcases hd with e|e|e<;>rw[e]
  .exact⟨c1,c2⟩
  .exact⟨c3,c4⟩
  exact⟨c5,c6⟩
 have t1:=MV g l1;have t2:=MV g l2;have t3:=MV g l3;have h1:=Jw g l1;have h2:=Jw g l2;have h3:=Jw g l3
 -- all six are different
 have apart:(d1/2≠d2/2/\d1/2≠nx ls (d2/2)/\nx ls (d1/2)≠d2/2/\nx ls (d1/2)≠nx ls (d2/2))/\(d1/2≠d3/2/\d1/2≠nx ls (d3/2)/\nx ls (d1/2)≠d3/2/\nx ls (d1/2)≠nx ls (d3/2))/\(d2/2≠d3/2/\d2/2≠nx ls (d3/2)/\nx ls (d2/2)≠d3/2/\nx ls (d2/2)≠nx ls (d3/2))/\d1/2≠nx ls (d1/2)/\d2/2≠nx ls (d2/2)/\d3/2≠nx ls (d3/2):=by
  rcases je with ⟨h1,h2,h3⟩|⟨h1,h2,h3⟩<;>rw[h1,h2,h3]
  .exact⟨⟨x2,x3,x6,x7⟩,⟨x4,x5,x8,x9⟩,⟨Kh,Ki,Kj,Kk⟩,x1,G9,Nz⟩
  exact⟨⟨x4,x5,x8,x9⟩,⟨x2,x3,x6,x7⟩,⟨Kh.symm,Kj.symm,Ki.symm,Kk.symm⟩,x1,Nz,G9⟩
 obtain⟨y1,y2,y3,y4,y5,y6⟩:=apart;have f12:=Ry y1;have f13:=Ry y2;have f23:=Ry y3;have g1:=Rz y4;have g2:=Rz y5;have g3:=Rz y6
 -- the old corners
 obtain⟨u1,wU,HW⟩:=LU d1 l1 (mm d1 m1);obtain⟨u2,zI,HX⟩:=LU d2 l2 (mm d2 m2);obtain⟨u3,Gm,HY⟩:=LU d3 l3 (mm d3 m3);obtain⟨_,o1,q1,k1⟩:=HU g l1 wU HW;obtain⟨_,o2,q2,k2⟩:=HU g l2 zI HX;obtain⟨_,o3,q3,k3⟩:=HU g l3 Gm HY;rw[s1] at o1 q1 k1;rw[s2] at o2 q2 k2;rw[s3] at o3 q3 k3;clear s1 s2 s3 je pn pa pb pc x1 x2 x3 x4 x5 x6 x7 x8 x9 G9 Kh Ki Kj Kk Nz crs LU mm ina inb inc;have ti1:=JY (ls:=ls) l1;have ti2:=JY (ls:=ls) l2;have ti3:=JY (ls:=ls) l3;have kI:=IG (ls:=ls) l1;have hi2:=IG (ls:=ls) l2
 have hi3:=IG (ls:=ls) l3;rw[kI,ti2] at k1;rw[hi2,ti3] at k2;rw[hi3,ti1] at k3;obtain⟨a1,b1,c1,e1⟩:=k1;obtain⟨a2,b2,c2,e2⟩:=k2;obtain⟨a3,b3,c3,e3⟩:=k3;simp only[if_true] at a1 b1 c1 e1 a2 b2 c2 e2 a3 b3 c3 e3
 let tau:=(oK ls d1).l
 let K1:dz:=⟨(fv (bd d3) (dA ls (oT ls.length d3))).r,tau,(fv (bd d1) (dA ls (oT ls.length d1))).b⟩
 let K2:dz:=⟨(fv (bd d1) (dA ls (oT ls.length d1))).r,tau,(fv (bd d2) (dA ls (oT ls.length d2))).b⟩
 let K3:dz:=⟨(fv (bd d2) (dA ls (oT ls.length d2))).r,tau,(fv (bd d3) (dA ls (oT ls.length d3))).b⟩
 let sd:Nat->dz:=fun j=>if j=d1/2 then uo (bd d1) K1 else if j=d2/2 then uo (bd d2) K2 else if j=d3/2 then uo (bd d3) K3 else kS ls j
 have sd1:sd (d1/2)=uo (bd d1) K1:=if_pos rfl;have sd2:sd (d2/2)=uo (bd d2) K2:=by show(if _ then _ else _)=_;rw[if_neg (Ne.symm y1.1),if_pos rfl]
 have sd3:sd (d3/2)=uo (bd d3) K3:=by show(if _ then _ else _)=_;rw[if_neg (Ne.symm y2.1),if_neg (Ne.symm y3.1),if_pos rfl]
 have sdn:∀j,j≠d1/2->j≠d2/2->j≠d3/2->sd j=kS ls j:=fun j h1 h2 h3=>by show(if _ then _ else _)=_;rw[if_neg h1,if_neg h2,if_neg h3]
 have prev:∀i,i<ls.length->i≠nx ls (d1/2)->i≠nx ls (d2/2)->i≠nx ls (d3/2)->sd ((i+ls.length-1)%ls.length)=kS ls ((i+ls.length-1)%ls.length):=fun i hi n1 n2 n3=>sdn _ (fun h=>n1 (BI hi h)) (fun h=>n2 (BI hi h)) (fun h=>n3 (BI hi h))
 obtain⟨z1,z2,z3,z4⟩:=y1;obtain⟨z5,z6,z7,z8⟩:=y2;obtain⟨z9,z10,z11,z12⟩:=y3;have G1:=KT (P:=P) DR l1 sd1 (prev _ aa y4 z2 z6) (sdn _ y4.symm z3 z7);have G2:=KT (P:=P) DR l2 sd2 (prev _ aa z3.symm y5 z10) (sdn _ z2.symm y5.symm z11);have G3:=KT (P:=P) DR l3 sd3 (prev _ aa z7.symm z11.symm y6) (sdn _ z6.symm z10.symm y6.symm);have p1:=nE d1 m1;have p2:=nE d2 m2;have p3:=nE d3 m3;have pT1:=Ij (sd:=sd) h1 p1.1;have pH1:=Ij (sd:=sd) t1 p1.2;have pT2:=Ij (sd:=sd) h2 p2.1;have pH2:=Ij (sd:=sd) t2 p2.2;have pT3:=Ij (sd:=sd) h3 p3.1
 have pH3:=Ij (sd:=sd) t3 p3.2;have un:∀i,i<ls.length->i≠oT ls.length d1->i≠oH ls.length d1->i≠oT ls.length d2->i≠oH ls.length d2->i≠oT ls.length d3->i≠oH ls.length d3->bZ P sd i=dA ls i:=fun i hi n1 n2 n3 n4 n5 n6=>by obtain⟨q1,q2⟩:=pn2 i n1 n2 n3 n4 n5 n6;exact YN DR hi q1 (prev i hi (q2 d1 m1).2 (q2 d2 m2).2 (q2 d3 m3).2) (sdn i (q2 d1 m1).1 (q2 d2 m2).1 (q2 d3 m3).1)
 clear pn2 nE prev
 -- letters of the crossings
 have jC:=pW ok.cr wU HW;have jg:=pW ok.cr zI HX;have hw3:=pW ok.cr Gm HY;rw[<- o1] at jC;rw[<- o2] at jg;rw[<- o3] at hw3;obtain⟨r1,v2,qC,cv2,iv2,_,_⟩:=jC;obtain⟨r2,v3,MA,cv3,iv3,_,_⟩:=jg;obtain⟨r3,v1,yn,cv1,iv1,_,_⟩:=hw3
 -- the new corners
 have cornerN:∀(x y:aG) (d d' hh tt:Nat) (u v:Let),ls[hh]?=some u->ls[tt]?=some v->u.aw=true->v.aw=true->v.id=u.id->hh≠tt->x.p=(dA ls hh).p->y.p=(dA ls tt).p->gX u=(bd d==bd d')->X4 true (fv (bd d) x) (iB (bd d) x) (fv (bd d') y) (iB (bd d') y)->Xc x y:=by intro x y d d' hh tt u v ha hb ca cb ei aK hx hy hg h4;have hx':x.k=(dA ls hh).k:=congrArg Pc.l hx;have hy':y.k=(dA ls tt).k:=congrArg Pc.l hy;have old:=KS g (aV.1 ha).1 (aV.1 hb).1 aK (by rw[dU ha];exact ca) (by rw[dU hb];exact cb) (by rw[dU ha,dU hb];exact ei.symm);refine⟨by rw[hx',hy'];exact old.ov,by rw[hx',hy'];exact old.sg,?_⟩;rw[hx',dU ha,hg];exact QL.1 h4
 have C1:Xc (bZ P sd (oT ls.length d1)) (bZ P sd (oH ls.length d2)):=by
  refine cornerN _ _ d1 d2 _ _ u1 v2 wU qC HW cv2 iv2 f12.2.2.1 pT1 pH2 q1 ?_;rw[G1.1,G1.2.1,G2.2.2.1,G2.2.2.2];constructor<;>simp only[if_true]
  .exact c3.trans e2
  .rfl
  .rfl
  exact b2
 have C2:Xc (bZ P sd (oT ls.length d2)) (bZ P sd (oH ls.length d3)):=by
  refine cornerN _ _ d2 d3 _ _ u2 v3 zI MA HX cv3 iv3 f23.2.2.1 pT2 pH3 q2 ?_;rw[G2.1,G2.2.1,G3.2.2.1,G3.2.2.2];constructor<;>simp only[if_true]
  .exact c1.trans e3
  .rfl
  .rfl
  exact b3
 have C3:Xc (bZ P sd (oT ls.length d3)) (bZ P sd (oH ls.length d1)):=by
  refine cornerN _ _ d3 d1 _ _ u3 v1 Gm yn HY cv1 iv1 f13.2.1.symm pT3 pH1 q3 ?_;rw[G3.1,G3.2.1,G1.2.2.1,G1.2.2.2];constructor<;>simp only[if_true]
  .exact c2.trans e1
  .rfl
  .rfl
  exact b1
 have six:∀i,i<ls.length->(i=oT ls.length d1\/i=oH ls.length d1\/i=oT ls.length d2\/i=oH ls.length d2\/i=oT ls.length d3\/i=oH ls.length d3)\/(bZ P sd i=dA ls i/\i≠oT ls.length d1/\i≠oH ls.length d1/\i≠oT ls.length d2/\i≠oH ls.length d2/\i≠oT ls.length d3/\i≠oH ls.length d3):=fun i hi=>by
  rcases Classical.em (i=oT ls.length d1\/i=oH ls.length d1\/i=oT ls.length d2\/i=oH ls.length d2\/i=oT ls.length d3\/i=oH ls.length d3) with h|h
  .exact .inl h
  simp only[not_or] at h;exact .inr ⟨un i hi h.1 h.2.1 h.2.2.1 h.2.2.2.1 h.2.2.2.2.1 h.2.2.2.2.2,h⟩
 -- each position holds one letter
 have hold:∀i,i<ls.length->∃j l,j<ls.length/\ls[j]?=some l/\(bZ P sd i).k=l/\(bZ P sd i).p=(dA ls j).p:=fun i hi=>by
  have mk:∀j l,ls[j]?=some l->(bZ P sd i).p=(dA ls j).p->∃j l,j<ls.length/\ls[j]?=some l/\(bZ P sd i).k=l/\(bZ P sd i).p=(dA ls j).p:=fun j l hl hp=>⟨j,l,(aV.1 hl).1,hl,(congrArg Pc.l hp).trans (dU hl),hp⟩;rcases six i hi with (rfl|rfl|rfl|rfl|rfl|rfl)|⟨e,_⟩
  .exact mk _ _ wU pT1
  .exact mk _ _ yn pH1
  .exact mk _ _ zI pT2
  .exact mk _ _ qC pH2
  .exact mk _ _ Gm pT3
  .exact mk _ _ MA pH3
  obtain⟨l,hl⟩:=aI hi;exact mk i l hl (by rw[e])
 have kT1:(bZ P sd (oT ls.length d1)).k=u1:=(congrArg Pc.l pT1).trans (dU wU);have kT2:(bZ P sd (oT ls.length d2)).k=u2:=(congrArg Pc.l pT2).trans (dU zI);have kT3:(bZ P sd (oT ls.length d3)).k=u3:=(congrArg Pc.l pT3).trans (dU Gm);have kH1:(bZ P sd (oH ls.length d1)).k=v1:=(congrArg Pc.l pH1).trans (dU yn);have kH2:(bZ P sd (oH ls.length d2)).k=v2:=(congrArg Pc.l pH2).trans (dU qC);have kH3:(bZ P sd (oH ls.length d3)).k=v3:=(congrArg Pc.l pH3).trans (dU MA);have flat:∀(f:Bool) (x:aG),(fv f x).b=(iB f x).b->x.i.b=x.o.b:=fun f x h=>by
  rw[Jd,Jy] at h;cases f
  .exact h.symm
  exact h
 have Z8:∀(f:Bool) (x:aG),x.i.b=x.o.b->(fv f x).b=(iB f x).b:=fun f x h=>by
  rw[Jd,Jy];cases f
  .exact h.symm
  exact h
 have oldb:∀j l,ls[j]?=some l->l.aw=true->(dA ls j).i.b=(dA ls j).o.b:=fun j l hl hc=>(DF g (aV.1 hl).1).cb (by rw[dU hl];exact hc);have bT:∀d (K:dz),fv (bd d) (bZ P sd (oT ls.length d))=fv (bd d) (dA ls (oT ls.length d))->iB (bd d) (bZ P sd (oT ls.length d))=K->K.b=(fv (bd d) (dA ls (oT ls.length d))).b->(bZ P sd (oT ls.length d)).i.b=(bZ P sd (oT ls.length d)).o.b:=fun d K q1 q2 q3=>flat (bd d) _ (by rw[q1,q2,q3])
 have bH:∀d (K:dz) (l m:Let),ls[oT ls.length d]?=some l->l.aw=true->ls[oH ls.length d]?=some m->m.aw=true->iB (bd d) (dA ls (oT ls.length d))=oK ls d->fv (bd d) (dA ls (oH ls.length d))=oK ls d->fv (bd d) (bZ P sd (oH ls.length d))=K->iB (bd d) (bZ P sd (oH ls.length d))=iB (bd d) (dA ls (oH ls.length d))->K.b=(fv (bd d) (dA ls (oT ls.length d))).b->(bZ P sd (oH ls.length d)).i.b=(bZ P sd (oH ls.length d)).o.b:=fun d K l m hl cl hm cm w1 w2 q1 q2 q3=>by refine flat (bd d) _ ?_;rw[q1,q2,q3,Z8 (bd d) _ (oldb _ _ hl cl),w1,<- w2];exact Z8 (bd d) _ (oldb _ _ hm cm)
 have bad:∀i,i<ls.length->de F (bZ P sd i).k=false:=fun i hi=>by obtain⟨j,l,hj,hl,hk,_⟩:=hold i hi;rw[hk];exact g.bad l (aQ hl)
 have mg:∀i,i<ls.length->(bZ P sd i).k.aw=true->(bZ P sd i).i.b=(bZ P sd i).o.b->vz F (bZ P sd i):=fun i hi hc hb=>⟨bad i hi,fun _=>hb,fun hp=>by rw[kO hc] at hp;cases hp⟩;have passUn:∀i,i<ls.length->(bZ P sd i).k.ay=true->bZ P sd i=dA ls i:=fun i hi hp=>by
  rcases six i hi with (rfl|rfl|rfl|rfl|rfl|rfl)|⟨e,_⟩
  .rw[kT1,kO HW] at hp;cases hp
  .rw[kH1,kO cv1] at hp;cases hp
  .rw[kT2,kO HX] at hp;cases hp
  .rw[kH2,kO cv2] at hp;cases hp
  .rw[kT3,kO HY] at hp;cases hp
  .rw[kH3,kO cv3] at hp;cases hp
  exact e
 have cz:=g.cz;have cntP:∀p:Let->Bool,au p (P.map Pc.l)=au p ls:=fun p=>by rw[<- Vj (ls:=ls) p];show List.countP _ _=List.countP _ _;rw[Kl,Kl];exact sU _
 have labs:∀(f:Bool) i,i<ls.length->∀t,t=(fv f (bZ P sd i)).l\/t=(fv f (bZ P sd i)).r->∃j',j'<ls.length/\(t=(sd j').l\/t=(sd j').r):=fun f i hi t ht=>by
  cases f
  .refine⟨i,hi,?_⟩;rcases ht with ht|ht
   .exact .inr ht
   exact .inl ht
  refine⟨(i+P.length-1)%P.length,?_,ht⟩;rw[DR];exact dw _ hn
 refine XZ g (tau:=tau) (sd:=sd) (T':=TF ls) (B':=BF ls) DR (cntP _) (cntP _) (fun k=>cntP _) (fun i hi=>?_) (fun i j hi hj fQ ci cj e=>?_) (fun i j hi hj fQ pi pj e1 e2=>?_) (fun i hi ci=>?_) (fun i hi pi=>?_) (fun i hi pi=>?_) (fun k hk=>?_) ?_ (fun j hj t ht=>?_)
 .rcases six i hi with (rfl|rfl|rfl|rfl|rfl|rfl)|⟨e,_⟩
  .exact mg _ hi (by rw[kT1];exact HW) (bT d1 K1 G1.1 G1.2.1 rfl)
  .exact mg _ hi (by rw[kH1];exact cv1) (bH d1 K1 _ _ yn cv1 wU HW ti1 kI G1.2.2.1 G1.2.2.2 rfl)
  .exact mg _ hi (by rw[kT2];exact HX) (bT d2 K2 G2.1 G2.2.1 rfl)
  .exact mg _ hi (by rw[kH2];exact cv2) (bH d2 K2 _ _ qC cv2 zI HX ti2 hi2 G2.2.2.1 G2.2.2.2 rfl)
  .exact mg _ hi (by rw[kT3];exact HY) (bT d3 K3 G3.1 G3.2.1 rfl)
  .exact mg _ hi (by rw[kH3];exact cv3) (bH d3 K3 _ _ MA cv3 Gm HY ti3 hi3 G3.2.2.1 G3.2.2.2 rfl)
  rw[e];exact DF g hi
 · -- two visits of one crossing
  have nn:∀i,i<ls.length->∃s,s<ls.length/\(∃l,ls[s]?=some l/\(bZ P sd i).k=l)/\((i=oT ls.length d1/\s=oH ls.length d1)\/(i=oH ls.length d1/\s=oT ls.length d1)\/(i=oT ls.length d2/\s=oH ls.length d2)\/(i=oH ls.length d2/\s=oT ls.length d2)\/(i=oT ls.length d3/\s=oH ls.length d3)\/(i=oH ls.length d3/\s=oT ls.length d3)\/(bZ P sd i=dA ls i/\s=i/\i≠oT ls.length d1/\i≠oH ls.length d1/\i≠oT ls.length d2/\i≠oH ls.length d2/\i≠oT ls.length d3/\i≠oH ls.length d3)):=fun i hi=>by
   rcases six i hi with (rfl|rfl|rfl|rfl|rfl|rfl)|⟨e,aK⟩
   .exact⟨_,h1,⟨_,wU,kT1⟩,.inl ⟨rfl,rfl⟩⟩
   .exact⟨_,t1,⟨_,yn,kH1⟩,.inr (.inl ⟨rfl,rfl⟩)⟩
   .exact⟨_,h2,⟨_,zI,kT2⟩,.inr (.inr (.inl ⟨rfl,rfl⟩))⟩
   .exact⟨_,t2,⟨_,qC,kH2⟩,.inr (.inr (.inr (.inl ⟨rfl,rfl⟩)))⟩
   .exact⟨_,h3,⟨_,Gm,kT3⟩,.inr (.inr (.inr (.inr (.inl ⟨rfl,rfl⟩))))⟩
   .exact⟨_,t3,⟨_,MA,kH3⟩,.inr (.inr (.inr (.inr (.inr (.inl ⟨rfl,rfl⟩)))))⟩
   obtain⟨l,hl⟩:=aI hi;exact⟨i,hi,⟨l,hl,by rw[e];exact dU hl⟩,.inr (.inr (.inr (.inr (.inr (.inr ⟨e,rfl,aK⟩)))))⟩
  obtain⟨si,hsi,⟨li,uJ,kli⟩,ci'⟩:=nn i hi;obtain⟨sj,I3,⟨lj,pJ,klj⟩,Dy⟩:=nn j hj;rw[kli] at ci e;rw[klj] at cj e;obtain⟨f1,f2,f3,f4⟩:=f12;obtain⟨f5,f6,f7,f8⟩:=f13;obtain⟨f9,f10,f11,f12⟩:=f23;have aK:si≠sj:=by
   clear e2 e3 e1 labs passUn mg bad bH bT hold un six;rcases ci' with ⟨q1,q2⟩|⟨q1,q2⟩|⟨q1,q2⟩|⟨q1,q2⟩|⟨q1,q2⟩|⟨q1,q2⟩|⟨_,q2,n1,n2,n3,n4,n5,n6⟩<;>rcases Dy with ⟨w1,w2⟩|⟨w1,w2⟩|⟨w1,w2⟩|⟨w1,w2⟩|⟨w1,w2⟩|⟨w1,w2⟩|⟨_,w2,m1,m2,m3,m4,m5,m6⟩<;>rw[q2,w2]<;>first
    |(rw[q1,w1] at fQ;exact absurd rfl fQ)
    |assumption
    |exact Ne.symm (by assumption)
    |exact fQ
  have ho:=JP g uJ pJ ci cj e aK;rcases ci' with ⟨q1,q2⟩|⟨q1,q2⟩|⟨q1,q2⟩|⟨q1,q2⟩|⟨q1,q2⟩|⟨q1,q2⟩|⟨eu,q2,n1,n2,n3,n4,n5,n6⟩
  .rw[q2,<- o1] at ho;rcases Dy with ⟨w1,w2⟩|⟨w1,w2⟩|⟨w1,w2⟩|⟨w1,w2⟩|⟨w1,w2⟩|⟨w1,w2⟩|⟨_,w2,m1,m2,m3,m4,m5,m6⟩<;>rw[w2] at ho<;>first
    |(rw[q1,w1];exact C1)
    |exact absurd ho (by assumption)
    |exact absurd ho (Ne.symm (by assumption))
  .rw[q2,r3] at ho;rcases Dy with ⟨w1,w2⟩|⟨w1,w2⟩|⟨w1,w2⟩|⟨w1,w2⟩|⟨w1,w2⟩|⟨w1,w2⟩|⟨_,w2,m1,m2,m3,m4,m5,m6⟩<;>rw[w2] at ho<;>first
    |(rw[q1,w1];exact C3.symm)
    |exact absurd ho (by assumption)
    |exact absurd ho (Ne.symm (by assumption))
  .rw[q2,<- o2] at ho;rcases Dy with ⟨w1,w2⟩|⟨w1,w2⟩|⟨w1,w2⟩|⟨w1,w2⟩|⟨w1,w2⟩|⟨w1,w2⟩|⟨_,w2,m1,m2,m3,m4,m5,m6⟩<;>rw[w2] at ho<;>first
    |(rw[q1,w1];exact C2)
    |exact absurd ho (by assumption)
    |exact absurd ho (Ne.symm (by assumption))
  .rw[q2,r1] at ho;rcases Dy with ⟨w1,w2⟩|⟨w1,w2⟩|⟨w1,w2⟩|⟨w1,w2⟩|⟨w1,w2⟩|⟨w1,w2⟩|⟨_,w2,m1,m2,m3,m4,m5,m6⟩<;>rw[w2] at ho<;>first
    |(rw[q1,w1];exact C1.symm)
    |exact absurd ho (by assumption)
    |exact absurd ho (Ne.symm (by assumption))
  .rw[q2,<- o3] at ho;rcases Dy with ⟨w1,w2⟩|⟨w1,w2⟩|⟨w1,w2⟩|⟨w1,w2⟩|⟨w1,w2⟩|⟨w1,w2⟩|⟨_,w2,m1,m2,m3,m4,m5,m6⟩<;>rw[w2] at ho<;>first
    |(rw[q1,w1];exact C3)
    |exact absurd ho (by assumption)
    |exact absurd ho (Ne.symm (by assumption))
  .rw[q2,r2] at ho;rcases Dy with ⟨w1,w2⟩|⟨w1,w2⟩|⟨w1,w2⟩|⟨w1,w2⟩|⟨w1,w2⟩|⟨w1,w2⟩|⟨_,w2,m1,m2,m3,m4,m5,m6⟩<;>rw[w2] at ho<;>first
    |(rw[q1,w1];exact C2.symm)
    |exact absurd ho (by assumption)
    |exact absurd ho (Ne.symm (by assumption))
  have hb:=(pW ok.cr uJ ci).1;rw[ho,q2] at hb;rcases Dy with ⟨w1,w2⟩|⟨w1,w2⟩|⟨w1,w2⟩|⟨w1,w2⟩|⟨w1,w2⟩|⟨w1,w2⟩|⟨eu2,w2,_⟩
  .rw[w2,<- o1] at hb;exact absurd hb.symm n3
  .rw[w2,r3] at hb;exact absurd hb.symm n6
  .rw[w2,<- o2] at hb;exact absurd hb.symm n5
  .rw[w2,r1] at hb;exact absurd hb.symm n2
  .rw[w2,<- o3] at hb;exact absurd hb.symm n1
  .rw[w2,r2] at hb;exact absurd hb.symm n4
  rw[q2] at uJ;rw[w2] at pJ;rw[eu,eu2];exact KS g hi hj fQ (by rw[dU uJ];exact ci) (by rw[dU pJ];exact cj) (by rw[dU uJ,dU pJ];exact e)
 .have ee:=passUn i hi pi;have ee2:=passUn j hj pj;rw[ee] at pi e1 e2;rw[ee2] at pj e1 e2;exact(cz.GF (Dd hi) (Dd hj) fQ).2 pi pj e1 e2
 .obtain⟨j,l,hj,hl,hk,_⟩:=hold i hi;rw[hk] at ci ⊢;exact g.ids.1 l (aQ hl) ci
 .have ee:=passUn i hi pi;rw[ee] at pi ⊢;have:=cz.rr _ (aQ (Dd hi)) pi;rwa[gY] at this
 .have ee:=passUn i hi pi;rw[ee] at pi ⊢;exact cz.pl _ (aQ (Dd hi)) pi
 .have:=cz.gt k hk;rwa[gY] at this
 .have:=cz.gz;rwa[gY] at this
 have viaK:∀d,j=d/2->t=(oK ls d).l\/t=(oK ls d).r:=fun d hd=>by
  rw[hd] at ht;unfold oK;split
  .exact ht
  exact ht.symm
 by_cases n1:j=d1/2
 .rcases viaK d1 n1 with h|h
  .exact .inl h
  exact .inr (labs (bd d2) _ t2 t (.inl (by rw[G2.1,h];exact c1.symm)))
 by_cases n2:j=d2/2
 .rcases viaK d2 n2 with h|h
  .exact .inl (h.trans a1.symm)
  exact .inr (labs (bd d3) _ t3 t (.inl (by rw[G3.1,h];exact c2.symm)))
 by_cases n3:j=d3/2
 .rcases viaK d3 n3 with h|h
  .exact .inl (h.trans (a2.symm.trans a1.symm))
  exact .inr (labs (bd d1) _ t1 t (.inl (by rw[G1.1,h];exact c3.symm)))
 exact .inr ⟨j,hj,by rw[sdn j n1 n2 n3];exact ht⟩
end
end
end Go.Abs
