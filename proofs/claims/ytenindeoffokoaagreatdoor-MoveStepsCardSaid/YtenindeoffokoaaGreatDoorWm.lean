/- A part. -/
import Derived.Test.YtenindeoffokoaaGreatDoorWl
set_option linter.all false
open List renaming length->I
set_option maxRecDepth 100000
set_option maxHeartbeats 16000000
namespace Go.Abs
variable{f:Int->Int}{L h:af}{z:fG}{T B:Nat->Nat->Nat}{n:Nat}
section
variable{y:af}{x:U}{F j:Nat}
section
variable {F:Nat} {h:af}
def Vn{e:Nat}(n:0<I h)(j:e<I h)(H:(kZ h e).2.2):(((kZ h e).1=e/\(kZ h e).2.1=nx h e)\/((kZ h e).1=nx h e/\(kZ h e).2.1=e))/\(∃l,h[(kZ h e).2.1]?=some l/\l.ak)/\ ∃m,h[(kZ h e).1]?=some m/\m.ay:=by
 obtain⟨l,hl⟩:=aP j;obtain⟨m,f⟩:=aP (cT _ n);unfold kZ at H |-;rw[gU (fX hl),gU (fX f)]at H |-;by_cases c:(l.kind==2)
 .rw[aD c]at H |-;exact⟨.inr ⟨rfl,rfl⟩,⟨l,hl,c⟩,m,f,H⟩
 rw[aC c]at H |-;simp only[cP]at H;exact⟨.inl ⟨rfl,rfl⟩,⟨m,f,H.2⟩,l,hl,H.1⟩
def ade{f:Bool}{x y:aQ}(h:(iH f x).b=(iH f y).b)(H:(jM f x).b=(jM f y).b):x.i.b=y.i.b/\x.o.b=y.o.b:=by grind [Oh,Mh]
def adP{f:Bool}{x:aQ}(h:(iH f x).b=(jM f x).b):x.i.b=x.o.b:=by grind [Oh,Mh]
def amq{f:Bool}{x:aQ}(h:x.i.b=x.o.b):(iH f x).b=(jM f x).b:=by
 rw[Oh,Mh]
 grind
def am7{l:U}{r:Int}(hp:l.ay)(h:eo F l=false):eo F {l with au:=r}=false:=by have f:({l with au:=r}:U).ay=true:=hp;rw[lQ hp]at h;rw[lQ f];exact h
def af9(g:bj F h){w:aG}(hw:w∈gW (aU h) (aT h))(mA:(kY F h w).places.length=1){d D:Nat}(hd:d∈w)(uP:d<2*I h)(ye:D∈w)(Ku:D<2*I h)(yn:aU h d=D)(two:∀y,y∈w->y<2*I h->y=d\/y=D)
  {L lv lw n:U} (zw:h[bP (I h) d]?=some L) (Y:h[bU (I h) d]?=some lv) (w7:h[bP (I h) D]?=some lw) (Ap:h[bU (I h) D]?=some n) (pp:L.ay) (cv:lv.ak) (cw:lw.ak) (pq:n.ay)
  {P:aW} (BB:I P=I h) (uI:∀q:U->Bool,(∀(l:U) (r:Int),q {l with au:=r}=q l)->aq q (P.map aN.l)=aq q h)
  (hP:bP (I h) d≠bU (I h) D->P[bP (I h) d]?=(an h)[bU (I h) d]? /\P[bU (I h) d]?=some ⟨{L with au:=n.au},c9 h (bP (I h) d)⟩/\P[bP (I h) D]?=some ⟨{n with au:=L.au},c9 h (bU (I h) D)⟩/\P[bU (I h) D]?=(an h)[bP (I h) D]? /\
   ∀i,i≠bP (I h) d->i≠bU (I h) d->i≠bP (I h) D->i≠bU (I h) D->P[i]?=(an h)[i]?):gO F P:=by
 have ok:=g.ok;have cz:=g.cz;have hn:=gy.2 g.ne;have t1:=Iq g uP;have t2:=Iq g Ku;have Z:=yH g uP;have M:=yH g Ku
 obtain⟨u,m,y,y1,y2,y3,jC,y4⟩:=Q8 g hw mA ye (Dg Ku) Ap pq;have hu:=(bt.1 y2).1;have yT:∀f,bP (I h) (dS (I h) u f)=u/\cD (dS (I h) u f)=f/\dS (I h) u f<2*I h:=λf=>⟨(HZ hu).1,(HZ hu).2,by
  have:=wJ hu (!f);rw[<-uZ]at this;have:=uB this;rwa[uQ]at this⟩
 have yd:y=d:=by
  have QN:bP (I h) y=u/\y<2*I h:=by rcases y4 with⟨_,_,e⟩|⟨_,_,e⟩<;>rw[e]<;>exact⟨(yT _).1,(yT _).2.2⟩
  rcases two y y1 QN.2 with e|e
  .exact e
  exfalso;rw[e]at QN;rw[<-QN.1,w7]at y2;have:=kA y2;rw[<-this,kJ cw]at y3;cases y3
 subst yd;have MN:bP (I h) y=u:=by rcases y4 with⟨_,_,e⟩|⟨_,_,e⟩<;>rw[e]<;>exact(yT _).1
 subst MN;rw[zw]at y2;cases y2
 obtain⟨cR,hR⟩:∃cR:Bool,(cR/\dn h (bU (I h) D)=cD D/\L.au=n.au+1/\cD y= !dn h (bP (I h) y))\/(cR=false/\dn h (bU (I h) D)=(!cD D)/\n.au=L.au+1/\cD y=dn h (bP (I h) y)):=by
  rcases y4 with⟨e1,e2,e3⟩|⟨e1,e2,e3⟩
  .exact⟨true,.inl ⟨rfl,e1,e2,(congrArg cD e3).trans (yT _).2.1⟩⟩
  exact⟨false,.inr ⟨rfl,e1,e2,(congrArg cD e3).trans (yT _).2.1⟩⟩
 clear y4 yT y1 y3 hu;have jX:L.au≠n.au:=by rcases hR with⟨_,_,E,_⟩|⟨_,_,E,_⟩<;>omega
 have R:bP (I h) y≠bU (I h) D:=λe=>by rw[e,Ap]at zw;have:=kA zw;rw[this]at jX;exact jX rfl
 obtain⟨pT,pH,a0,bc,pU⟩:=hP R;clear hP;obtain⟨_,o1,q1,k1⟩:=DX g uP Y cv;rw[yn]at o1 q1 k1;rw[KD uP,K_ Ku]at k1;obtain⟨xa,xb,xc,xd⟩:=k1;simp only[if_true]at xa xb xc xd;have pc:∀ {x y:Nat}{l m:U},h[x]?=some l->h[y]?=some m->l.ak->m.ay->x≠y:=λZ M h3 h4 e=>by subst e;rw[Z]at M;have:=kA M;rw[this,nL h4]at h3;cases h3
 have aj:bU (I h) y≠bP (I h) D:=by intro e;obtain⟨_,m,hm,_,_,mo,_⟩:=qN ok.cr Y cv;rw[<-o1,<-e,Y]at hm;have:=kA hm;rw[<-this]at mo;revert mo;cases lv.over<;>simp
 have ag:=pc Y zw cv pp;have ao:=pc Y Ap cv pq;have ad:=pc w7 zw cw pp;have am:=pc w7 Ap cw pq
 have ee:∀d:Nat,(bP (I h) d=d/2/\bU (I h) d=nx h (d/2))\/(bP (I h) d=nx h (d/2)/\bU (I h) d=d/2):=λd=>by
  unfold bP bU nx;split
  .exact .inl ⟨rfl,rfl⟩
  exact .inr ⟨rfl,rfl⟩
 have qf:y/2≠D/2/\y/2≠nx h (D/2)/\nx h (y/2)≠D/2/\nx h (y/2)≠nx h (D/2)/\y/2≠nx h (y/2)/\D/2≠nx h (D/2):=by
  rcases ee y with⟨A,z⟩|⟨A,z⟩<;>rcases ee D with⟨b1,b2⟩|⟨b1,b2⟩
  .rw[<-z,<-A,<-b2,<-b1];exact⟨ad.symm,R,aj,ao,ag.symm,am⟩
  .rw[<-z,<-A,<-b1,<-b2];exact⟨R,ad.symm,ao,aj,ag.symm,am.symm⟩
  .rw[<-A,<-z,<-b2,<-b1];exact⟨aj,ao,ad.symm,R,ag,am⟩
  rw[<-A,<-z,<-b1,<-b2];exact⟨ao,aj,R,ad.symm,ag,am.symm⟩
 let T:=(xy h y).l
 let tI:=iH (cD y) (e_ h (bP (I h) y))
 let hO:=jM (cD D) (e_ h (bU (I h) D))
 let O:=(jM (cD y) (e_ h (bU (I h) y))).r
 let K1:eN:=⟨hO.r,T,tI.b⟩
 let K2:eN:=⟨tI.r,T,hO.b⟩
 let v:Nat->eN:=λj=>if j=y/2 then nP (cD y) K1 else if j=D/2 then nP (cD D) K2 else j8 h j
 have a6:v (D/2)=nP (cD D) K2:=by show(if _ then _ else _)=_;rw[aC qf.1.symm,aD rfl]
 have ab:∀j,j≠y/2->j≠D/2->v j=j8 h j:=λj Z M=>by show(if _ then _ else _)=_;rw[aC Z,aC M]
 have ac:∀i,i<I h->i≠nx h (y/2)->i≠nx h (D/2)->v ((i+I h-1)%I h)=j8 h ((i+I h-1)%I h):=λi H N n2=>ab _ (λE=>N (C9 H E)) (λE=>n2 (C9 H E))
 obtain⟨z1,z2,z3,z4,z5,z6⟩:=qf;have Q:=Pe BB uP (aD rfl) (ac _ J z5 z2) (ab _ z5.symm z3);have X:=Pe BB Ku a6 (ac _ J z3.symm z6) (ab _ z2.symm z6.symm);have un:∀i,i<I h->i≠bP (I h) y->i≠bU (I h) y->i≠bP (I h) D->i≠bU (I h) D->dq P v i=e_ h i:=λi H N n2 n3 n4=>by
  have A:i≠y/2/\i≠nx h (y/2):=by
   rcases ee y with⟨A,z⟩|⟨A,z⟩
   .rw[<-z,<-A];exact⟨N,n2⟩
   rw[<-A,<-z];exact⟨n2,N⟩
  have z:i≠D/2/\i≠nx h (D/2):=by
   rcases ee D with⟨A,z⟩|⟨A,z⟩
   .rw[<-z,<-A];exact⟨n3,n4⟩
   rw[<-A,<-z];exact⟨n4,n3⟩
  exact aez BB H (pU i N n2 n3 n4) (ac i H A.2 z.2) (ab i A.1 z.1)
 have az:∀i,i<I h->(i=bP (I h) y\/i=bU (I h) y\/i=bP (I h) D\/i=bU (I h) D)\/(dq P v i=e_ h i/\i≠bP (I h) y/\i≠bU (I h) y/\i≠bP (I h) D/\i≠bU (I h) D):=λi H=>by
  rcases Classical.em (i=bP (I h) y\/i=bU (I h) y\/i=bP (I h) D\/i=bU (I h) D)with E|E
  .exact .inl E
  simp only[A4]at E;exact .inr ⟨un i H E.1 E.2.1 E.2.2.1 E.2.2.2,E⟩
 have gp:∀ {i:Nat}{p:aN},P[i]?=some p->(dq P v i).p=p:=λ{i p} E=>by show P.getD i _=_;rw[dD,E];rfl
 have kT:(dq P v (bP (I h) y)).k=lv:=congrArg aN.l (gp (pT.trans (fX Y)));have kH:(dq P v (bU (I h) y)).k={L with au:=n.au}:=congrArg aN.l (gp pH);have AM:(dq P v (bP (I h) D)).k={n with au:=L.au}:=congrArg aN.l (gp a0);have HP:(dq P v (bU (I h) D)).k=lw:=congrArg aN.l (gp (bc.trans (fX w7)));have dH:(dq P v (bU (I h) y)).p.d=(e_ h (bP (I h) y)).p.d:=by rw[gp pH];rfl
 have Ft:(dq P v (bP (I h) D)).p.d=(e_ h (bU (I h) D)).p.d:=by rw[gp a0];rfl
 have bv:=amq (f:=cD y) ((EF g Z).cb (by rw[fU Y];exact cv));have bw:=amq (f:=cD D) ((EF g t2).cb (by rw[fU w7];exact cw));rw[KD uP]at bv;rw[K_ Ku]at bw;have bp:=K_ uP;have bq:=KD Ku;have a5:=ok.ax.fA n (a7 Ap) pq;obtain⟨p1,p2,p3,p4⟩:=R5 g zw pp;obtain⟨p5,p6,p7,p8⟩:=R5 g Ap pq;rw[fU zw]at p1 p2 p3 p4;rw[fU Ap]at p5 p6 p7 p8;have nU:=UL g zw pp;have yf:=UL g Ap pq;rw[Cg (cD y)]at p1 p2;rw[Cc (cD y)]at p3 p4;rw[Cg (cD D)]at p5 p6;rw[Cc (cD D)]at p7 p8;rw[nU,bp]at p1 p2 p3 p4;rw[yf,bq]at p5 p6 p7 p8;have be:aV h n.gate.toNat=aV h L.gate.toNat:=by rw[jC]
 obtain⟨br,bn,bl,bf⟩:=ok.ax.fA L (a7 zw) pp;obtain⟨bi,bk,bg,bb⟩:=a5;rw[be]at bb;rw[jC]at p5 p6 p7 p8;obtain⟨r,T',B',kN,uN,iE,hT,pl1,pl2,qt⟩:∃(r:Nat) (T' B':Nat->Nat->Nat),1<=r/\r<aV h L.gate.toNat/\((L.au=(r:Int)/\n.au=(r:Int)+1)\/(n.au=(r:Int)/\L.au=(r:Int)+1))/\(∀k j,¬(k=L.gate.toNat/\j=r)->T' k j=fp h k j/\B' k j=fm h k j)/\
   B1 T' B' (dq P v (bU (I h) y))/\B1 T' B' (dq P v (bP (I h) D))/\tI.l=hO.l:=by
  rcases hR with⟨_,gH,QD,ff⟩|⟨_,gH,QD,ff⟩
  .have f1:(cD y==dn h (bP (I h) y))=false:=by rw[ff];cases dn h (bP (I h) y)<;>rfl
   have f2:(cD D==dn h (bU (I h) D)):=by rw[gH];cases cD D<;>rfl
   rw[f1]at p1 p2 p3 p4;rw[f2]at p5 p6 p7 p8;simp only[fE,if_false,if_true]at p1 p2 p3 p4 p5 p6 p7 p8;have er:L.au.toNat=n.au.toNat+1:=J;rw[er]at p1 p2 p3 p4;rw[Is]at p1 p3;refine⟨n.au.toNat,λk j=>if k=L.gate.toNat/\j=n.au.toNat then O else fp h k j,λk j=>if k=L.gate.toNat/\j=n.au.toNat then T else fm h k j,J,J,.inr ⟨J,J⟩,λk j E=>⟨aC E,aC E⟩,?_,?_,?_⟩
   .constructor
    .rw[kH,Cg (cD y),dH,nU,f1];show(jE (jM (cD y) (dq P v (bU (I h) y)))).r=if L.gate.toNat=L.gate.toNat/\n.au.toNat-1=n.au.toNat then O else fp h L.gate.toNat (n.au.toNat-1);rw[aC J,Q.2.2.2];exact xd.symm.trans p5
    .rw[kH,Cg (cD y),dH,nU,f1];show(jE (jM (cD y) (dq P v (bU (I h) y)))).l=if L.gate.toNat=L.gate.toNat/\n.au.toNat=n.au.toNat then O else fp h L.gate.toNat n.au.toNat;rw[aD ⟨rfl,rfl⟩,Q.2.2.2];rfl
    .rw[kH,Cc (cD y),dH,nU,f1];show(jE (iH (cD y) (dq P v (bU (I h) y)))).r=if L.gate.toNat=L.gate.toNat/\n.au.toNat-1=n.au.toNat then T else fm h L.gate.toNat (n.au.toNat-1);rw[aC J,Q.2.2.1];exact p7
    rw[kH,Cc (cD y),dH,nU,f1];show(jE (iH (cD y) (dq P v (bU (I h) y)))).l=if L.gate.toNat=L.gate.toNat/\n.au.toNat=n.au.toNat then T else fm h L.gate.toNat n.au.toNat;rw[aD ⟨rfl,rfl⟩,Q.2.2.1];rfl
   .constructor
    .rw[AM,Cg (cD D),Ft,yf,f2];show(iH (cD D) (dq P v (bP (I h) D))).r=if n.gate.toNat=L.gate.toNat/\L.au.toNat-1=n.au.toNat then O else fp h n.gate.toNat (L.au.toNat-1);rw[aD ⟨by rw[jC],J⟩,X.1];exact xb.symm
    .rw[AM,Cg (cD D),Ft,yf,f2];show(iH (cD D) (dq P v (bP (I h) D))).l=if n.gate.toNat=L.gate.toNat/\L.au.toNat=n.au.toNat then O else fp h n.gate.toNat L.au.toNat;rw[aC J,X.1,jC,er];exact xc.trans p2
    .rw[AM,Cc (cD D),Ft,yf,f2];show(jM (cD D) (dq P v (bP (I h) D))).r=if n.gate.toNat=L.gate.toNat/\L.au.toNat-1=n.au.toNat then T else fm h n.gate.toNat (L.au.toNat-1);rw[aD ⟨by rw[jC],J⟩,X.2.1]
    rw[AM,Cc (cD D),Ft,yf,f2];show(jM (cD D) (dq P v (bP (I h) D))).l=if n.gate.toNat=L.gate.toNat/\L.au.toNat=n.au.toNat then T else fm h n.gate.toNat L.au.toNat;rw[aC J,X.2.1,jC,er];exact p4
   exact p3.trans p8.symm
  have f1:(cD y==dn h (bP (I h) y)):=by rw[ff];cases dn h (bP (I h) y)<;>rfl
  have f2:(cD D==dn h (bU (I h) D))=false:=by rw[gH];cases cD D<;>rfl
  rw[f1]at p1 p2 p3 p4;rw[f2]at p5 p6 p7 p8;simp only[fE,if_false,if_true]at p1 p2 p3 p4 p5 p6 p7 p8;have er:n.au.toNat=L.au.toNat+1:=J;rw[er]at p5 p6 p7 p8;rw[Is]at p5 p7;refine⟨L.au.toNat,λk j=>if k=L.gate.toNat/\j=L.au.toNat then T else fp h k j,λk j=>if k=L.gate.toNat/\j=L.au.toNat then O else fm h k j,J,J,.inl ⟨J,J⟩,λk j E=>⟨aC E,aC E⟩,?_,?_,?_⟩
  .constructor
   .rw[kH,Cg (cD y),dH,nU,f1];show(iH (cD y) (dq P v (bU (I h) y))).r=if L.gate.toNat=L.gate.toNat/\n.au.toNat-1=L.au.toNat then T else fp h L.gate.toNat (n.au.toNat-1);rw[aD ⟨rfl,J⟩,Q.2.2.1]
   .rw[kH,Cg (cD y),dH,nU,f1];show(iH (cD y) (dq P v (bU (I h) y))).l=if L.gate.toNat=L.gate.toNat/\n.au.toNat=L.au.toNat then T else fp h L.gate.toNat n.au.toNat;rw[aC J,Q.2.2.1,er];exact p6
   .rw[kH,Cc (cD y),dH,nU,f1];show(jM (cD y) (dq P v (bU (I h) y))).r=if L.gate.toNat=L.gate.toNat/\n.au.toNat-1=L.au.toNat then O else fm h L.gate.toNat (n.au.toNat-1);rw[aD ⟨rfl,J⟩,Q.2.2.2]
   rw[kH,Cc (cD y),dH,nU,f1];show(jM (cD y) (dq P v (bU (I h) y))).l=if L.gate.toNat=L.gate.toNat/\n.au.toNat=L.au.toNat then O else fm h L.gate.toNat n.au.toNat;rw[aC J,Q.2.2.2,er];exact xd.symm.trans p8
  .constructor
   .rw[AM,Cg (cD D),Ft,yf,f2];show(jE (jM (cD D) (dq P v (bP (I h) D)))).r=if n.gate.toNat=L.gate.toNat/\L.au.toNat-1=L.au.toNat then T else fp h n.gate.toNat (L.au.toNat-1);rw[aC J,X.2.1,jC];exact p1
   .rw[AM,Cg (cD D),Ft,yf,f2];show(jE (jM (cD D) (dq P v (bP (I h) D)))).l=if n.gate.toNat=L.gate.toNat/\L.au.toNat=L.au.toNat then T else fp h n.gate.toNat L.au.toNat;rw[aD ⟨by rw[jC],rfl⟩,X.2.1];rfl
   .rw[AM,Cc (cD D),Ft,yf,f2];show(jE (iH (cD D) (dq P v (bP (I h) D)))).r=if n.gate.toNat=L.gate.toNat/\L.au.toNat-1=L.au.toNat then O else fm h n.gate.toNat (L.au.toNat-1);rw[aC J,X.1,jC];exact xc.trans p3
   rw[AM,Cc (cD D),Ft,yf,f2];show(jE (iH (cD D) (dq P v (bP (I h) D)))).l=if n.gate.toNat=L.gate.toNat/\L.au.toNat=L.au.toNat then O else fm h n.gate.toNat L.au.toNat;rw[aD ⟨by rw[jC],rfl⟩,X.1];exact xb.symm
  exact p2.trans p5.symm
 clear p1 p2 p3 p4 p5 p6 p7 p8 hR;have aH:∀i,i<I h->(dq P v i).k.ay->(i=bU (I h) y\/i=bP (I h) D)\/(dq P v i=e_ h i/\i≠bP (I h) y/\i≠bU (I h) y/\i≠bP (I h) D/\i≠bU (I h) D):=λi H hp=>by
  rcases az i H with(rfl|rfl|rfl|rfl)|E
  .rw[kT,kJ cv]at hp;cases hp
  .exact .inl (.inl rfl)
  .exact .inl (.inr rfl)
  .rw[HP,kJ cw]at hp;cases hp
  exact .inr E
 have aw:∀i,i<I h->(dq P v i).k.ak->(i=bP (I h) y\/i=bU (I h) D)\/(dq P v i=e_ h i/\i≠bP (I h) y/\i≠bU (I h) y/\i≠bP (I h) D/\i≠bU (I h) D):=λi H hc=>by
  have N:∀(l:U) (r:Int),l.ay->({l with au:=r}:U).ak=false:=λl r E=>nL E;rcases az i H with(rfl|rfl|rfl|rfl)|E
  .exact .inl (.inl rfl)
  .rw[kH,N _ _ pp]at hc;cases hc
  .rw[AM,N _ _ pq]at hc;cases hc
  .exact .inl (.inr rfl)
  exact .inr E
 have av:∀i,i<I h->(dq P v i).k.ay->∃j l,h[j]?=some l/\l.ay/\(dq P v i).k.gate=l.gate/\(dq P v i).k.au=l.au/\((i=bU (I h) y/\j=bU (I h) D)\/(i=bP (I h) D/\j=bP (I h) y)\/(i=j/\i≠bP (I h) y/\i≠bU (I h) D)):=λi H hp=>by
  rcases aH i H hp with(rfl|rfl)|⟨e,N,n2,n3,n4⟩
  .exact⟨_,n,Ap,pq,by rw[kH];exact jC.symm,by rw[kH],.inl ⟨rfl,rfl⟩⟩
  .exact⟨_,L,zw,pp,by rw[AM];exact jC,by rw[AM],.inr (.inl ⟨rfl,rfl⟩)⟩
  obtain⟨l,hl⟩:=aP H;rw[e]at hp;rw[fU hl]at hp;exact⟨i,l,hl,hp,by rw[e,fU hl],by rw[e,fU hl],.inr (.inr ⟨rfl,N,n4⟩)⟩
 have C1:zW (dq P v (bP (I h) y)) (dq P v (bU (I h) D)):=by
  obtain⟨b1,m,hm,mc,mi,mo,ms⟩:=qN ok.cr Y cv;rw[<-o1,w7]at hm;have em:=kA hm;subst em;refine⟨by rw[kT,HP,mo];simp,by rw[kT,HP,ms],?_⟩;rw[kT,q1,<-ZR,Q.1,Q.2.1,X.2.2.1,X.2.2.2];constructor<;>simp only[if_true]
  .exact qt
  .rfl
  .rfl
  rfl
 have bm:lv.id=lw.id:=by obtain⟨b1,m,hm,mc,mi,mo,ms⟩:=qN ok.cr Y cv;rw[<-o1,w7]at hm;rw[kA hm,mi]
 have Qx:iI h (bP (I h) D)=bU (I h) y:=by rw[o1];exact(qN ok.cr Y cv).1
 have aO:∀(f:Bool) i,i<I h->∀t,t=(iH f (dq P v i)).l\/t=(iH f (dq P v i)).r->∃j',j'<I h/\(t=(v j').l\/t=(v j').r):=λf i H t B=>by
  cases f
  .refine⟨i,H,?_⟩;rcases B with B|B
   .exact .inr B
   exact .inl B
  refine⟨(i+I P-1)%I P,?_,B⟩;rw[BB];exact cT _ hn
 have aX:∀(f:Bool) i,i<I h->∀t,t=(jM f (dq P v i)).l\/t=(jM f (dq P v i)).r->∃j',j'<I h/\(t=(v j').l\/t=(v j').r):=λf i H t B=>by
  cases f
  .refine⟨(i+I P-1)%I P,?_,?_⟩
   .rw[BB];exact cT _ hn
   rcases B with B|B
   .exact .inr B
   exact .inl B
  exact⟨i,H,B⟩
 have ar:=cz.gz;rw[iX]at ar;refine ako g (u:=T) (h:=v) (T:=T') (B:=B') BB (uI _ λ_ _=>rfl) (uI _ λ_ _=>rfl) (λk=>uI _ λ_ _=>rfl) (λi H=>?_) (λi j H hj iT ci cj e=>?_) (λi j H hj iT pi pj e1 e2=>?_) (λi H ci=>?_) (λi H pi=>?_) (λi H pi=>?_) (λk hk=>?_) ?_ (λj hj t B=>?_)
 .rcases az i H with(rfl|rfl|rfl|rfl)|⟨e,_⟩
  .exact⟨by rw[kT];exact g.bad lv (a7 Y),λ_=>adP (by rw[Q.1,Q.2.1]),λhp=>by rw[kT,kJ cv]at hp;cases hp⟩
  .have fl:=ade (y:=e_ h (bP (I h) y)) (by rw[Q.2.2.1]) (by rw[Q.2.2.2,bp];exact bv.symm);refine⟨by rw[kH];exact am7 pp (g.bad L (a7 zw)),λhc=>?_,λ_=>?_⟩
   .rw[kH]at hc;have:=nL (l:={L with au:=n.au}) pp;rw[this]at hc;cases hc
   rw[fl.1,fl.2,dH];exact(EF g t1).pb (by rw[fU zw];exact pp)
  .have fl:=ade (y:=e_ h (bU (I h) D)) (by rw[X.1,bq];exact bw) (by rw[X.2.1]);refine⟨by rw[AM];exact am7 pq (g.bad n (a7 Ap)),λhc=>?_,λ_=>?_⟩
   .rw[AM]at hc;have:=nL (l:={n with au:=L.au}) pq;rw[this]at hc;cases hc
   rw[fl.1,fl.2,Ft];exact(EF g M).pb (by rw[fU Ap];exact pq)
  .exact⟨by rw[HP];exact g.bad lw (a7 w7),λ_=>adP (by rw[X.2.2.1,X.2.2.2]),λhp=>by rw[HP,kJ cw]at hp;cases hp⟩
  rw[e];exact EF g H
 .rcases aw i H ci with(rfl|rfl)|⟨ei,N,n2,n3,n4⟩<;>rcases aw j hj cj with(rfl|rfl)|⟨ej,m1,m2,m3,m4⟩
  .exact absurd rfl iT
  .exact C1
  .exfalso;obtain⟨l,hl⟩:=aP hj;rw[kT,ej,fU hl]at e;rw[ej,fU hl]at cj;have:=uL g Y hl cv cj e m2.symm;rw[<-o1]at this;exact m3 this.symm
  .exact C1.symm
  .exact absurd rfl iT
  .exfalso;obtain⟨l,hl⟩:=aP hj;rw[HP,ej,fU hl]at e;rw[ej,fU hl]at cj;have:=uL g w7 hl cw cj e m3.symm;rw[Qx]at this;exact m2 this.symm
  .exfalso;obtain⟨l,hl⟩:=aP H;rw[kT,ei,fU hl]at e;rw[ei,fU hl]at ci;have:=uL g Y hl cv ci e.symm n2.symm;rw[<-o1]at this;exact n3 this.symm
  .exfalso;obtain⟨l,hl⟩:=aP H;rw[HP,ei,fU hl]at e;rw[ei,fU hl]at ci;have:=uL g w7 hl cw ci e.symm n3.symm;rw[Qx]at this;exact n2 this.symm
  rw[ei]at ci e |-;rw[ej]at cj e |-;exact Ps g H hj iT ci cj e
 .obtain⟨a,l,hl,_,aF,vR,c1⟩:=av i H pi;obtain⟨b,m,hm,_,a9,xn,c2⟩:=av j hj pj;rename_i Nv aM;have dp:a≠b:=by
   intro e;rcases c1 with⟨i1,j1⟩|⟨i1,j1⟩|⟨i1,i2,i3⟩<;>rcases c2 with⟨k1,k2⟩|⟨k1,k2⟩|⟨k1,k2,k3⟩
   .exact iT (i1.trans k1.symm)
   .exact R (by rw[<-k2,<-e,j1])
   .exact k3 (by rw[k1,<-e,j1])
   .exact R (by rw[<-j1,e,k2])
   .exact iT (i1.trans k1.symm)
   .exact k2 (by rw[k1,<-e,j1])
   .exact i3 (by rw[i1,e,k2])
   .exact i2 (by rw[i1,e,k2])
   exact iT (by rw[i1,k1,e])
  exact dp (ok.ax.inj a b l m hl hm Nv aM ((Db (ok.ax.fA l (a7 hl) Nv) (ok.ax.fA m (a7 hm) aM)).2 ⟨by rw[<-aF,<-a9,e1],by rw[<-vR,<-xn,e2]⟩))
 .rcases aw i H ci with(rfl|rfl)|⟨ei,_⟩
  .rw[kT];exact g.ids.1 lv (a7 Y) cv
  .rw[HP];exact g.ids.1 lw (a7 w7) cw
  obtain⟨l,hl⟩:=aP H;rw[ei,fU hl]at ci |-;exact g.ids.1 l (a7 hl) ci
 .obtain⟨a,l,hl,Nv,aF,vR,_⟩:=av i H pi;rw[aF,vR];obtain⟨_,_,b1,b2⟩:=ok.ax.fA l (a7 hl) Nv;exact⟨b1,b2⟩
 .rcases aH i H pi with(rfl|rfl)|⟨ei,N,n2,n3,n4⟩
  .exact pl1
  .exact pl2
  obtain⟨l,hl⟩:=aP H;rw[ei]at pi |-;rw[fU hl]at pi;obtain⟨A,z,a3,a4⟩:=R5 g hl pi;rw[fU hl]at A z a3 a4;obtain⟨b0,_,b1,b2⟩:=ok.ax.fA l (a7 hl) pi;have xV:l.gate.toNat=L.gate.toNat->l.au.toNat≠r/\l.au.toNat-1≠r:=λjV=>by have gg:l.gate=L.gate:=J;have d1:l.au≠L.au:=λe=>N (ok.ax.inj i _ l L hl zw pi pp ((Db (ok.ax.fA l (a7 hl) pi) (ok.ax.fA L (a7 zw) pp)).2 ⟨gg,e⟩));have d2:l.au≠n.au:=λe=>n4 (ok.ax.inj i _ l n hl Ap pi pq ((Db (ok.ax.fA l (a7 hl) pi) (ok.ax.fA n (a7 Ap) pq)).2 ⟨by rw[gg,jC],e⟩));rcases iE with⟨s1,s2⟩|⟨s1,s2⟩<;>omega
  have kU:=hT l.gate.toNat (l.au.toNat-1) (λ⟨Z,M⟩=>(xV Z).2 M);have v2:=hT l.gate.toNat l.au.toNat (λ⟨Z,M⟩=>(xV Z).1 M);constructor
  .rw[fU hl,kU.1];exact A
  .rw[fU hl,v2.1];exact z
  .rw[fU hl,kU.2];exact a3
  rw[fU hl,v2.2];exact a4
 .have:=(cz.gt) k hk;rw[iX]at this;have kU:=hT k (aV h k) (λ⟨Z,M⟩=>by rw[Z]at M;omega);have v2:=hT (k+1) 0 (λ⟨_,M⟩=>J);rw[kU.1,kU.2,v2.1,v2.2];exact this
 .have kU:=hT F (aV h F) (λ⟨Z,M⟩=>by rw[Z]at M;omega);have v2:=hT 0 0 (λ⟨_,M⟩=>J);rw[kU.1,kU.2,v2.1,v2.2];exact ar
 have ap:∀d,j=d/2->t=(xy h d).l\/t=(xy h d).r:=λd hd=>by
  rw[hd]at B;unfold xy;split
  .exact B
  exact B.symm
 by_cases N:j=y/2
 .rcases ap y N with E|E
  .exact .inl E
  exact .inr (aO (cD D) _ t2 t (.inl (by rw[X.1,E];exact xc.symm)))
 by_cases n2:j=D/2
 .rcases ap D n2 with E|E
  .exact .inl (E.trans xa.symm)
  exact .inr (aX (cD y) _ Z t (.inl (by rw[Q.2.2.2,E];exact xd)))
 exact .inr ⟨j,hj,by rw[ab j N n2];exact B⟩
def PB(g:bj F h){a b:Nat}(ha:a<I h)(Z:b<I h)(dp:a≠b){L:aW}(aj:rb F h a b=some L):gO F L:=by
 unfold rb at aj;split at aj
 case isFalse=>cases aj
 rename_i hc;simp only[cP,ke,mM,c8]at hc;obtain⟨h1,h2,h3,h4,h5⟩:=hc;cases aj;have hn:=gy.2 g.ne;have aX:=bY h;obtain⟨ea,⟨la,X,ca⟩,ma,H,qa⟩:=Vn hn ha h1;obtain⟨eb,⟨lb,Y,cb⟩,M,R,qb⟩:=Vn hn Z h2;generalize(kZ h a).1=u at*;generalize(kZ h a).2.1=va at*;generalize(kZ h b).1=pb at*;generalize(kZ h b).2.1=i_ at*;rw[gU (fX X),gU (fX Y)]at h4;rw[gU (fX H),gU (fX R)];obtain⟨w,hw,mA,d,d1,d2,d3,d4,two,cs⟩:=abq g ha Z dp ea eb X Y H R ca cb qa qb h4 h3 h5;have pc:∀ {x y:Nat}{l m:U},h[x]?=some l->h[y]?=some m->l.ak->m.ay->x≠y:=λh1 h2 h3 h4 e=>by grind [nL]
 have D:=pc X H ca qa;have E:=pc Y R cb qb;have v:=pc X R ca qb;have z:=pc Y H cb qa
 let f:=dY (dY (an h) u M.au) pb ma.au
 have Zz:=fX H;have ag:u≠pb->(dY (an h) u M.au)[pb]?=some ⟨M,c9 h pb⟩:=λA=>by rw[pI Zz,aC A.symm];exact fX R
 have ad:∃p,(dY (an h) u M.au)[pb]?=some p:=aP (by rw[tf,aX];exact(bt.1 R).1);have Un:I f=I h:=by show(dY (dY _ _ _) _ _).length=_;rw[tf,tf,aX]
 have e1:I (gX h f a)=I h:=by rw[ub,Un]
 have BB:I (ef h f [a,b])=I h:=by rw[s6,Un]
 have uI:∀q:U->Bool,(∀(l:U) (r:Int),q {l with au:=r}=q l)->aq q ((ef h f [a,b]).map aN.l)=aq q h:=λq hq=>by rw[<-Dl (f:=h) q];show List.countP _ _=List.countP _ _;rw[qg,qg];show(gX h (gX h f a) b).countP _=_;obtain⟨p,hp⟩:=ad;rw[Gg e1 Z (C4 g Z),Gg Un ha (C4 g ha),O5 hp (λp=>hq _ _),O5 Zz (λp=>hq _ _)]
 have ac:u≠pb->f[u]?=some ⟨{ma with au:=M.au},c9 h u⟩/\f[pb]?=some ⟨{M with au:=ma.au},c9 h pb⟩/\ ∀i,i≠u->i≠pb->f[i]?=(an h)[i]? :=λA=>by
  have k:∀j,f[j]?=if j=pb then some ⟨{M with au:=ma.au},c9 h pb⟩else if j=u then some ⟨{ma with au:=M.au},c9 h u⟩else(an h)[j]? :=λj=>by show(dY (dY _ _ _) _ _)[j]?=_;rw[pI (ag A),pI Zz]
  refine⟨by rw[k,aC A,aD rfl],by rw[k,aD rfl],λi N B=>by rw[k,aC B,aC N]⟩
 have ab:u≠pb->(ef h f [a,b])[u]?=f[va]? /\(ef h f [a,b])[va]?=f[u]? /\(ef h f [a,b])[pb]?=f[i_]? /\(ef h f [a,b])[i_]?=f[pb]? /\ ∀i,i≠u->i≠va->i≠pb->i≠i_->(ef h f [a,b])[i]?=f[i]? :=λA=>by
  have k:∀i,(ef h f [a,b])[i]?=if i=nx h b then(gX h f a)[b]? else if i=b then(gX h f a)[nx h b]? else(gX h f a)[i]? :=λi=>At e1 Z i;have k2:=λi=>At Un ha i;have ka:∀i,i≠u->i≠va->(gX h f a)[i]?=f[i]? :=λi N B=>by
   rcases ea with⟨n,Q⟩|⟨n,Q⟩
   .rw[k2,aC (by rw[<-Q];exact B),aC (by rw[<-n];exact N)]
   rw[k2,aC (by rw[<-n];exact N),aC (by rw[<-Q];exact B)]
  have kb:∀i,i≠pb->i≠i_->(ef h f [a,b])[i]?=(gX h f a)[i]? :=λi N B=>by
   rcases eb with⟨n,Q⟩|⟨n,Q⟩
   .rw[k,aC (by rw[<-Q];exact B),aC (by rw[<-n];exact N)]
   rw[k,aC (by rw[<-n];exact N),aC (by rw[<-Q];exact B)]
  have HQ:(gX h f a)[u]?=f[va]? /\(gX h f a)[va]?=f[u]? :=by
   rcases ea with⟨n,Q⟩|⟨n,Q⟩
   .exact⟨by rw[k2,aC (by rw[<-Q];exact D.symm),aD n,<-Q],by rw[k2,aD Q,<-n]⟩
   exact⟨by rw[k2,aD n,<-Q],by rw[k2,aC (by rw[<-n];exact D),aD Q,<-n]⟩
  have Gh:(ef h f [a,b])[pb]?=(gX h f a)[i_]? /\(ef h f [a,b])[i_]?=(gX h f a)[pb]? :=by
   rcases eb with⟨n,Q⟩|⟨n,Q⟩
   .exact⟨by rw[k,aC (by rw[<-Q];exact E.symm),aD n,<-Q],by rw[k,aD Q,<-n]⟩
   exact⟨by rw[k,aD n,<-Q],by rw[k,aC (by rw[<-n];exact E),aD Q,<-n]⟩
  refine⟨by rw[kb _ A z.symm,HQ.1],by rw[kb _ v h3,HQ.2],by rw[Gh.1,ka _ z (Ne.symm h3)],by rw[Gh.2,ka _ A.symm v.symm],λi N B n3 O=>by rw[kb i n3 O,ka i N B]⟩
 rcases cs with⟨c1,c2,c3,c4,c5,c6⟩|⟨c1,c2,c3,c4,c5,c6⟩
 .refine af9 g hw mA d1 d2 d3 d4 rfl two (by rw[c3];exact H) (by rw[c4];exact X) (by rw[c5];exact Y) (by rw[c6];exact R) qa ca cb qb BB uI λA=>?_;rw[c3,c4,c5,c6]at*;obtain⟨g1,g2,T⟩:=ac A;obtain⟨s1,s2,y9,Cz,Vu⟩:=ab A;exact⟨by rw[s1,T _ D v],by rw[s2,g1],by rw[Cz,g2],by rw[y9,T _ z E],λi N B n3 O=>by rw[Vu i N B O n3,T i N O]⟩
 refine af9 g hw mA d1 d2 d3 d4 rfl two (by rw[c3];exact R) (by rw[c4];exact Y) (by rw[c5];exact X) (by rw[c6];exact H) qb cb ca qa BB uI λA=>?_;rw[c3,c4,c5,c6]at*;obtain⟨g1,g2,T⟩:=ac A.symm;obtain⟨s1,s2,y9,Cz,Vu⟩:=ab A.symm;exact⟨by rw[y9,T _ z E],by rw[Cz,g2],by rw[s2,g1],by rw[s1,T _ D v],λi N B n3 O=>by rw[Vu i O n3 N B,T i O N]⟩
end
theorem R4(x y:U):uo x y↔x=y:=by
 constructor
 .intro h;unfold uo at h;simp at h;obtain _:=h;cases x;cases y
  simp_all
 rintro rfl;exact H7 x
def pQ(a b:U):Bool:=if a.kind==b.kind then if a.gate==b.gate then if a.au==b.au then if a.id==b.id then if a.over==b.over then decide (a.sign<b.sign)else b.over else decide (a.id<b.id)else decide (a.au<b.au)else decide (a.gate<b.gate)else decide (a.kind<b.kind)
def rJ:cL->cL->Bool
 |a::A,b::B=>if a=b then rJ A B else decide (a<b)
 |_,_=>false
def awM(A:cL):rJ A A=false:=by
 induction A with
 |nil=>rfl
 |cons a A f=>unfold rJ;rw[aD rfl];exact f
def aoF:∀ {A B:cL},rJ A B->rJ B A=false:=by
 intro A
 induction A with
 |nil=>intro B h;cases B<;>cases h
 |cons a A f=>
  intro B h;cases B with
  |nil=>cases h
  |cons b B=>grind [rJ]
def avw:∀ {A B D:cL},rJ A B->rJ B D->rJ A D:=by
 intro A
 induction A with
 |nil=>intro B D h;cases B<;>cases h
 |cons a A f=>
  intro B D h H;cases B with
  |nil=>cases h
  |cons b B=>
   cases D with
   |nil=>cases H
   |cons d D=>grind [rJ]
def xm(a:U):cL:=[a.kind,a.gate,a.au,a.id,if a.over then 1 else 0,a.sign]
def Pp(a b:U):pQ a b=rJ (xm a) (xm b):=by grind [pQ,xm,rJ]
theorem aAu{a b:U}(h:pQ a b):pQ b a=false:=by rw[Pp]at*;exact aoF h
theorem ay1{a b c:U}(h:pQ a b)(H:pQ b c):pQ a c:=by rw[Pp]at*;exact avw h H
def kS:af->af->Bool
 |a::A,b::B=>if uo a b then kS A B else pQ a b
 |_,_=>false
theorem Vr(A:af):kS A A=false:=by
 induction A with
 |nil=>rfl
 |cons a A f=>unfold kS;rw[aD (H7 a)];exact f
theorem Vl:∀ {A B D:af},kS A B->kS B D->kS A D:=by
 intro A
 induction A with
 |nil=>intro B D h;cases B<;>cases h
 |cons a A f=>
  intro B D h H;cases B with
  |nil=>cases h
  |cons b B=>
   cases D with
   |nil=>cases H
   |cons d D=>grind [kS,R4,aAu,ay1]
def eC(l:af)(i:Nat):af:=l.drop i++l.take i
def qJ(l:af)(i:Nat):Prop:=aq U.ay (l.take i)%2=0
def E6(l:af)(i:Nat):Prop:=(∃x,l[i]?=some x/\x.ay)/\qJ l i
theorem rC(l:af)(i:Nat):I (eC l i)=I l:=by grind [eC]
def B2(q:U->Bool)(a b:af):aq q (a++b)=aq q a+aq q b:=uu
theorem LK(q:U->Bool)(l:af)(i:Nat):aq q (eC l i)=aq q l:=by grind [eC,jS]
def aqC{l:af}{i:Nat}(v:j<=I l)(x:i<I l):∃k,k<I l/\eC (eC l j) i=eC l k/\(eC l j)[i]?=l[k]? /\(aq U.ay l%2=0->qJ l j->qJ (eC l j) i->qJ l k):=by
 by_cases h:i<I l-j
 .refine⟨j+i,J,?_,?_,?_⟩
  .unfold eC;rw[ajO (by rw[rG];omega),Mc (by rw[rG];omega),KS,lf];congr 1;rw[<-QY]
  .unfold eC;rw[s8 (by rw[rG];omega),Fw]
  unfold qJ eC;intro _ n H;rw[Mc (by rw[rG];omega)]at H;rw[QY,B2];omega
 refine⟨i-(I l-j),J,?_,?_,?_⟩
 .unfold eC;obtain⟨d,hd⟩:∃d,d=i-(I l-j):=⟨_,rfl⟩;rw[<-hd];have E:(l.drop j++l.take j).drop i=(l.take j).drop d:=by
   rw[aau,PS (by rw[rG];omega),fB,rG,hd]
  have u:(l.drop j++l.take j).take i=l.drop j++(l.take j).take d:=by grind [Ii,f_]
  rw[E,u,<-lf];have f:(l.take j).take d=l.take d:=by rw[Dn,yO J]
  rw[f];congr 1;have m:l.drop d=(l.take j).drop d++l.drop j:=by
   conv=>lhs;rw[<-jS j l]
   rw[ajO (by rw[jO];omega)]
  exact m.symm
 .unfold eC;rw[qQ (by rw[rG];omega),rG,p_];rw[aD J]
 unfold qJ eC;intro y n H;rw[Ii,f_ (by rw[rG];omega),rG,B2,Dn,yO J]at H;have:aq U.ay l=aq U.ay (l.take j)+aq U.ay (l.drop j):=by rw[<-B2,jS]
 omega
def jP:cL->af->af
 |_,[]=>[]
 |s,x::r=>if x.kind==2 then(if s.contains x.id then{x with id:=((s.idxOf x.id+1:Nat):Int)}::jP s r else{x with id:=((I s+1:Nat):Int)}::jP (s++[x.id]) r)else x::jP s r
def lL(l:af):af:=jP [] l
def dd(f:Int->Int)(x:U):U:=if x.kind==2 then{x with id:=f x.id}else x
def abw(f:Int->Int)(x:U):(dd f x).kind=x.kind:=by unfold dd;split<;>rfl
theorem Gw(f:Int->Int)(x:U):(dd f x).ay=x.ay:=by unfold U.ay;rw[abw]
def inj(f:Int->Int)(l:af):Prop:=∀x∈l,∀y∈l,x.kind=2->y.kind=2->f x.id=f y.id->x.id=y.id
def arn:∀ {l:af}{s:cL},(∀x∈l,x.kind=2->∀a∈s,f x.id=f a->x.id=a)->inj f l->jP (s.map f) (l.map (dd f))=jP s l:=by
 intro l
 induction l with
 |nil=>intro s _ _;rfl
 |cons x r n=>
  intro s ae B;have z:=λa u b E=>B a (zY _ u) b (zY _ E);by_cases m:x.kind=2
  .have R:(x.kind==2):=by rw[m];rfl
   have e:dd f x={x with id:=f x.id}:=aD R;have j:(s.map f).contains (f x.id)=s.contains x.id:=by grind
   rw[eZ,e];unfold jP;simp only[R,if_true,j];cases L:s.contains x.id with
   |true=>
    simp only[if_true];have F:(s.map f).idxOf (f x.id)=s.idxOf x.id:=by
     clear n;have M:=ae x aE m;clear ae j L
     induction s with
     |nil=>rfl
     |cons a s D=>grind
    rw[F,n (λy H=>ae y (zY _ H)) z]
   |false=>
    simp only[fE,if_false,cg];have:=n (λy H A a u h=>by
     rcases gn.1 u with v|v
     .exact ae y (zY _ H) A a v h
     rw[mj.1 v]at h |-;exact B y (zY _ H) x aE A m h) z
    rw[fL]at this;rw[<-this];rfl
  have R:=mM.2 m;have e:dd f x=x:=aC (by rw[R];decide);rw[eZ,e];unfold jP;simp only[R,fE,if_false];rw[n (λy H=>ae y (zY _ H)) z]
theorem aiS{l:af}(h:inj f l):lL (l.map (dd f))=lL l:=arn (s:=[]) (λ_ _ _ _ H=>by cases H) h
def jT:cL->af->cL
 |s,[]=>s
 |s,x::r=>if x.kind==2 then(if s.contains x.id then jT s r else jT (s++[x.id]) r)else jT s r
def ah7:∀(l:af) (s:cL),∃t,jT s l=s++t:=by
 intro l
 induction l with
 |nil=>intro s;exact⟨[],by simp[jT]⟩
 |cons x r f=>
  intro s;unfold jT;split
  .split
   .exact f s
   obtain _:=f (s++[x.id])
   grind
  exact f s
def aA7{s t:cL}{a:Int}(h:a∈s):(s++t).idxOf a=s.idxOf a:=by rw[abQ,aD h]
def amQ:∀(l:af) (s:cL),jP s l=l.map (dd λa=>(((jT s l).idxOf a+1:Nat):Int))/\ ∀x∈l,x.kind=2->x.id∈jT s l:=by
 intro l
 induction l with
 |nil=>intro s;exact⟨rfl,λx h=>by cases h⟩
 |cons x r z=>
  intro s;by_cases v:x.kind=2
  .have R:(x.kind==2):=by rw[v];rfl
   cases f:s.contains x.id with
   |true=>
    have B:=Dr.1 f;have e:jT s (x::r)=jT s r:=by simp only[jT,R,f,if_true]
    obtain⟨j,n⟩:=z s;obtain⟨t,u⟩:=ah7 r s;refine⟨?_,?_⟩
    .have E:jP s (x::r)={x with id:=((s.idxOf x.id+1:Nat):Int)}::jP s r:=by simp only[jP,R,f,if_true]
     rw[e,E,eZ,j]
     grind [dd]
    grind
   |false=>
    have e:jT s (x::r)=jT (s++[x.id]) r:=by simp only[jT,R,f,if_true,fE,if_false]
    obtain⟨j,n⟩:=z (s++[x.id]);obtain⟨t,u⟩:=ah7 r (s++[x.id]);have A:¬x.id∈s:=λh=>by rw[Dr.2 h]at f;cases f
    refine⟨?_,?_⟩
    .have E:jP s (x::r)={x with id:=((I s+1:Nat):Int)}::jP (s++[x.id]) r:=by simp only[jP,R,f,if_true,fE,if_false]
     rw[e,E,eZ,j];congr 1;unfold dd;rw[aD R,u];dsimp only;rw[aA7 aE,abQ,aC A];simp
    rw[e];intro y H m;rcases c7.1 H with rfl|H
    .rw[u];simp
    exact n y H m
  have R:=mM.2 v;have e:jT s (x::r)=jT s r:=by simp only[jT,R,fE,if_false]
  obtain⟨j,n⟩:=z s;refine⟨?_,?_⟩
  .have E:jP s (x::r)=x::jP s r:=by simp only[jP,R,fE,if_false]
   rw[e,E,eZ,j]
   grind [dd]
  rw[e];intro y H m;rcases c7.1 H with rfl|H
  .exact absurd m v
  exact n y H m
theorem ag3{S:cL}{a b:Int}(f:a∈S)(H:b∈S)(h:S.idxOf a=S.idxOf b):a=b:=by rw[<- (Wu (La.2 f)),<- (Wu (La.2 H))];simp[h]
def abo(l:af):∃f,inj f l/\lL l=l.map (dd f):=by obtain⟨m,H⟩:=amQ l [];refine⟨_,?_,m⟩;intro x n y j X Y h;dsimp only at h;exact ag3 (H x n X) (H y j Y) J
theorem YR{l m:af}(h:inj f l)(H:∀x∈m,x∈l):inj f m:=λx n y j=>h x (H x n) y (H y j)
theorem ahJ(f:U->U)(l:af)(i:Nat):eC (l.map f) i=(eC l i).map f:=by unfold eC;simp
theorem Be{l:af}{i:Nat}:x∈eC l i↔x∈l:=by unfold eC;rw[gn,Or.comm,<-gn,jS]
def xN(l y:af):Prop:= ∃i,i<I l/\E6 l i/\y=lL (eC l i)
def yQ(l y:af):Prop:=xN l y\/xN l.reverse y
def RC(l:af):aq U.ay (l.map (dd f))=aq U.ay l:=by grind [qg,A5,Gw]
def aup{l:af}{i:Nat}(h:E6 (l.map (dd f)) i):E6 l i:=by
 obtain⟨⟨x,H,hp⟩,j⟩:=h;rw[fz]at H;cases hl:l[i]? with
 |none=>rw[hl]at H;cases H
 |some y=>rw[hl]at H;cases H;refine⟨⟨y,hl,by rw[Gw]at hp;exact hp⟩,?_⟩;unfold qJ at*;rwa[<-sC,RC]at j
def aqG{l:af}(hf:inj f l)(h:xN (l.map (dd f)) y):xN l y:=by
 obtain⟨i,H,j,rfl⟩:=h;rw[cg]at H;refine⟨i,H,aup j,?_⟩
 grind [ahJ,aiS,YR,Be]
theorem adG{l:af}(n:j<=I l)(u:aq U.ay l%2=0)(hp:qJ l j)(h:xN (eC l j) y):xN l y:=by obtain⟨i,H,⟨⟨x,f,X⟩,v⟩,rfl⟩:=h;rw[rC]at H;obtain⟨k,m,E,A,z⟩:=aqC n H;rw[A]at f;exact⟨k,m,⟨⟨x,f,X⟩,z u hp v⟩,by rw[E]⟩
theorem aut(l:af)(h:j<=I l):(eC l j).reverse=eC l.reverse (I l-j):=by grind [eC,List.drop_reverse,Tg]
theorem aCd{l:af}(f:j<=I l)(H:aq U.ay l%2=0)(hp:qJ l j):qJ l.reverse (I l-j):=by
 unfold qJ at*;rw[Tg,show I l-(I l-j)=j by omega];have h:aq U.ay (l.drop j).reverse=aq U.ay _:=List.countP_reverse;have m:aq U.ay l=aq U.ay (l.take j)+aq U.ay (l.drop j):=by rw[<-B2,jS]
 omega
def yB(x:aQ):aQ:=⟨⟨x.p.l,!x.p.d⟩,jE x.o,jE x.i⟩
def aip(x:aQ):(yB x).up=x.up:=by unfold aQ.up yB;cases x.p.d<;>rfl
def amn(x:aQ):(yB x).lo=x.lo:=by unfold aQ.lo yB;cases x.p.d<;>rfl
def sD.rv{g:Bool}{i o j q:eN}(h:sD g i o j q):sD g (jE o) (jE i) (jE q) (jE j):=by
 obtain⟨a,b,c,d⟩:=h;cases g
 .simp at a b c d;constructor<;>simp
  .exact b
  .exact a
  .exact d
  exact c
 simp at a b c d;constructor<;>simp
 .exact b
 .exact a
 .exact d
 exact c
def nk.rv{x y:aQ}(h:nk x y):nk (yB x) (yB y):=λn m e=>by obtain⟨f,H,j⟩:=h n m e;exact⟨f,H,j.rv⟩
def aqj:∀ {z:fG}{s t:eN},iR s z t->iR (jE t) (z.reverse.map yB) (jE s):=by
 intro z
 induction z with
 |nil=>intro s t h;cases h;rfl
 |cons x z f=>intro s t h;obtain⟨rfl,h⟩:=h;rw[Xm,fL];exact zm.2 ⟨jE x.o,f h,rfl,rfl⟩
def ao1:∀ {z:fG}{s t:eN},iR s z t->∀x∈z,(∃y∈z,y.i=x.o)\/x.o=t:=by
 intro z
 induction z with
 |nil=>intro s t _ x H;cases H
 |cons a z f=>
  intro s t h x H;obtain⟨rfl,h⟩:=h;rcases c7.1 H with rfl|H
  .cases z with
   |nil=>exact .inr h
   |cons b z=>exact .inl ⟨b,aE,h.1⟩
  grind
def fT.next{S:aG}(c:fT F z T B S){x:aQ}(H:x∈z):∃y∈z,y.i=x.o:=by
 obtain⟨s,h⟩:=c.path;rcases ao1 h x H with e|e
 .exact e
 cases z with
 |nil=>cases H
 |cons a z=>exact⟨a,aE,by rw[h.1,e]⟩
def I0(z:fG):aK (z.reverse.map yB)=(aK z).reverse:=by rw[<-OS];show List.map _ _=_;rw[h_];rfl
def yL(q:U->Bool)(l:af):aq q l.reverse=aq q l:=List.countP_reverse
def fT.rv{S:aG}(c:fT F z T B S):fT F (z.reverse.map yB) T B S:=by
 obtain⟨s,h⟩:=c.path;have j:∀x∈z.reverse.map yB,∃y∈z,x=yB y:=λx H=>by grind
 have E:∀g,aV (aK _) g=aV (aK z) g:=λg=>by rw[I0];exact yL _ _
 refine⟨⟨_,aqj h⟩,λx H=>?_,?_,by rw[I0,yL];exact c.ev,λx H m=>?_,?_,λx H hp=>?_,λx H hp=>?_,λg v=>by rw[E];exact c.gt g v,by rw[E];exact c.gz,?_,c.nd,λs ae=>?_,by rw[I0,yL,yL];exact c.num⟩
 .obtain⟨y,f,rfl⟩:=j x H;obtain⟨M,A,O⟩:=c.ok y f;refine⟨M,λm=>(A m).symm,λhp=>?_⟩;obtain⟨n,u⟩:=O hp;refine⟨u,?_⟩;show y.o.b= !(!y.p.d);rw[n,yI]
 .refine vO.2 (List.pairwise_reverse.2 (c.cr.imp λ{a b} D=>D.symm.rv))
 .obtain⟨y,f,rfl⟩:=j x H;rw[I0,yL];exact c.ids y f m
 .refine vO.2 (List.pairwise_reverse.2 (c.rk.imp λ{a b} D=>D.symm))
 .obtain⟨y,f,rfl⟩:=j x H;rw[E];exact c.rr y f hp
 .obtain⟨y,f,rfl⟩:=j x H;obtain⟨a,b,d,e⟩:=c.pl y f hp;exact⟨by rw[aip];exact a,by rw[aip];exact b,by rw[amn];exact d,by rw[amn];exact e⟩
 .obtain⟨x,H,hp⟩:=c.one;exact⟨yB x,ch.2 ⟨x,zJ.2 H,rfl⟩,hp⟩
 obtain⟨x,H,e⟩:=c.wit s ae;obtain⟨y,f,L⟩:=c.next H;refine⟨yB y,ch.2 ⟨y,zJ.2 f,rfl⟩,?_⟩;show s=y.i.r\/s=y.i.l;rw[L];exact e.symm
def oL(f:Int->Int)(x:aQ):aQ:=⟨⟨dd f x.p.l,x.p.d⟩,x.i,x.o⟩
theorem U0(f:Int->Int)(x:U):(dd f x).gate=x.gate:=by unfold dd;split<;>rfl
theorem acH(f:Int->Int)(x:U):(dd f x).au=x.au:=by unfold dd;split<;>rfl
def ab1(f:Int->Int)(x:U):(dd f x).sign=x.sign:=by unfold dd;split<;>rfl
def abc(f:Int->Int)(x:U):(dd f x).over=x.over:=by unfold dd;split<;>rfl
def XR(f:Int->Int)(x:U):(dd f x).ak=x.ak:=by unfold U.ak;rw[abw]
def V2(h:x.ak):(dd f x).id=f x.id:=by unfold dd;rw[aD (show(x.kind==2)=true from h)]
def RN(h:x.ak=false):dd f x=x:=by unfold dd;exact aC (by rw[show(x.kind==2)=false from h];decide)
def apy(h:eo F x=false):eo F (dd f x)=false:=by grind [dd,eo]
def Ok(f:Int->Int)(z:fG):aK (z.map (oL f))=(aK z).map (dd f):=by show List.map _ _=List.map _ _;rw[h_,h_];rfl
def U8{q:U->Bool}(h:∀x,q (dd f x)=q x)(l:af):aq q (l.map (dd f))=aq q l:=by grind [qg,A5]
def aAv(f:Int->Int)(l:af)(g:Nat):aV (l.map (dd f)) g=aV l g:=U8 (λx=>by unfold jq;rw[Gw,U0]) l
def fT.rn{S:aG}(c:fT F z T B S)(hf:inj f (aK z))(hi:∀x∈z,x.k.ak->1<=f x.k.id/\f x.k.id<=((aq U.ak (aK z)/2:Nat):Int)):fT F (z.map (oL f)) T B S:=by
 obtain⟨s,h⟩:=c.path;have L:∀x∈z.map (oL f),∃y∈z,x=oL f y:=λx H=>by obtain⟨y,j,rfl⟩:=ch.1 H;exact⟨y,j,rfl⟩
 have M:∀g,aV (aK (z.map (oL f))) g=aV (aK z) g:=λg=>by rw[Ok,aAv]
 have Q:aq U.ak (aK (z.map (oL f)))=aq U.ak (aK z):=by rw[Ok];exact U8 (XR f) _
 have eP:aq U.ay (aK (z.map (oL f)))=aq U.ay (aK z):=by rw[Ok];exact U8 (Gw f) _
 have N:∀y:aQ,(oL f y).k.ak=y.k.ak:=λy=>XR f y.k;have n:∀y:aQ,(oL f y).k.ay=y.k.ay:=λy=>Gw f y.k;have kl:∀y∈z,y.k∈aK z:=λy j=>ch.2 ⟨y,j,rfl⟩;have HC:∀ {z:fG}{s t:eN},iR s z t->iR s (z.map (oL f)) t:=by
  intro z
  induction z with
  |nil=>intro s t h;exact h
  |cons x z ih=>intro s t h;exact⟨h.1,ih h.2⟩
 refine⟨⟨s,HC h⟩,λx H=>?_,?_,by rw[Q];exact c.ev,λx H m=>?_,?_,λx H hp=>?_,λx H hp=>?_,λg hg=>by rw[M];exact c.gt g hg,by rw[M];exact c.gz,?_,c.nd,λs ae=>?_,by rw[eP,Q];exact c.num⟩
 .obtain⟨y,j,rfl⟩:=L x H;obtain⟨o1,o2,o3⟩:=c.ok y j;exact⟨apy o1,λm=>o2 (by rw[N]at m;exact m),λhp=>o3 (by rw[n]at hp;exact hp)⟩
 .refine vO.2 (RA (λ{a b} ha hb O=>?_) c.cr);intro A D e;rw[N]at A D;have X:f a.k.id=f b.k.id:=by
   have:=e;rwa[show(oL f a).k.id=f a.k.id from V2 A,show(oL f b).k.id=f b.k.id from V2 D]at this
  obtain⟨h1,Z,h3⟩:=O A D (hf _ (kl a ha) _ (kl b hb) (c8.1 A) (c8.1 D) X);refine⟨?_,?_,?_⟩
  .show(dd f a.k).over= !(dd f b.k).over;rw[abc,abc];exact h1
  .show(dd f a.k).sign=(dd f b.k).sign;rw[ab1,ab1];exact Z
  show sD (cM (dd f a.k)) _ _ _ _;have:cM (dd f a.k)=cM a.k:=by unfold cM;rw[abc,ab1]
  rw[this];exact h3
 .obtain⟨y,j,rfl⟩:=L x H;rw[N]at m;rw[Q,show(oL f y).k.id=f y.k.id from V2 m];exact hi y j m
 .refine vO.2 (c.rk.imp λ{a b} O=>?_);intro Y R e1 X;rw[n]at Y R;refine O Y R ?_ ?_
  .grind [oL,U0]
  grind [oL,acH]
 .obtain⟨y,j,rfl⟩:=L x H;rw[n]at hp;rw[M,show(oL f y).k.au=y.k.au from acH f y.k,show(oL f y).k.gate=y.k.gate from U0 f y.k];exact c.rr y j hp
 .obtain⟨y,j,rfl⟩:=L x H;rw[n]at hp;obtain⟨a,b,d,e⟩:=c.pl y j hp;have u:(oL f y).up=y.up:=rfl;have w:(oL f y).lo=y.lo:=rfl;have v:(oL f y).k.gate=y.k.gate:=U0 f y.k;have E:(oL f y).k.au=y.k.au:=acH f y.k;exact⟨by rw[u,v,E];exact a,by rw[u,v,E];exact b,by rw[w,v,E];exact d,by rw[w,v,E];exact e⟩
 .obtain⟨x,H,hp⟩:=c.one;exact⟨oL f x,ch.2 ⟨x,H,rfl⟩,by rw[n];exact hp⟩
 obtain⟨x,H,e⟩:=c.wit s ae;exact⟨oL f x,ch.2 ⟨x,H,rfl⟩,e⟩
def agk:∀(l:af) (s:cL),s.Nodup->(jT s l).Nodup/\ ∀a∈jT s l,a∈s\/ ∃x∈l,x.ak/\x.id=a:=by
 intro l
 induction l with
 |nil=>intro s h;exact⟨h,λa f=>.inl f⟩
 |cons x r u=>
  intro s h;unfold jT;split
  .rename_i z;split
   .grind
   rename_i A;obtain⟨n,j⟩:=u (s++[x.id]) (by rw[SZ];refine⟨h,aE,λa f b v e=>?_⟩;rw[mj.1 v]at e;exact(λh=>A (Dr.2 h)) (e▸f))
   refine⟨n,λa f=>?_⟩;rcases j a f with H|⟨y,m,H⟩
   .rcases gn.1 H with H|H
    .exact .inl H
    exact .inr ⟨x,aE,z,(mj.1 H).symm⟩
   exact .inr ⟨y,by simp[m],H⟩
  obtain⟨n,j⟩:=u s h;refine⟨n,λa f=>?_⟩;rcases j a f with H|⟨y,m,H⟩
  .exact .inl H
  exact .inr ⟨y,by simp[m],H⟩
def aAx(l:af)(D:∀x∈l,x.ak->1<=x.id/\x.id<=((aq U.ak l/2:Nat):Int)):∃f,inj f l/\lL l=l.map (dd f)/\ ∀x∈l,x.ak->1<=f x.id/\f x.id<=((aq U.ak l/2:Nat):Int):=by
 obtain⟨v,j⟩:=amQ l [];refine⟨_,?_,v,?_⟩
 .intro x H y A X Y h
  grind [ag3]
 intro x H z;have B:=La.2 (j x H (c8.1 z));obtain⟨N,E⟩:=agk l [] qK;have m:∀a∈jT [] l,1<=a/\a<=((aq U.ak l/2:Nat):Int):=λa u=>by grind
 have:=I5 ((jT [] l).map Int.toNat) (List.range' 1 (aq U.ak l/2)) ?_ ?_
 .grind
 .refine vO.2 (RA (λ{a b} u n h e=>h ?_) N);have:=m b n;omega
 grind
def fT.rotN{S:aG}(c:fT F z T B S)(i:Nat):fT F (z.drop i++z.take i) T B S:=by rw[<-jS i z]at c;exact c.mJ
def aei{S:aG}(c:fT F z T B S)(O:∀x,z[0]?=some x->x.i.b=false)(hl:I z<=400)(R:aq U.ak (aK z)<=200)(Z:F<=40)(h:xN (aK z) y):dk F y=0:=by
 obtain⟨i,hi,⟨⟨x,j,hp⟩,N⟩,rfl⟩:=h;obtain⟨e,n,rfl⟩:=CK j;have D:e.p.d:=by
  obtain⟨s,ae⟩:=c.path;have H:0<I z:=by have:=(bt.1 n).1;omega
  obtain⟨a,ha⟩:∃a,z[0]?=some a:=⟨z[0],tH H⟩;have:=(Lm c.ok ae (by rw[<-Kj ae ha];exact O a ha) i e n).1;have m:=((c.ok e (a7 n)).pb hp).2;rw[this]at m;have Q:dn (aK z) i:=by
   unfold dn;have:aq U.ay ((aK z).take i)%2=0:=N
   simpa using this
  rw[Q]at m;cases X:e.p.d
  .rw[X]at m;cases m
  rfl
 have E:aK (z.drop i++z.take i)=eC (aK z) i:=by unfold eC aK;rw[fL,vv,sC]
 have v:aq U.ak (eC (aK z) i)=aq U.ak (aK z):=LK _ _ _;obtain⟨f,hf,M,A⟩:=aAx (eC (aK z) i) (λx j u=>by rw[v];obtain⟨w,L,rfl⟩:=ch.1 (Be.1 j);exact c.ids w L u)
 rw[M];rw[<-E]at hf A;have Y:z.drop i=e::z.drop (i+1):=by obtain⟨hl,e⟩:=bt.1 n;rw[<-e,ux]
 rw[<-E,<-Ok];refine((c.rotN i).rn hf (λx j u=>A _ (ch.2 ⟨x,j,rfl⟩) u)).check (x:=oL f e) (by rw[Y];rfl) ?_ D ?_ ?_ Z
 .show(dd f e.k).ay=true;rw[Gw];exact hp
 .grind
 rw[Ok,U8 (XR f),E,v];exact R
def aru(a b:U):aL S 151 [IJ a,IJ b] (fv (pQ a b)):=by
 by_cases h:a.kind=b.kind
 .by_cases H:a.gate=b.gate
  .by_cases f:a.au=b.au
   .by_cases j:a.id=b.id
    .cases m:(a.over==b.over)
     case' true=>have e:pQ a b=decide (a.sign<b.sign):=by simp only[pQ,h,H,f,j,m,sv,if_true]
     case' false=>have e:pQ a b=b.over:=by simp only[pQ,h,H,f,j,m,sv,if_true,fE,if_false]
     all_goals
      rw[e];refine cG Np ?_;simp only[go_sem,Lc,h,H,f,j,m,bne,U.ps,ai,aB]
    have A:(a.id==b.id)=false:=by simp[j]
    have e:pQ a b=decide (a.id<b.id):=by simp only[pQ,h,H,f,A,sv,if_true,fE,if_false]
    rw[e];refine cG Np ?_;simp only[go_sem,Lc,h,H,f,A,bne,U.ps,ai,aB]
   have v:(a.au==b.au)=false:=by simp[f]
   have e:pQ a b=decide (a.au<b.au):=by simp only[pQ,h,H,v,sv,if_true,fE,if_false]
   rw[e];refine cG Np ?_;simp only[go_sem,Lc,h,H,v,bne,U.ps,ai,aB]
  have n:(a.gate==b.gate)=false:=by simp[H]
  have e:pQ a b=decide (a.gate<b.gate):=by simp only[pQ,h,n,sv,if_true,fE,if_false]
  rw[e];refine cG Np ?_;simp only[go_sem,Lc,h,n,bne,U.ps,ai,aB]
 have L:(a.kind==b.kind)=false:=by simp[h]
 have e:pQ a b=decide (a.kind<b.kind):=by simp only[pQ,L,fE,if_false]
 rw[e];refine cG Np ?_;simp only[go_sem,Lc,L,bne,U.ps,ai,aB]
def agB{A:af}{k:Nat}(h:k<I A):A.drop k=nQ A k::A.drop (k+1):=by simp_all
def ayI(A B:af)(L:I A=I B)(hl:I A<=1000000):aL S 127 [.one (.p (gC A)),.one (.p (gC B))] (fv (kS A B)):=by
 generalize E:kS A B=r;refine cG az1 ?_;simp only[go_sem,afD,ai,aB];refine dt (λk f blk=>f 0=.one (.p (gC A))/\f 1=.one (.p (gC B))/\f 7=aI (I A)/\f 8=aI k/\kS (A.drop k) (B.drop k)=r) 0 (I A) (bZ _) ?_ ?_
 .simp only[go_sem]
  grind
 rintro k f blk F ⟨v,x,y,u,H⟩
 by_cases j:k<I A
 .have N:=jh (A7 j);have Q:=jh (A7 (h:=B) (i:=k) J);have D:(k:Int)<(I A:Int):=J;have z:=cS (n:=k) J;have M:k<I B:=J;rw[agB j,agB M]at H;unfold kS at H;cases m:uo (nQ A k) (nQ B k)with
  |true=>rw[aD m]at H;simp only[go_sem,UO,v,x,y,u,N,Q,eR,U.ps,D,j,M,z,Ko,m,ai,aB];exact⟨aS,H⟩
  |false=>rw[aC (by rw[m];decide)]at H;have pl:=aru (nQ A k) (nQ B k);rw[H]at pl;simp only[go_sem,UO,v,x,y,u,N,Q,eR,U.ps,D,j,M,z,Ko,m,auc,fx pl,ai,aB];first|exact⟨aS,aS,rfl⟩|exact⟨aS,aS⟩
 have:k=I A:=J;subst this;rw[Lx,PS J]at H;have H:false=r:=H;subst H;simp only[go_sem,UO,acP,v,x,y,u,fF,ai,aB]
theorem acK(l:af)(x:U):∀s,jT s (l++[x])=if x.kind==2 then(if(jT s l).contains x.id then jT s l else jT s l++[x.id])else jT s l:=by
 induction l with
 |nil=>intro s;rfl
 |cons a r f=>
  intro s
  grind [jT]
def I7(s:cL)(x:U):U:=if x.kind==2 then(if s.contains x.id then{x with id:=((s.idxOf x.id+1:Nat):Int)}else{x with id:=((I s+1:Nat):Int)})else x
theorem akE(l:af)(x:U):∀s,jP s (l++[x])=jP s l++[I7 (jT s l) x]:=by
 induction l with
 |nil=>
  intro s;show jP s [x]=[I7 s x];unfold jP I7;split
  .split<;>rfl
  rfl
 |cons a r f=>
  intro s
  grind [jP,jT]
theorem H_:∀(l:af) (s:cL),I (jP s l)=I l:=by
 intro l
 induction l with
 |nil=>intro s;rfl
 |cons a r f=>grind [jP]
theorem Az(l:af):I (lL l)=I l:=H_ l []
def Bl(s:cL)(i:Nat):jd:=match s with
 |[]=>[]
 |a::r=>(a,((i+1:Nat):Int))::Bl r (i+1)
def azC:∀(s:cL) (i:Nat),I (Bl s i)=I s:=by
 intro s
 induction s with
 |nil=>intro i;rfl
 |cons a r f=>intro i;show(Bl r _).length+1=_;rw[f];rfl
def awg(a:Int):∀(s:cL) (i:Nat),Bl s i++[(a,((i+I s+1:Nat):Int))]=Bl (s++[a]) i:=by
 intro s
 induction s with
 |nil=>intro i;rfl
 |cons b r f=>grind [Bl]
def ain(x:Int):∀(s:cL) (i:Nat),NR (Bl s i) x i=if s.contains x then some (i+s.idxOf x,((i+s.idxOf x+1:Nat):Int))else none:=by
 intro s
 induction s with
 |nil=>intro i;rfl
 |cons a r f=>
  intro i;show(if x==a then some _ else NR _ x _)=_;by_cases h:x=a
  .subst h;simp
  have H:=mM.2 h;rw[H,f _,List.contains_cons,H,DC,List.idxOf_cons,mM.2 (Ne.symm h)]
  grind
def tD(L:af)(k:Nat):af:=jP [] (L.take k)++L.drop k
def aBp(L:af){k:Nat}:I (tD L k)=I L:=by grind [tD,H_]
def Wl{k:Nat}(h:L[k]?=some x):L.take (k+1)=L.take k++[x]:=by obtain⟨hl,e⟩:=bt.1 h;rw[<-e,List.take_append_getElem]
def axW{k:Nat}(h:L[k]?=some x):(tD L k)[k]?=some x:=by have hl:=(bt.1 h).1;unfold tD;rw[qQ (by rw[H_,jO];omega),H_,jO,Fw,yO J,xt,uz,h]
def atm{k:Nat}(h:L[k]?=some x):(tD L k).set k (I7 (jT [] (L.take k)) x)=tD L (k+1):=by
 obtain⟨hl,e⟩:=bt.1 h;have f:L.drop k=x::L.drop (k+1):=by rw[<-e,ux]
 have H:I (jP [] (L.take k))=k:=by rw[H_,jO];omega
 unfold tD;rw[Wl h,akE,f,Oe _ _ J,H,xt,XH,lf];rfl
def awJ{k:Nat}(h:L[k]?=some x)(H:(x.kind==2)=false):tD L (k+1)=tD L k/\jT [] (L.take (k+1))=jT [] (L.take k):=by
 obtain _:=bt.1 h
 grind [ux,tD,akE,I7,acK]
def avI(L:af)(aO:L≠[])(hl:I L<=1000000):aL S 125 [.one (.p (gC L))] (.one (cU ml 6 (cX (lL L)))):=by
 refine cG aya ?_;simp only[go_sem,agL,M9];refine nI (Y2 aO hl) ah (.inl rfl) λcc mq gc iD=>?_;have b0:=iD 8000064000 aa;rcases gc with⟨e,_⟩|⟨_,M,e,hC⟩
 .exact absurd (by simpa using e) aO
 cases e;rw[cg];simp only[go_sem]at b0;simp only[go_sem];refine dt (λk A blk=>A 3=.one (.nV 8000064000 1)/\A 4=.one (.hsl 8000128064 M 6 0 (I L))/\A 10=.one (.hsl 8000128064 M 6 0 (I L))/\A 11=aI (I L)/\A 12=aI k/\
  blk 8000064000=(1,some (.map false (Pt (Bl (jT [] (L.take k)) 0))))/\blk 8000128064=(M,some (.arr ml 6 (cX (tD L k))))) 0 (I L) (bZ _) ?_ ?_
 .simp only[go_sem,b0];exact⟨rfl,rfl,hC⟩
 rintro k A blk hk ⟨R,D,E,Q,T,u,B⟩
 by_cases m:k<I L
 .have Z:((k:Int)<(I L:Int)):=J;obtain⟨x,z⟩:=aP m;have O:k<I (tD L k):=by rw[aBp];exact m
  have N:=jh (axW z);obtain⟨n1,_⟩:=agk (L.take k) [] qK;have hsl:∀(l:af) (s:cL),I (jT s l)<=I s+I l:=by
   intro l
   induction l with
   |nil=>intro s;exact cJ _
   |cons a r ih=>grind [jT]
  have BI:=hsl (L.take k) [];rw[jO]at BI;simp only[ga]at BI;have Y:=cS (n:=k) J;cases j:(x.kind==2)with
  |false=>obtain⟨e1,e2⟩:=awJ z j;rw[<-e1]at B N O;rw[<-e2]at u;simp only[go_sem,M6,R,D,E,Q,T,u,B,O,m,Z,N,U.ps,j,bne,Y,ai,aB]
  |true=>
   have f:=atm z;have H:=acK (L.take k) x [];rw[<- (Wl z),j,aD rfl]at H;unfold I7 at f;rw[j,aD rfl]at f;generalize jT [] (L.take k)=s at f H u BI;have w2:=cS (n:=I s) J;have F:=akQ (Bl s 0) x.id 0;rw[ain]at F;have fj:=azC s 0;cases X:s.contains x.id with
   |false=>
    rw[X]at f H F;simp only[fE,if_false,AR]at f H F;have v:=akQ (Bl (s++[x.id]) 0) x.id 0;rw[ain,show(s++[x.id]).contains x.id=true by simp]at v;have FX:(s++[x.id]).idxOf x.id=I s:=by rw[abQ,aC (λh=>by rw[Dr.2 h]at X;cases X)];simp
    rw[FX]at v;simp only[if_true,wy,jN]at v;have sM:=awg x.id s 0;rw[jN]at sM;rw[<-sM,<-aeQ]at v;have ZG:(cX (tD L k)).set k [.int .i64 x.kind,.int .i64 x.gate,.int .i64 x.au,.int .i64 ((I s+1:Nat):Int),.int .i64 x.sign,.bool x.over]=cX (tD L (k+1)):=by rw[<-f,<-ad4];rfl
    simp only[go_sem,M6,R,D,E,Q,T,u,B,O,m,Z,N,U.ps,j,bne,Y,w2,fj,tW,s9,nO,ti,xQ,F,AR,v,ZG,ai,aB];rw[H,<-sM,<-aeQ]
   |true=>
    rw[X]at f H F;simp only[if_true,wy,jN]at f H F;have hv:((((s.idxOf x.id+1:Nat):Int))==0)=false:=by rw[mM];omega
    have ZG:(cX (tD L k)).set k [.int .i64 x.kind,.int .i64 x.gate,.int .i64 x.au,.int .i64 ((s.idxOf x.id+1:Nat):Int),.int .i64 x.sign,.bool x.over]=cX (tD L (k+1)):=by rw[<-f,<-ad4];rfl
    simp only[go_sem,M6,R,D,E,Q,T,u,B,O,m,Z,N,U.ps,j,bne,Y,w2,fj,tW,s9,nO,ti,xQ,F,AR,hv,ZG,ai,aB];rw[H]
 have:k=I L:=J;subst this;have hX:tD L (I L)=lL L:=by unfold tD lL;rw[jZ,Lx,ic]
 rw[hX]at B;have y:=Az L;simp only[go_sem,M6,alL,R,D,E,Q,T,fF];refine ve (.inr ⟨?_,M,by rw[cg,y],B⟩);intro h2;have:=congrArg List.length h2;rw[cg,y]at this;exact aO (G5.1 this)
def IC(h:af)(i:Nat):Bool:=((nQ h.reverse i).kind==1)&& !((lr h).getD (I h-1-i) false)
def rF(h:af):af:=match (List.range (I h)).find? (IC h)with
 |some i=>eC h.reverse i
 |none=>h.reverse
def Jy(h:af):I (rF h)=I h:=by grind [rF,rC]
def awq(E:h≠[])(hl:I h<=1000000):aL S 124 [.one (.p (pA F h))] (.one (cU ml 6 (cX (rF h)))):=by
 have mu:=Jy h;generalize H:rF h=R at mu;refine cG aiz ?_;simp only[go_sem,acD,M9];refine nI (Y2 E hl) ah (.inl rfl) λcc mq gc iD=>?_;simp only[go_sem,acW];refine ak8 (λo ac=>ap3 o (by simp;omega) (ayS _) ac) (gc.of_eq rfl) λad gR ag=>?_;rw[aps]at gR;rcases gR with⟨e,_⟩|⟨_,gg,e,hC⟩
 .have:=congrArg List.length e;rw[cg,nr]at this;exact absurd (G5.1 this) E
 cases e;rw[cg,nr];simp only[go_sem];have T:I h.reverse=I h:=nr;have HL:IntKind.i64.wrap ((I h:Int)-1)=((I h-1:Nat):Int):=by have:=gy.2 E;rw[nj J J];omega
 have zi:I (lr h)=I h:=by simp[lr]
 unfold rF at H;have f:∀i,IC h i=(((nQ h.reverse i).kind==1)&& !((lr h).getD (I h-1-i) false)):=λ_=>rfl;generalize IC h=bp at H f;generalize h.reverse=X at hC T gc H f;refine dt (λk A blk=>A 0=.one (.p (pA F h))/\A 3=.one (.hsl 7936064320 gg 6 0 (I h))/\A 15=aI (I h)/\A 16=aI k/\blk 7936064320=(gg,some (.arr ml 6 (cX X)))/\ ∀j,j<k->bp j=false) 0 (I h) (bZ _) ?_ ?_
 .simp only[go_sem,hC];first|exact⟨rfl,λj ac=>absurd ac (o6 j)⟩|exact⟨rfl,rfl,λj ac=>absurd ac (o6 j)⟩
 rintro k A blk hk ⟨y,M,B,D,O,eI⟩
 by_cases z:k<I h
 .have Z:((k:Int)<(I h:Int)):=J;have L:k<I X:=J;have N:=jh (A7 L);have Q:=cS (n:=k) J;have w2:IntKind.i64.wrap (((I h-1:Nat):Int)-(k:Int))=((I h-1-k:Nat):Int):=by
   rw[nj J J];omega
  obtain⟨d,hd⟩:=aP (h:=lr h) (k:=I h-1-k) J;have nU:=tR hd;have YW:I h-1-k<I (lr h):=J;have m:=f k;rw[show(lr h).getD (I h-1-k) false=d by rw[dD,hd];rfl]at m;generalize nQ X k=x at N m;have ab:I h<=I X:=J;have Y:List.take (I h) (cX X)=cX X:=f_ (by rw[cg];omega);have pr:=agh X k J J;have nx:bp k=false->∀j,j<k+1->bp j=false:=λhb j hj=>by
   rcases rH.1 hj with ac|rfl
   .exact eI j ac
   exact hb
  cases u:(x.kind==1)with
  |false=>rw[u,IM]at m;simp only[go_sem,Jh,y,M,B,D,O,L,z,Z,N,U.ps,u,HL,Q,w2,nU,YW];exact nx m
  |true=>
   cases d with
   |true=>rw[u]at m;simp only[go_sem,Jh,y,M,B,D,O,L,z,Z,N,U.ps,u,HL,Q,w2,nU,YW];exact nx m
   |false=>rw[u]at m;have hf:=AB z eI m;rw[hf]at H;have H:eC X k=R:=H;unfold eC at H;simp only[go_sem,Jh,y,M,B,D,O,L,z,Z,N,U.ps,u,HL,Q,w2,nU,YW,ab,Y,T4];refine nI pr ah (.inr (r9 (Ih _))) λcr mO v mS=>?_;rw[H]at v;simp only[go_sem];exact ve v
 have:k=I h:=J;subst this;rw[Fa λj hj=>eI j hj]at H;subst H;simp only[go_sem,Jh,W4,y,M,B,D,fF];refine ve (.inr ⟨?_,gg,by rw[cg,T],O⟩);intro h2;have:=congrArg List.length h2;rw[cg,T]at this;exact E (G5.1 this)
def zZ(l:af)(i:Nat):Bool:=((nQ l i).kind==1)&&decide (aq U.ay (l.take i)%2=0)
def r_(l:af)(n:Nat):v8:=(List.range n).filterMap λi=>if zZ l i then some (lL (eC l i))else none
def aym(l:af)(n:Nat):r_ l (n+1)=r_ l n++(if zZ l n then [lL (eC l n)]else []):=by
 unfold r_;rw[nJ,acB]
 grind
def vd(z:Option af)(y:af):Option af:=match z with
 |none=>some y
 |some z=>if kS y z then some y else some z
def xA(V:v8):Option af:=V.foldl vd none
def aAk(V:v8)(y:af):xA (V++[y])=vd (xA V) y:=by unfold xA;rw[A8];rfl
def asI{V:v8}:∀ {o z},V.foldl vd o=some z->z∈V\/o=some z:=by
 induction V with
 |nil=>intro o z h;exact .inr h
 |cons y V f=>
  intro o z h;rcases f h with H|H
  .grind
  cases o with
  |none=>cases H;exact .inl aE
  |some w=>grind [vd]
def WU{V:v8}{z:af}(h:xA V=some z):z∈V:=by
 rcases asI h with h|h
 .exact h
 cases h
def qP:Option af->PV
 |none=>.nils
 |some Y=>gC Y
def wi(F:Nat)(h:af)(f:Nat)(B:dI)(k:Nat)(V:v8)(A:bJ)(blk:aJ):Prop:=
 A 0=.one (.p (pA F h))/\A 2=.one (.bR 5696000000 1 0)/\A 17=.one (.hsl 5696128448 f 1 0 2)/\A 18=aI 2/\A 19=aI k/\A 3=.one (.p (qP (xA V)))/\
 blk 5696000000=(1,some (.var [.p (.int .i64 0),.p .nils]))/\blk 5696128448=(f,some (.arr 22 1 B))
def ahZ(l:af){i:Nat}(h:l[i]?=some x):decide (aq U.ay (l.take (i+1))%2=0)=if x.kind==1 then !decide (aq U.ay (l.take i)%2=0)else decide (aq U.ay (l.take i)%2=0):=by
 rw[Wl h,B2];have:aq U.ay [x]=if x.kind==1 then 1 else 0:=by show List.countP _ [x]=_;rw[aaA];rfl
 grind
def agq{F:Nat}{l:af}{gB k:Nat}{bs:dI}{V:v8}{Q:iw}{A:bJ}{blk:aJ}(aO:l≠[])(qt:I l=I h)(hl:I h<=1000000)(hV:∀y∈V,I y=I h)(hI:wi F h gB bs k V A blk)(X:A 5=.one (.p (gC l)))(T:A 6=i_ true)(mr:A 23=.one (.p (gC l)))(O:A 24=aI (I h))(N:A 25=aI 0)
  (hK:∀aH ao,wi F h gB bs k (V++r_ l (I h)) aH ao->Q .normal aH ao):W S .all (.loop Cb) (rM 2 Q) A blk:=by
 refine dt (λi A blk=>wi F h gB bs k (V++r_ l i) A blk/\A 5=.one (.p (gC l))/\A 6=i_ (decide (aq U.ay (l.take i)%2=0))/\A 23=.one (.p (gC l))/\A 24=aI (I h)/\A 25=aI i) 0 (I h) (bZ _) ⟨by rw[show r_ l 0=[]from rfl,ic];exact hI,X,T,mr,O,N⟩ ?_;rintro i A blk hi ⟨⟨D,u,L,E,M,H,B,bB⟩,X,T,mr,O,N⟩
 by_cases aw:i<I h
 .have aM:((i:Int)<(I h:Int)):=J;have Mz:i<I l:=J;have CJ:=A7 Mz;have n0:=jh CJ;have v:=ahZ l CJ;have f:=aym l i;unfold zZ at f;have mX:∀y∈V++r_ l i,I y=I h:=λy hy=>by
   rcases gn.1 hy with ac|ac
   .exact hV y ac
   obtain⟨j,_,e⟩:=CY.1 ac;split at e
   .cases e;rw[Az,rC,qt]
   cases e
  generalize nQ l i=x at n0 v f;generalize decide (aq U.ay (l.take i)%2=0)=d at v f T;generalize r_ l i=W0 at*;have w1:=cS (n:=i) J;have pr:=agh l i J J;have PO:I (eC l i)=I h:=by rw[rC,qt]
  rw[show l.drop i++l.take i=eC l i from rfl]at pr;generalize eC l i=R at pr PO f;have Uo:R≠[]:=gy.1 J;have pn:=avI R Uo J;have hY:=Az R;generalize lL R=Y at pn hY f;have YQ:Y≠[]:=gy.1 J;have kQ:S.lone 5696704128:=abX ah;have n9:S.lone 5696704192:=abX ah;cases dz:(x.kind==1)with
  |false=>rw[dz]at v f;simp only[IM,fE,if_false,ic]at v f;simp only[go_sem,Cb,D,u,H,X,T,L,E,M,mr,O,N,Mz,aw,aM,n0,U.ps,dz,bne,w1,B,bB,ai,aB];simp only[go_sem,wi,f,v,D,u,H,L,E,M,B,bB,ai,aB]
  |true=>
   rw[dz]at v f;cases d with
   |false=>simp only[EG,fE,if_false,if_true,ic,E5]at v f;simp only[go_sem,Cb,D,u,H,X,T,L,E,M,mr,O,N,Mz,aw,aM,n0,U.ps,dz,bne,w1,B,bB,ai,aB];simp only[go_sem,wi,f,v,D,u,H,L,E,M,B,bB,ai,aB]
   |true=>
    simp only[EG,if_true,Ac]at v f;have m:xA (V++(W0++[Y]))=vd (xA (V++W0)) Y:=by rw[<-lf,aAk]
    cases hz:xA (V++W0)with
    |none=>rw[hz]at m H;have m:xA (V++(W0++[Y]))=some Y:=m;have H:A 3=.one (.p .nils):=H;simp only[go_sem,Cb,D,u,H,X,T,L,E,M,mr,O,N,Mz,aw,aM,n0,U.ps,dz,bne,w1,B,bB,T4,cE pr (HI Uo kQ),WR,cE pn (HI YQ n9),ai,aB];simp only[go_sem,wi,f,v,m,qP,D,u,H,L,E,M,B,bB,ai,aB]
    |some Z=>
     rw[hz]at m H;have hZ:=mX Z (WU hz);have H:A 3=.one (.p (gC Z)):=H;have pb:=ayI Y Z J J;obtain⟨e,es,he⟩:∃e es,cX Z=e::es:=by
      cases Z with
      |nil=>simp at hZ;omega
      |cons z t=>exact⟨_,_,rfl⟩
     have ab:PV.sl (e::es)=gC Z:=by rw[<-he]
     rw[<-ab]at pb H;unfold vd at m;simp only at m;cases hb:kS Y Z with
     |false=>rw[hb]at pb m;simp only[fE,if_false]at m;simp only[go_sem,Cb,D,u,H,X,T,L,E,M,mr,O,N,Mz,aw,aM,n0,U.ps,dz,bne,w1,B,bB,T4,cE pr (HI Uo kQ),WR,cE pn (HI YQ n9),agd,b_ pb,ai,aB];simp only[go_sem,wi,f,v,m,qP,ab,D,u,H,L,E,M,B,bB,ai,aB]
     |true=>rw[hb]at pb m;simp only[if_true]at m;simp only[go_sem,Cb,D,u,H,X,T,L,E,M,mr,O,N,Mz,aw,aM,n0,U.ps,dz,bne,w1,B,bB,T4,cE pr (HI Uo kQ),WR,cE pn (HI YQ n9),agd,b_ pb,ai,aB];simp only[go_sem,wi,f,v,m,qP,D,u,H,L,E,M,B,bB,ai,aB]
 have:i=I h:=J;subst this;simp only[go_sem,Cb,O,N,fF,ai,aB];refine hK _ _ ?_;simp only[go_sem,wi,D,u,H,L,E,M,B,bB,ai,aB]
def B7(h:af):v8:=r_ h (I h)++r_ (rF h) (I h)
def sI(h:af):Option af:=xA (B7 h)
def XG{l:af}(h:y∈r_ l n):I y=I l:=by
 obtain⟨j,_,e⟩:=CY.1 h;split at e
 .cases e;rw[Az,rC]
 cases e
theorem atK(N:h≠[])(hl:I h<=1000000):aL S 89 [.one (.p (pA F h))] (.agg [.p (.int .i64 F),.p (qP (sI h))]):=by
 have pb:=awq (F:=F) N hl;have E:=Jy h;generalize D:sI h=R;unfold sI B7 at D;generalize rF h=B at pb E D;have A:B≠[]:=by grind
 have X:S.lone 5696128384:=abX ah;refine cG af8 ?_;simp only[go_sem,ab3,aki,oT pb (HI A X),ai,aB];refine⟨aS,?_⟩;refine dt (λk=>wi F h 1 [[gC h],[gC B]] k (if k=0 then []else if k=1 then r_ h (I h) else r_ h (I h)++r_ B (I h))) 0 2 (bZ _) ?_ ?_
 .simp only[go_sem,wi,ai,aB];first|done|exact⟨rfl,rfl⟩|exact⟨rfl,rfl,rfl⟩|exact⟨rfl,rfl,rfl,rfl,rfl,rfl,rfl,rfl⟩|rfl
 intro k O blk hk T;obtain⟨j,f,n,m,L,H,u,bB⟩:=T;by_cases aw:k<2
 .have Z:k=0\/k=1:=J;have z:((0:Nat):Int)<2:=aa;have v:((1:Nat):Int)<2:=aa;rcases Z with rfl|rfl
  .simp only[go_sem,Ij,j,f,H,n,m,L,bB,z,ai,aB];refine agq (F:=F) (gB:=1) (k:=0) (bs:=[[gC h],[gC B]]) (V:=[]) N rfl hl (λy Y=>by cases Y) ?_ rfl rfl rfl rfl rfl λaH Q M=>?_
   .simp only[go_sem,wi,j,f,H,n,m,L,u,bB,ai,aB];first|done|rfl
   obtain⟨j,f,n,m,L,H,u,bB⟩:=M;rw[fB]at H;simp only[go_sem,wi,L9,j,f,H,n,m,L,u,bB,ai,aB];first|done|rfl|exact⟨rfl,rfl⟩
  simp only[go_sem,Ij,j,f,H,n,m,L,bB,v,ai,aB];refine agq (F:=F) (gB:=1) (k:=1) (bs:=[[gC h],[gC B]]) (V:=r_ h (I h)) A E hl (λy Y=>XG Y) ?_ rfl rfl rfl (by rw[<-E];rfl) rfl λaH Q M=>?_
  .simp only[go_sem,wi,j,f,H,n,m,L,u,bB,ai,aB];first|done|rfl
  obtain⟨j,f,n,m,L,H,u,bB⟩:=M;simp only[go_sem,wi,L9,j,f,H,n,m,L,u,bB,ai,aB];first|done|rfl|exact⟨rfl,rfl⟩
 have:k=2:=J;subst this;have x:¬(((2:Nat):Int)<2):=aa;have H:O 3=.one (.p (qP R)):=by rw[<-D];exact H
 simp only[go_sem,Ij,aaS,j,f,H,n,m,L,u,x,ai,aB];cases R<;>rfl
def aht(D:yG){f:Int}(hl:I h<=1000000)(H:dk f h=0):aL S 52 [eU f h] (.tup [.agg [.p (.int .i64 f),.p (qP (sI h))],.one (.p (.int .i64 0))]):=by
 have pr:=SM f h hl;rw[NI H]at pr;have j:aL S 89 [.one (.p (if h=[]then BW f else pA f.toNat h))] (.agg [.p (.int .i64 f),.p (qP (sI h))]):=by
  by_cases A:h=[]
  .rw[aD A];subst A;exact awD D f
  grind [Ci,atK]
 have m:(if h=[]then BW f else pA f.toNat h).norm=(if h=[]then BW f else pA f.toNat h):=by split<;>simp[af4]
 refine cG arB ?_;simp only[go_sem,air,Pv,cE pr dX,apO,cE j arL,m,ai,aB];rfl
def azG:∀ {A B:cL},I A=I B->rJ A B=false->rJ B A=false->A=B:=by
 intro A
 induction A with
 |nil=>intro B h _ _;cases B with
  |nil=>rfl
  |cons _ _=>cases h
 |cons a A f=>
  intro B h j H;cases B with
  |nil=>cases h
  |cons b B=>grind [rJ]
def as4{a b:U}(h:xm a=xm b):a=b:=by
 cases a with|mk k g r i s o=>cases b with|mk m g' R j f O=>
 grind [xm]
theorem VG:∀ {A B:af},I A=I B->kS A B=false->kS B A=false->A=B:=by
 intro A
 induction A with
 |nil=>intro B h _ _;cases B with
  |nil=>rfl
  |cons _ _=>cases h
 |cons a A j=>
  intro B h f H;cases B with
  |nil=>cases h
  |cons b B=>
   unfold kS at f H;by_cases e:a=b
   .grind [H7]
   rw[aC (λx=>e ((R4 _ _).1 x)),Pp]at f;rw[aC (λx=>e ((R4 _ _).1 x).symm),Pp]at H;exact absurd (as4 (a:=a) (b:=b) (azG rfl f H)) e
def aoe:∀ {V:v8}{o z},(∀y∈V,I y=n)->(∀w,o=some w->I w=n)->V.foldl vd o=some z->(∀y∈V,kS y z=false)/\(∀w,o=some w->kS w z=false):=by
 intro V
 induction V with
 |nil=>grind [Vr]
 |cons y V A=>
  intro o z D E h;have x:=D y aE;have j:∀u∈V,I u=n:=λu f=>D u (by simp[f]);cases o with
  |none=>
   obtain⟨v,m⟩:=A j (λw H=>by cases H;exact x) h;refine⟨λw H=>?_,λw H=>(by cases H)⟩;rcases c7.1 H with rfl|H
   .exact m w rfl
   exact v w H
  |some w=>
   have L:=E w rfl;have h:V.foldl vd (vd (some w) y)=some z:=h;cases B:kS y w with
   |true=>
    have e:vd (some w) y=some y:=by unfold vd;simp only[B,if_true]
    rw[e]at h;obtain⟨v,m⟩:=A j (λw H=>by cases H;exact x) h;have F:=m y rfl;refine⟨λu f=>?_,λu f=>?_⟩
    .rcases c7.1 f with rfl|f
     .exact F
     exact v u f
    grind [Vl]
   |false=>
    have e:vd (some w) y=some w:=by unfold vd;simp only[B,fE,if_false]
    rw[e]at h;obtain⟨v,m⟩:=A j (λw H=>by cases H;exact L) h;have H:=m w rfl;refine⟨λu f=>?_,λu f=>by cases f;exact H⟩;rcases c7.1 f with rfl|f
    .grind [Vl,VG]
    exact v u f
def abh{V:v8}{z:af}(f:∀y∈V,I y=n)(h:xA V=some z):z∈V/\ ∀y∈V,kS y z=false:=
 ⟨WU h,(aoe f (λw H=>by cases H) h).1⟩
def WQ{V:v8}(h:V≠[]):∃z,xA V=some z:=by
 have f:∀(V:List _) (w:af),∃z,V.foldl vd (some w)=some z:=by
  intro V
  induction V with
  |nil=>intro w;exact⟨w,rfl⟩
  |cons y V j=>
   intro w;show∃z,V.foldl vd _=some z;unfold vd;simp only;split
   .exact j y
   exact j w
 cases V with
 |nil=>exact absurd rfl h
 |cons y V=>exact f V y
def az4{V W:v8}(j:∀y∈V,I y=n)(h:∀y,y∈V↔y∈W):xA V=xA W:=by
 by_cases H:V=[]
 .have f:W=[]:=by
   cases W with
   |nil=>rfl
   |cons y W=>have:=(h y).2 aE;rw[H]at this;cases this
  rw[H,f]
 have f:W≠[]:=λe=>by
  cases V with
  |nil=>exact H rfl
  |cons y V=>have:=(h y).1 aE;rw[e]at this;cases this
 obtain⟨z,x⟩:=WQ H;obtain⟨u,v⟩:=WQ f;obtain _:=abh j x;obtain _:=abh (λy m=>j y ((h y).2 m)) v
 grind [VG]
theorem aa6{l:af}{i:Nat}(m:i<I l):zZ l i↔E6 l i:=by
 have h:=A7 m;unfold zZ E6 qJ;rw[cP,iJ];constructor
 .rintro ⟨j,H⟩
  exact⟨⟨_,h,j⟩,H⟩
 rintro⟨⟨x,f,hp⟩,H⟩
 rw[h]at f;cases f;exact⟨hp,H⟩
def afA{l:af}:y∈r_ l (I l)↔xN l y:=by
 unfold r_ xN;rw[CY];constructor
 .rintro _
  grind [aa6]
 rintro⟨i,h,H,rfl⟩
 exact⟨i,gA.2 h,by rw[aD ((aa6 h).2 H)]⟩
def ar8(v:aq U.ay h%2=0):∃j,j<=I h/\qJ h.reverse j/\rF h=eC h.reverse j:=by
 unfold rF;split
 .rename_i i hf;have y:=gA.1 (CU hf);have H:=AW hf;unfold IC at H;rw[cP]at H;obtain⟨n,m⟩:=H;refine⟨i,J,?_,rfl⟩;obtain⟨x,f⟩:=aP (h:=h) (k:=I h-1-i) J;rw[aed (by rw[EE J];exact f)]at n;have u:(lr h).getD (I h-1-i) false=dn h (I h-1-i):=by
   unfold lr;rw[dD,fz,tX J];show c9 h (I h-1-i)=_;unfold c9;rw[f];show(x.ay&&_)=_;rw[show x.ay=true from n,EG]
  rw[u]at m;unfold dn at m;unfold qJ;rw[Tg,yL];have E:aq U.ay h=aq U.ay (h.take (I h-i))+aq U.ay (h.drop (I h-i)):=by rw[<-B2,jS]
  have z:=ahZ h f
  grind
 refine⟨0,bZ _,rfl,?_⟩;unfold eC;simp
theorem aBy{l:af}(h:j<=I l)(H:aq U.ay l%2=0)(hp:qJ l j):qJ (eC l j) (I l-j)/\eC (eC l j) (I l-j)=l:=by grind [qJ,eC,jS]
theorem ai7{l:af}(H:j<=I l)(f:aq U.ay l%2=0)(hp:qJ l j):xN (eC l j) y↔xN l y:=by
 refine⟨adG H f hp,λh=>?_⟩
 grind [aBy,adG,rC,LK]
def ayJ{l:af}{i:Nat}(h:E6 l i):E6 (l.map (dd f)) i:=by obtain⟨⟨x,H,hp⟩,j⟩:=h;refine⟨⟨dd f x,by rw[fz,H];rfl,by rw[Gw];exact hp⟩,?_⟩;unfold qJ at*;rw[<-sC,RC];exact j
def ajd{l:af}(hf:inj f l):xN (l.map (dd f)) y↔xN l y:=by
 refine⟨aqG hf,?_⟩;rintro⟨i,H,h,rfl⟩
 refine⟨i,by rw[cg];exact H,ayJ h,?_⟩
 grind [ahJ,aiS,YR,Be]
def eV(a b:af):Prop:=I a=I b/\aq U.ay a%2=aq U.ay b%2/\ ∀y,yQ a y↔yQ b y
def eV.refl(a:af):eV a a:=⟨rfl,rfl,λ_=>Iff.rfl⟩
def eV.symm{a b:af}(h:eV a b):eV b a:=⟨h.1.symm,h.2.1.symm,λy=>(h.2.2 y).symm⟩
def eV.trans{a b c:af}(h:eV a b)(k:eV b c):eV a c:=⟨h.1.trans k.1,h.2.1.trans k.2.1,λy=>(h.2.2 y).trans (k.2.2 y)⟩
def KE{l:af}(h:j<=I l)(H:aq U.ay l%2=0)(hp:qJ l j):eV (eC l j) l:=by
 refine⟨rC _ _,by rw[LK],λy=>?_⟩
 grind [yQ,ai7,aut,aCd]
def Sz{l:af}:eV l.reverse l:=by
 refine⟨nr,by rw[yL],λy=>?_⟩;unfold yQ
 grind
def MZ{l:af}(hf:inj f l):eV (l.map (dd f)) l:=by refine⟨cg ..,by rw[RC],λy=>?_⟩;unfold yQ;rw[ajd hf,<-OS,ajd (YR hf λx h=>zJ.1 h)]
def atG(l:af):eV (lL l) l:=by obtain⟨f,hf,e⟩:=abo l;rw[e];exact MZ hf
def apo{l:af}(H:aq U.ay l%2=0)(h:yQ l y):eV y l:=by
 have f:∀m,aq U.ay m%2=0->xN m y->eV y m:=λm n h=>by obtain⟨j,u,⟨_,hp⟩,rfl⟩:=h;exact(atG _).trans (KE J n hp)
 rcases h with h|h
 .exact f l H h
 exact(f l.reverse (by rw[yL];exact H) h).trans Sz
theorem H8{l:af}(h:aq U.ay l%2=0):y∈B7 l↔yQ l y:=by
 obtain⟨j,H,hp,e⟩:=ar8 h;unfold B7 yQ;have hl:r_ (rF l) (I l)=r_ (rF l) (I (rF l)):=by rw[Jy]
 rw[gn,hl,afA,afA,e,ai7 (by grind) (by grind) hp]
def Rc{l:af}(h:y∈B7 l):I y=I l:=by
 rcases gn.1 h with h|h
 .exact XG h
 rw[XG h,Jy]
def aBL{a b:af}(H:aq U.ay a%2=0)(h:eV a b):sI a=sI b:=by obtain⟨n,m,j⟩:=h;refine az4 (λy f=>Rc f) λy=>?_;rw[H8 H,H8 J];exact j y
section
variable {F:Nat} {h:af}
def bj.ahq(g:bj F h):E6 h 0:=by obtain⟨l,f,H⟩:=g.first;exact⟨⟨l,f,H⟩,rfl⟩
def gV(h:af):af:=(sI h).getD []
def bj.nor(g:bj F h):sI h=some (gV h)/\yQ h (gV h)/\ ∀y,yQ h y->kS y (gV h)=false:=by
 have H:=g.even;have j:B7 h≠[]:=λe=>by
  have:=(H8 H).2 (.inl ⟨0,gy.2 g.ne,g.ahq,rfl⟩)
  grind
 obtain⟨z,m⟩:=WQ j;obtain _:=abh (λy f=>Rc f) m
 grind [sI,gV,H8]
def bj.form(g:bj F h)(j:yQ h y):dk (F:Int) y=0:=by
 have c:=g.cz;have hl:I (fc h)<=400:=by rw[yy];exact g.len
 have m:aq U.ak (aK (fc h))<=200:=by rw[iX];exact g.cr
 have n:∀x,(fc h)[0]?=some x->x.i.b=false:=λx H=>by have f:=gy.2 g.ne;rw[y_ f]at H;cases H;rw[Vm g f];rfl
 rcases j with j|j
 .exact aei c n hl m g.fing (by rw[iX];exact j)
 refine aei c.rv ?_ (by grind) (by rw[I0,yL];exact m) g.fing (by rw[I0,iX];exact j);intro x H;rw[fz]at H;have f:=gy.2 g.ne;rw[EE (by grind),yy,y_ J]at H;cases H;show(!dn h (I h-1-0+1))=false
 grind [al9]
end
end
end Go.Abs
