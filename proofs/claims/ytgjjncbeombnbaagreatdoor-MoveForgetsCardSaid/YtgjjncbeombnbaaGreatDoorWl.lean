/- A part. -/
import Derived.Test.YtgjjncbeombnbaaGreatDoorWk
set_option linter.all false
open List renaming length->I
set_option maxRecDepth 100000
set_option maxHeartbeats 16000000
namespace Go.Abs
variable{f:Int->Int}{x:aT}{F j:Nat}
section
variable {F:Nat} {h:af}
def Qn{e:Nat}(n:0<I h)(j:e<I h)(H:(j_ h e).2.2):(((j_ h e).1=e/\(j_ h e).2.1=nx h e)\/((j_ h e).1=nx h e/\(j_ h e).2.1=e))/\(∃l,h[(j_ h e).2.1]?=some l/\l.aq)/\ ∃m,h[(j_ h e).1]?=some m/\m.aw:=by
 obtain⟨l,hl⟩:=aM j;obtain⟨m,f⟩:=aM (cJ _ n);unfold j_ at H |-;rw[jr (gZ hl),jr (gZ f)]at H |-;by_cases c:(l.kind==2)
 .rw[an c]at H |-;exact⟨.inr ⟨rfl,rfl⟩,⟨l,hl,c⟩,m,f,H⟩
 rw[ai c]at H |-;simp only[cN]at H;exact⟨.inl ⟨rfl,rfl⟩,⟨m,f,H.2⟩,l,hl,H.1⟩
def Z2{f:Bool}{y:aT}(h:(gV f x).b=(gV f y).b)(H:(jl f x).b=(jl f y).b):x.i.b=y.i.b/\x.o.b=y.o.b:=by grind [M7,LU]
def ack{f:Bool}(h:(gV f x).b=(jl f x).b):x.i.b=x.o.b:=by grind [M7,LU]
def acb{f:Bool}(h:x.i.b=x.o.b):(gV f x).b=(jl f x).b:=by
 rw[M7,LU]
 grind
def ZQ{l:U}{r:Int}(hp:l.aw)(h:d_ F l=false):d_ F {l with ao:=r}=false:=by have E:({l with ao:=r}:U).aw=true:=hp;rw[kL hp]at h;rw[kL E];exact h
def agH(g:a_ F h){w:aC}(hw:w∈fF (aO h) (nD h))(k9:(kO F h w).places.length=1){d D:Nat}(hd:d∈w)(s7:d<2*I h)(DY:D∈w)(Im:D<2*I h)(Cf:aO h d=D)(two:∀y,y∈w->y<2*I h->y=d\/y=D)
  {L lv lw n:U} (Z:h[bJ (I h) d]?=some L) (Y:h[bP (I h) d]?=some lv) (uS:h[bJ (I h) D]?=some lw) (yr:h[bP (I h) D]?=some n) (pp:L.aw) (cv:lv.aq) (cw:lw.aq) (pq:n.aw)
  {P:aU} (zH:I P=I h) (jT:∀q:U->Bool,(∀(l:U) (r:Int),q {l with ao:=r}=q l)->au q (P.map aK.l)=au q h)
  (hP:bJ (I h) d≠bP (I h) D->P[bJ (I h) d]?=(aA h)[bP (I h) d]? /\P[bP (I h) d]?=some ⟨{L with ao:=n.ao},dw h (bJ (I h) d)⟩/\P[bJ (I h) D]?=some ⟨{n with ao:=L.ao},dw h (bP (I h) D)⟩/\P[bP (I h) D]?=(aA h)[bJ (I h) D]? /\
   ∀i,i≠bJ (I h) d->i≠bP (I h) d->i≠bJ (I h) D->i≠bP (I h) D->P[i]?=(aA h)[i]?):fP F P:=by
 have ok:=g.ok;have cz:=g.cz;have hn:=gA.2 g.ne;have t1:=JM g s7;have t2:=JM g Im;have h1:=zG g s7;have M:=zG g Im
 obtain⟨u,m,y,y1,y2,y3,jK,y4⟩:=O8 g hw k9 DY (CS Im) yr pq;have hu:=(bd.1 y2).1;have yT:∀f,bJ (I h) (dx (I h) u f)=u/\bY (dx (I h) u f)=f/\dx (I h) u f<2*I h:=λf=>⟨(GD hu).1,(GD hu).2,by
  have:=uB hu (!f);rw[<-tc]at this;have:=tD this;rwa[tp]at this⟩
 have yd:y=d:=by
  have Oy:bJ (I h) y=u/\y<2*I h:=by rcases y4 with⟨_,_,e⟩|⟨_,_,e⟩<;>rw[e]<;>exact⟨(yT _).1,(yT _).2.2⟩
  rcases two y y1 Oy.2 with e|e
  .exact e
  exfalso;rw[e]at Oy;rw[<-Oy.1,uS]at y2;have:=ld y2;rw[<-this,jV cw]at y3;cases y3
 subst yd;have a9:bJ (I h) y=u:=by rcases y4 with⟨_,_,e⟩|⟨_,_,e⟩<;>rw[e]<;>exact(yT _).1
 subst a9;rw[Z]at y2;cases y2
 obtain⟨cR,hR⟩:∃cR:Bool,(cR/\dn h (bP (I h) D)=bY D/\L.ao=n.ao+1/\bY y= !dn h (bJ (I h) y))\/(cR=false/\dn h (bP (I h) D)=(!bY D)/\n.ao=L.ao+1/\bY y=dn h (bJ (I h) y)):=by
  rcases y4 with⟨e1,e2,e3⟩|⟨e1,e2,e3⟩
  .exact⟨true,.inl ⟨rfl,e1,e2,(congrArg bY e3).trans (yT _).2.1⟩⟩
  exact⟨false,.inr ⟨rfl,e1,e2,(congrArg bY e3).trans (yT _).2.1⟩⟩
 clear y4 yT y1 y3 hu;have j5:L.ao≠n.ao:=by rcases hR with⟨_,_,E,_⟩|⟨_,_,E,_⟩<;>omega
 have R:bJ (I h) y≠bP (I h) D:=λe=>by rw[e,yr]at Z;have:=ld Z;rw[this]at j5;exact j5 rfl
 obtain⟨pT,pH,a0,bf,pU⟩:=hP R;clear hP;obtain⟨_,o1,q1,k1⟩:=EJ g s7 Y cv;rw[Cf]at o1 q1 k1;rw[Jx s7,Hp Im]at k1;obtain⟨xa,xb,xc,xd⟩:=k1;simp only[if_true]at xa xb xc xd;have pc:∀ {x y:Nat}{l m:U},h[x]?=some l->h[y]?=some m->l.aq->m.aw->x≠y:=λh1 M h3 h4 e=>by subst e;rw[h1]at M;have:=ld M;rw[this,nv h4]at h3;cases h3
 have aj:bP (I h) y≠bJ (I h) D:=by intro e;obtain⟨_,m,hm,_,_,mo,_⟩:=pE ok.cr Y cv;rw[<-o1,<-e,Y]at hm;have:=ld hm;rw[<-this]at mo;revert mo;cases lv.over<;>simp
 have ag:=pc Y Z cv pp;have am:=pc Y yr cv pq;have ad:=pc uS Z cw pp;have ak:=pc uS yr cw pq
 have ee:∀d:Nat,(bJ (I h) d=d/2/\bP (I h) d=nx h (d/2))\/(bJ (I h) d=nx h (d/2)/\bP (I h) d=d/2):=λd=>by
  unfold bJ bP nx;split
  .exact .inl ⟨rfl,rfl⟩
  exact .inr ⟨rfl,rfl⟩
 have n9:y/2≠D/2/\y/2≠nx h (D/2)/\nx h (y/2)≠D/2/\nx h (y/2)≠nx h (D/2)/\y/2≠nx h (y/2)/\D/2≠nx h (D/2):=by
  rcases ee y with⟨A,z⟩|⟨A,z⟩<;>rcases ee D with⟨b1,b2⟩|⟨b1,b2⟩
  .rw[<-z,<-A,<-b2,<-b1];exact⟨ad.symm,R,aj,am,ag.symm,ak⟩
  .rw[<-z,<-A,<-b1,<-b2];exact⟨R,ad.symm,am,aj,ag.symm,ak.symm⟩
  .rw[<-A,<-z,<-b2,<-b1];exact⟨aj,am,ad.symm,R,ag,ak⟩
  rw[<-A,<-z,<-b1,<-b2];exact⟨am,aj,R,ad.symm,ag,ak.symm⟩
 let T:=(vk h y).l
 let tI:=gV (bY y) (eK h (bJ (I h) y))
 let hO:=jl (bY D) (eK h (bP (I h) D))
 let O:=(jl (bY y) (eK h (bP (I h) y))).r
 let K1:dW:=⟨hO.r,T,tI.b⟩
 let K2:dW:=⟨tI.r,T,hO.b⟩
 let v:Nat->dW:=λj=>if j=y/2 then mH (bY y) K1 else if j=D/2 then mH (bY D) K2 else jH h j
 have a6:v (D/2)=mH (bY D) K2:=by show(if _ then _ else _)=_;rw[ai n9.1.symm,an rfl]
 have ab:∀j,j≠y/2->j≠D/2->v j=jH h j:=λj h1 M=>by show(if _ then _ else _)=_;rw[ai h1,ai M]
 have ac:∀i,i<I h->i≠nx h (y/2)->i≠nx h (D/2)->v ((i+I h-1)%I h)=jH h ((i+I h-1)%I h):=λi H N n2=>ab _ (λE=>N (BU H E)) (λE=>n2 (BU H E))
 obtain⟨z1,z2,z3,z4,z5,z6⟩:=n9;have Q:=K8 zH s7 (an rfl) (ac _ J z5 z2) (ab _ z5.symm z3);have X:=K8 zH Im a6 (ac _ J z3.symm z6) (ab _ z2.symm z6.symm);have un:∀i,i<I h->i≠bJ (I h) y->i≠bP (I h) y->i≠bJ (I h) D->i≠bP (I h) D->cV P v i=eK h i:=λi H N n2 n3 n4=>by
  have A:i≠y/2/\i≠nx h (y/2):=by
   rcases ee y with⟨A,z⟩|⟨A,z⟩
   .rw[<-z,<-A];exact⟨N,n2⟩
   rw[<-A,<-z];exact⟨n2,N⟩
  have z:i≠D/2/\i≠nx h (D/2):=by
   rcases ee D with⟨A,z⟩|⟨A,z⟩
   .rw[<-z,<-A];exact⟨n3,n4⟩
   rw[<-A,<-z];exact⟨n4,n3⟩
  exact afm zH H (pU i N n2 n3 n4) (ac i H A.2 z.2) (ab i A.1 z.1)
 have aB:∀i,i<I h->(i=bJ (I h) y\/i=bP (I h) y\/i=bJ (I h) D\/i=bP (I h) D)\/(cV P v i=eK h i/\i≠bJ (I h) y/\i≠bP (I h) y/\i≠bJ (I h) D/\i≠bP (I h) D):=λi H=>by
  rcases Classical.em (i=bJ (I h) y\/i=bP (I h) y\/i=bJ (I h) D\/i=bP (I h) D)with E|E
  .exact .inl E
  simp only[AX]at E;exact .inr ⟨un i H E.1 E.2.1 E.2.2.1 E.2.2.2,E⟩
 have gp:∀ {i:Nat}{p:aK},P[i]?=some p->(cV P v i).p=p:=λ{i p} E=>by show P.getD i _=_;rw[dz,E];rfl
 have kT:(cV P v (bJ (I h) y)).k=lv:=congrArg aK.l (gp (pT.trans (gZ Y)));have kH:(cV P v (bP (I h) y)).k={L with ao:=n.ao}:=congrArg aK.l (gp pH);have yE:(cV P v (bJ (I h) D)).k={n with ao:=L.ao}:=congrArg aK.l (gp a0);have F8:(cV P v (bP (I h) D)).k=lw:=congrArg aK.l (gp (bf.trans (gZ uS)));have dH:(cV P v (bP (I h) y)).p.d=(eK h (bJ (I h) y)).p.d:=by rw[gp pH];rfl
 have DG:(cV P v (bJ (I h) D)).p.d=(eK h (bP (I h) D)).p.d:=by rw[gp a0];rfl
 have bv:=acb (f:=bY y) ((DS g h1).cb (by rw[fq Y];exact cv));have bw:=acb (f:=bY D) ((DS g t2).cb (by rw[fq uS];exact cw));rw[Jx s7]at bv;rw[Hp Im]at bw;have bp:=Hp s7;have bq:=Jx Im;have a5:=ok.ax.eO n (aX yr) pq;obtain⟨p1,p2,p3,p4⟩:=Qt g Z pp;obtain⟨p5,p6,p7,p8⟩:=Qt g yr pq;rw[fq Z]at p1 p2 p3 p4;rw[fq yr]at p5 p6 p7 p8;have ot:=RL g Z pp;have vQ:=RL g yr pq;rw[AS (bY y)]at p1 p2;rw[zY (bY y)]at p3 p4;rw[AS (bY D)]at p5 p6;rw[zY (bY D)]at p7 p8;rw[ot,bp]at p1 p2 p3 p4;rw[vQ,bq]at p5 p6 p7 p8;have bg:aJ h n.gate.toNat=aJ h L.gate.toNat:=by rw[jK]
 obtain⟨bu,bs,bn,bi⟩:=ok.ax.eO L (aX Z) pp;obtain⟨bl,bm,bk,bc⟩:=a5;rw[bg]at bc;rw[jK]at p5 p6 p7 p8;obtain⟨r,T',B',j4,uR,iG,hT,pl1,pl2,Cb⟩:∃(r:Nat) (T' B':Nat->Nat->Nat),1<=r/\r<aJ h L.gate.toNat/\((L.ao=(r:Int)/\n.ao=(r:Int)+1)\/(n.ao=(r:Int)/\L.ao=(r:Int)+1))/\(∀k j,¬(k=L.gate.toNat/\j=r)->T' k j=eS h k j/\B' k j=eR h k j)/\
   Aj T' B' (cV P v (bP (I h) y))/\Aj T' B' (cV P v (bJ (I h) D))/\tI.l=hO.l:=by
  rcases hR with⟨_,iz,be,eD⟩|⟨_,iz,be,eD⟩
  .have f1:(bY y==dn h (bJ (I h) y))=false:=by rw[eD];cases dn h (bJ (I h) y)<;>rfl
   have f2:(bY D==dn h (bP (I h) D)):=by rw[iz];cases bY D<;>rfl
   rw[f1]at p1 p2 p3 p4;rw[f2]at p5 p6 p7 p8;simp only[gJ,if_false,if_true]at p1 p2 p3 p4 p5 p6 p7 p8;have er:L.ao.toNat=n.ao.toNat+1:=J;rw[er]at p1 p2 p3 p4;rw[Fw]at p1 p3;refine⟨n.ao.toNat,λk j=>if k=L.gate.toNat/\j=n.ao.toNat then O else eS h k j,λk j=>if k=L.gate.toNat/\j=n.ao.toNat then T else eR h k j,J,J,.inr ⟨J,J⟩,λk j E=>⟨ai E,ai E⟩,?_,?_,?_⟩
   .constructor
    .rw[kH,AS (bY y),dH,ot,f1];show(iZ (jl (bY y) (cV P v (bP (I h) y)))).r=if L.gate.toNat=L.gate.toNat/\n.ao.toNat-1=n.ao.toNat then O else eS h L.gate.toNat (n.ao.toNat-1);rw[ai J,Q.2.2.2];exact xd.symm.trans p5
    .rw[kH,AS (bY y),dH,ot,f1];show(iZ (jl (bY y) (cV P v (bP (I h) y)))).l=if L.gate.toNat=L.gate.toNat/\n.ao.toNat=n.ao.toNat then O else eS h L.gate.toNat n.ao.toNat;rw[an ⟨rfl,rfl⟩,Q.2.2.2];rfl
    .rw[kH,zY (bY y),dH,ot,f1];show(iZ (gV (bY y) (cV P v (bP (I h) y)))).r=if L.gate.toNat=L.gate.toNat/\n.ao.toNat-1=n.ao.toNat then T else eR h L.gate.toNat (n.ao.toNat-1);rw[ai J,Q.2.2.1];exact p7
    rw[kH,zY (bY y),dH,ot,f1];show(iZ (gV (bY y) (cV P v (bP (I h) y)))).l=if L.gate.toNat=L.gate.toNat/\n.ao.toNat=n.ao.toNat then T else eR h L.gate.toNat n.ao.toNat;rw[an ⟨rfl,rfl⟩,Q.2.2.1];rfl
   .constructor
    .rw[yE,AS (bY D),DG,vQ,f2];show(gV (bY D) (cV P v (bJ (I h) D))).r=if n.gate.toNat=L.gate.toNat/\L.ao.toNat-1=n.ao.toNat then O else eS h n.gate.toNat (L.ao.toNat-1);rw[an ⟨by rw[jK],J⟩,X.1];exact xb.symm
    .rw[yE,AS (bY D),DG,vQ,f2];show(gV (bY D) (cV P v (bJ (I h) D))).l=if n.gate.toNat=L.gate.toNat/\L.ao.toNat=n.ao.toNat then O else eS h n.gate.toNat L.ao.toNat;rw[ai J,X.1,jK,er];exact xc.trans p2
    .rw[yE,zY (bY D),DG,vQ,f2];show(jl (bY D) (cV P v (bJ (I h) D))).r=if n.gate.toNat=L.gate.toNat/\L.ao.toNat-1=n.ao.toNat then T else eR h n.gate.toNat (L.ao.toNat-1);rw[an ⟨by rw[jK],J⟩,X.2.1]
    rw[yE,zY (bY D),DG,vQ,f2];show(jl (bY D) (cV P v (bJ (I h) D))).l=if n.gate.toNat=L.gate.toNat/\L.ao.toNat=n.ao.toNat then T else eR h n.gate.toNat L.ao.toNat;rw[ai J,X.2.1,jK,er];exact p4
   exact p3.trans p8.symm
  have f1:(bY y==dn h (bJ (I h) y)):=by rw[eD];cases dn h (bJ (I h) y)<;>rfl
  have f2:(bY D==dn h (bP (I h) D))=false:=by rw[iz];cases bY D<;>rfl
  rw[f1]at p1 p2 p3 p4;rw[f2]at p5 p6 p7 p8;simp only[gJ,if_false,if_true]at p1 p2 p3 p4 p5 p6 p7 p8;have er:n.ao.toNat=L.ao.toNat+1:=J;rw[er]at p5 p6 p7 p8;rw[Fw]at p5 p7;refine⟨L.ao.toNat,λk j=>if k=L.gate.toNat/\j=L.ao.toNat then T else eS h k j,λk j=>if k=L.gate.toNat/\j=L.ao.toNat then O else eR h k j,J,J,.inl ⟨J,J⟩,λk j E=>⟨ai E,ai E⟩,?_,?_,?_⟩
  .constructor
   .rw[kH,AS (bY y),dH,ot,f1];show(gV (bY y) (cV P v (bP (I h) y))).r=if L.gate.toNat=L.gate.toNat/\n.ao.toNat-1=L.ao.toNat then T else eS h L.gate.toNat (n.ao.toNat-1);rw[an ⟨rfl,J⟩,Q.2.2.1]
   .rw[kH,AS (bY y),dH,ot,f1];show(gV (bY y) (cV P v (bP (I h) y))).l=if L.gate.toNat=L.gate.toNat/\n.ao.toNat=L.ao.toNat then T else eS h L.gate.toNat n.ao.toNat;rw[ai J,Q.2.2.1,er];exact p6
   .rw[kH,zY (bY y),dH,ot,f1];show(jl (bY y) (cV P v (bP (I h) y))).r=if L.gate.toNat=L.gate.toNat/\n.ao.toNat-1=L.ao.toNat then O else eR h L.gate.toNat (n.ao.toNat-1);rw[an ⟨rfl,J⟩,Q.2.2.2]
   rw[kH,zY (bY y),dH,ot,f1];show(jl (bY y) (cV P v (bP (I h) y))).l=if L.gate.toNat=L.gate.toNat/\n.ao.toNat=L.ao.toNat then O else eR h L.gate.toNat n.ao.toNat;rw[ai J,Q.2.2.2,er];exact xd.symm.trans p8
  .constructor
   .rw[yE,AS (bY D),DG,vQ,f2];show(iZ (jl (bY D) (cV P v (bJ (I h) D)))).r=if n.gate.toNat=L.gate.toNat/\L.ao.toNat-1=L.ao.toNat then T else eS h n.gate.toNat (L.ao.toNat-1);rw[ai J,X.2.1,jK];exact p1
   .rw[yE,AS (bY D),DG,vQ,f2];show(iZ (jl (bY D) (cV P v (bJ (I h) D)))).l=if n.gate.toNat=L.gate.toNat/\L.ao.toNat=L.ao.toNat then T else eS h n.gate.toNat L.ao.toNat;rw[an ⟨by rw[jK],rfl⟩,X.2.1];rfl
   .rw[yE,zY (bY D),DG,vQ,f2];show(iZ (gV (bY D) (cV P v (bJ (I h) D)))).r=if n.gate.toNat=L.gate.toNat/\L.ao.toNat-1=L.ao.toNat then O else eR h n.gate.toNat (L.ao.toNat-1);rw[ai J,X.1,jK];exact xc.trans p3
   rw[yE,zY (bY D),DG,vQ,f2];show(iZ (gV (bY D) (cV P v (bJ (I h) D)))).l=if n.gate.toNat=L.gate.toNat/\L.ao.toNat=L.ao.toNat then O else eR h n.gate.toNat L.ao.toNat;rw[an ⟨by rw[jK],rfl⟩,X.1];exact xb.symm
  exact p2.trans p5.symm
 clear p1 p2 p3 p4 p5 p6 p7 p8 hR;have aD:∀i,i<I h->(cV P v i).k.aw->(i=bP (I h) y\/i=bJ (I h) D)\/(cV P v i=eK h i/\i≠bJ (I h) y/\i≠bP (I h) y/\i≠bJ (I h) D/\i≠bP (I h) D):=λi H hp=>by
  rcases aB i H with(rfl|rfl|rfl|rfl)|E
  .rw[kT,jV cv]at hp;cases hp
  .exact .inl (.inl rfl)
  .exact .inl (.inr rfl)
  .rw[F8,jV cw]at hp;cases hp
  exact .inr E
 have az:∀i,i<I h->(cV P v i).k.aq->(i=bJ (I h) y\/i=bP (I h) D)\/(cV P v i=eK h i/\i≠bJ (I h) y/\i≠bP (I h) y/\i≠bJ (I h) D/\i≠bP (I h) D):=λi H hc=>by
  have N:∀(l:U) (r:Int),l.aw->({l with ao:=r}:U).aq=false:=λl r E=>nv E;rcases aB i H with(rfl|rfl|rfl|rfl)|E
  .exact .inl (.inl rfl)
  .rw[kH,N _ _ pp]at hc;cases hc
  .rw[yE,N _ _ pq]at hc;cases hc
  .exact .inl (.inr rfl)
  exact .inr E
 have av:∀i,i<I h->(cV P v i).k.aw->∃j l,h[j]?=some l/\l.aw/\(cV P v i).k.gate=l.gate/\(cV P v i).k.ao=l.ao/\((i=bP (I h) y/\j=bP (I h) D)\/(i=bJ (I h) D/\j=bJ (I h) y)\/(i=j/\i≠bJ (I h) y/\i≠bP (I h) D)):=λi H hp=>by
  rcases aD i H hp with(rfl|rfl)|⟨e,N,n2,n3,n4⟩
  .exact⟨_,n,yr,pq,by rw[kH];exact jK.symm,by rw[kH],.inl ⟨rfl,rfl⟩⟩
  .exact⟨_,L,Z,pp,by rw[yE];exact jK,by rw[yE],.inr (.inl ⟨rfl,rfl⟩)⟩
  obtain⟨l,hl⟩:=aM H;rw[e]at hp;rw[fq hl]at hp;exact⟨i,l,hl,hp,by rw[e,fq hl],by rw[e,fq hl],.inr (.inr ⟨rfl,N,n4⟩)⟩
 have C1:yx (cV P v (bJ (I h) y)) (cV P v (bP (I h) D)):=by
  obtain⟨b1,m,hm,mc,mi,mo,ms⟩:=pE ok.cr Y cv;rw[<-o1,uS]at hm;have em:=ld hm;subst em;refine⟨by rw[kT,F8,mo];simp,by rw[kT,F8,ms],?_⟩;rw[kT,q1,<-V_,Q.1,Q.2.1,X.2.2.1,X.2.2.2];constructor<;>simp only[if_true]
  .exact Cb
  .rfl
  .rfl
  rfl
 have br:lv.id=lw.id:=by obtain⟨b1,m,hm,mc,mi,mo,ms⟩:=pE ok.cr Y cv;rw[<-o1,uS]at hm;rw[ld hm,mi]
 have aN:gC h (bJ (I h) D)=bP (I h) y:=by rw[o1];exact(pE ok.cr Y cv).1
 have aL:∀(f:Bool) i,i<I h->∀t,t=(gV f (cV P v i)).l\/t=(gV f (cV P v i)).r->∃j',j'<I h/\(t=(v j').l\/t=(v j').r):=λf i H t B=>by
  cases f
  .refine⟨i,H,?_⟩;rcases B with B|B
   .exact .inr B
   exact .inl B
  refine⟨(i+I P-1)%I P,?_,B⟩;rw[zH];exact cJ _ hn
 have aZ:∀(f:Bool) i,i<I h->∀t,t=(jl f (cV P v i)).l\/t=(jl f (cV P v i)).r->∃j',j'<I h/\(t=(v j').l\/t=(v j').r):=λf i H t B=>by
  cases f
  .refine⟨(i+I P-1)%I P,?_,?_⟩
   .rw[zH];exact cJ _ hn
   rcases B with B|B
   .exact .inr B
   exact .inl B
  exact⟨i,H,B⟩
 have ar:=cz.gz;rw[h_]at ar;refine ai8 g (u:=T) (h:=v) (T:=T') (B:=B') zH (jT _ λ_ _=>rfl) (jT _ λ_ _=>rfl) (λk=>jT _ λ_ _=>rfl) (λi H=>?_) (λi j H hj gI ci cj e=>?_) (λi j H hj gI pi pj e1 e2=>?_) (λi H ci=>?_) (λi H pi=>?_) (λi H pi=>?_) (λk hk=>?_) ?_ (λj hj t B=>?_)
 .rcases aB i H with(rfl|rfl|rfl|rfl)|⟨e,_⟩
  .exact⟨by rw[kT];exact g.bad lv (aX Y),λ_=>ack (by rw[Q.1,Q.2.1]),λhp=>by rw[kT,jV cv]at hp;cases hp⟩
  .have fl:=Z2 (y:=eK h (bJ (I h) y)) (by rw[Q.2.2.1]) (by rw[Q.2.2.2,bp];exact bv.symm);refine⟨by rw[kH];exact ZQ pp (g.bad L (aX Z)),λhc=>?_,λ_=>?_⟩
   .rw[kH]at hc;have:=nv (l:={L with ao:=n.ao}) pp;rw[this]at hc;cases hc
   rw[fl.1,fl.2,dH];exact(DS g t1).pb (by rw[fq Z];exact pp)
  .have fl:=Z2 (y:=eK h (bP (I h) D)) (by rw[X.1,bq];exact bw) (by rw[X.2.1]);refine⟨by rw[yE];exact ZQ pq (g.bad n (aX yr)),λhc=>?_,λ_=>?_⟩
   .rw[yE]at hc;have:=nv (l:={n with ao:=L.ao}) pq;rw[this]at hc;cases hc
   rw[fl.1,fl.2,DG];exact(DS g M).pb (by rw[fq yr];exact pq)
  .exact⟨by rw[F8];exact g.bad lw (aX uS),λ_=>ack (by rw[X.2.2.1,X.2.2.2]),λhp=>by rw[F8,jV cw]at hp;cases hp⟩
  rw[e];exact DS g H
 .rcases az i H ci with(rfl|rfl)|⟨ei,N,n2,n3,n4⟩<;>rcases az j hj cj with(rfl|rfl)|⟨ej,m1,m2,m3,m4⟩
  .exact absurd rfl gI
  .exact C1
  .exfalso;obtain⟨l,hl⟩:=aM hj;rw[kT,ej,fq hl]at e;rw[ej,fq hl]at cj;have:=D8 g Y hl cv cj e m2.symm;rw[<-o1]at this;exact m3 this.symm
  .exact C1.symm
  .exact absurd rfl gI
  .exfalso;obtain⟨l,hl⟩:=aM hj;rw[F8,ej,fq hl]at e;rw[ej,fq hl]at cj;have:=D8 g uS hl cw cj e m3.symm;rw[aN]at this;exact m2 this.symm
  .exfalso;obtain⟨l,hl⟩:=aM H;rw[kT,ei,fq hl]at e;rw[ei,fq hl]at ci;have:=D8 g Y hl cv ci e.symm n2.symm;rw[<-o1]at this;exact n3 this.symm
  .exfalso;obtain⟨l,hl⟩:=aM H;rw[F8,ei,fq hl]at e;rw[ei,fq hl]at ci;have:=D8 g uS hl cw ci e.symm n3.symm;rw[aN]at this;exact n2 this.symm
  rw[ei]at ci e |-;rw[ej]at cj e |-;exact LC g H hj gI ci cj e
 .obtain⟨a,l,hl,_,Nl,ui,c1⟩:=av i H pi;obtain⟨b,m,hm,_,bb,u4,c2⟩:=av j hj pj;rename_i Ll aF;have dm:a≠b:=by
   intro e;rcases c1 with⟨i1,j1⟩|⟨i1,j1⟩|⟨i1,i2,i3⟩<;>rcases c2 with⟨k1,k2⟩|⟨k1,k2⟩|⟨k1,k2,k3⟩
   .exact gI (i1.trans k1.symm)
   .exact R (by rw[<-k2,<-e,j1])
   .exact k3 (by rw[k1,<-e,j1])
   .exact R (by rw[<-j1,e,k2])
   .exact gI (i1.trans k1.symm)
   .exact k2 (by rw[k1,<-e,j1])
   .exact i3 (by rw[i1,e,k2])
   .exact i2 (by rw[i1,e,k2])
   exact gI (by rw[i1,k1,e])
  exact dm (ok.ax.inj a b l m hl hm Ll aF ((Gp (ok.ax.eO l (aX hl) Ll) (ok.ax.eO m (aX hm) aF)).2 ⟨by rw[<-Nl,<-bb,e1],by rw[<-ui,<-u4,e2]⟩))
 .rcases az i H ci with(rfl|rfl)|⟨ei,_⟩
  .rw[kT];exact g.ids.1 lv (aX Y) cv
  .rw[F8];exact g.ids.1 lw (aX uS) cw
  obtain⟨l,hl⟩:=aM H;rw[ei,fq hl]at ci |-;exact g.ids.1 l (aX hl) ci
 .obtain⟨a,l,hl,Ll,Nl,ui,_⟩:=av i H pi;rw[Nl,ui];obtain⟨_,_,b1,b2⟩:=ok.ax.eO l (aX hl) Ll;exact⟨b1,b2⟩
 .rcases aD i H pi with(rfl|rfl)|⟨ei,N,n2,n3,n4⟩
  .exact pl1
  .exact pl2
  obtain⟨l,hl⟩:=aM H;rw[ei]at pi |-;rw[fq hl]at pi;obtain⟨A,z,a3,a4⟩:=Qt g hl pi;rw[fq hl]at A z a3 a4;obtain⟨b0,_,b1,b2⟩:=ok.ax.eO l (aX hl) pi;have uG:l.gate.toNat=L.gate.toNat->l.ao.toNat≠r/\l.ao.toNat-1≠r:=λjt=>by have gg:l.gate=L.gate:=J;have d1:l.ao≠L.ao:=λe=>N (ok.ax.inj i _ l L hl Z pi pp ((Gp (ok.ax.eO l (aX hl) pi) (ok.ax.eO L (aX Z) pp)).2 ⟨gg,e⟩));have d2:l.ao≠n.ao:=λe=>n4 (ok.ax.inj i _ l n hl yr pi pq ((Gp (ok.ax.eO l (aX hl) pi) (ok.ax.eO n (aX yr) pq)).2 ⟨by rw[gg,jK],e⟩));rcases iG with⟨s1,s2⟩|⟨s1,s2⟩<;>omega
  have kU:=hT l.gate.toNat (l.ao.toNat-1) (λ⟨h1,M⟩=>(uG h1).2 M);have v2:=hT l.gate.toNat l.ao.toNat (λ⟨h1,M⟩=>(uG h1).1 M);constructor
  .rw[fq hl,kU.1];exact A
  .rw[fq hl,v2.1];exact z
  .rw[fq hl,kU.2];exact a3
  rw[fq hl,v2.2];exact a4
 .have:=(cz.gt) k hk;rw[h_]at this;have kU:=hT k (aJ h k) (λ⟨h1,M⟩=>by rw[h1]at M;omega);have v2:=hT (k+1) 0 (λ⟨_,M⟩=>J);rw[kU.1,kU.2,v2.1,v2.2];exact this
 .have kU:=hT F (aJ h F) (λ⟨h1,M⟩=>by rw[h1]at M;omega);have v2:=hT 0 0 (λ⟨_,M⟩=>J);rw[kU.1,kU.2,v2.1,v2.2];exact ar
 have ap:∀d,j=d/2->t=(vk h d).l\/t=(vk h d).r:=λd hd=>by
  rw[hd]at B;unfold vk;split
  .exact B
  exact B.symm
 by_cases N:j=y/2
 .rcases ap y N with E|E
  .exact .inl E
  exact .inr (aL (bY D) _ t2 t (.inl (by rw[X.1,E];exact xc.symm)))
 by_cases n2:j=D/2
 .rcases ap D n2 with E|E
  .exact .inl (E.trans xa.symm)
  exact .inr (aZ (bY y) _ h1 t (.inl (by rw[Q.2.2.2,E];exact xd)))
 exact .inr ⟨j,hj,by rw[ab j N n2];exact B⟩
def Zz(g:a_ F h){a b:Nat}(ha:a<I h)(Z:b<I h)(dm:a≠b){L:aU}(ak:qz F h a b=some L):fP F L:=by
 unfold qz at ak;split at ak
 case isFalse=>cases ak
 rename_i hc;simp only[cN,ke,mE,cW]at hc;obtain⟨h1,h2,h3,h4,h5⟩:=hc;cases ak;have hn:=gA.2 g.ne;have cA:=cZ h;obtain⟨ea,⟨la,Y,ca⟩,ma,R,qa⟩:=Qn hn ha h1;obtain⟨eb,⟨lb,X,cb⟩,M,H,qb⟩:=Qn hn Z h2;generalize(j_ h a).1=u at*;generalize(j_ h a).2.1=va at*;generalize(j_ h b).1=pb at*;generalize(j_ h b).2.1=iI at*;rw[jr (gZ Y),jr (gZ X)]at h4;rw[jr (gZ R),jr (gZ H)];obtain⟨w,hw,k9,d,d1,d2,d3,d4,two,cs⟩:=ZB g ha Z dm ea eb Y X R H ca cb qa qb h4 h3 h5;have pc:∀ {x y:Nat}{l m:U},h[x]?=some l->h[y]?=some m->l.aq->m.aw->x≠y:=λh1 h2 h3 h4 e=>by grind [nv]
 have D:=pc Y R ca qa;have E:=pc X H cb qb;have v:=pc Y H ca qb;have z:=pc X R cb qa
 let f:=fv (fv (aA h) u M.ao) pb ma.ao
 have WH:=gZ R;have ag:u≠pb->(fv (aA h) u M.ao)[pb]?=some ⟨M,dw h pb⟩:=λA=>by rw[xZ WH,ai A.symm];exact gZ H
 have aj:∃p,(fv (aA h) u M.ao)[pb]?=some p:=aM (by rw[xX,cA];exact(bd.1 H).1);have Rp:I f=I h:=by show(fv (fv _ _ _) _ _).length=_;rw[xX,xX,cA]
 have e1:I (gw h f a)=I h:=by rw[uI,Rp]
 have zH:I (fN h f [a,b])=I h:=by rw[Aq,Rp]
 have jT:∀q:U->Bool,(∀(l:U) (r:Int),q {l with ao:=r}=q l)->au q ((fN h f [a,b]).map aK.l)=au q h:=λq hq=>by rw[<-Ul (f:=h) q];show List.countP _ _=List.countP _ _;rw[xt,xt];show(gw h (gw h f a) b).countP _=_;obtain⟨p,hp⟩:=aj;rw[Jc e1 Z (Mu g Z),Jc Rp ha (Mu g ha),X8 hp (λp=>hq _ _),X8 WH (λp=>hq _ _)]
 have ad:u≠pb->f[u]?=some ⟨{ma with ao:=M.ao},dw h u⟩/\f[pb]?=some ⟨{M with ao:=ma.ao},dw h pb⟩/\ ∀i,i≠u->i≠pb->f[i]?=(aA h)[i]? :=λA=>by
  have k:∀j,f[j]?=if j=pb then some ⟨{M with ao:=ma.ao},dw h pb⟩else if j=u then some ⟨{ma with ao:=M.ao},dw h u⟩else(aA h)[j]? :=λj=>by show(fv (fv _ _ _) _ _)[j]?=_;rw[xZ (ag A),xZ WH]
  refine⟨by rw[k,ai A,an rfl],by rw[k,an rfl],λi N B=>by rw[k,ai B,ai N]⟩
 have ac:u≠pb->(fN h f [a,b])[u]?=f[va]? /\(fN h f [a,b])[va]?=f[u]? /\(fN h f [a,b])[pb]?=f[iI]? /\(fN h f [a,b])[iI]?=f[pb]? /\ ∀i,i≠u->i≠va->i≠pb->i≠iI->(fN h f [a,b])[i]?=f[i]? :=λA=>by
  have k:∀i,(fN h f [a,b])[i]?=if i=nx h b then(gw h f a)[b]? else if i=b then(gw h f a)[nx h b]? else(gw h f a)[i]? :=λi=>Am e1 Z i;have k2:=λi=>Am Rp ha i;have ka:∀i,i≠u->i≠va->(gw h f a)[i]?=f[i]? :=λi N B=>by
   rcases ea with⟨n,Q⟩|⟨n,Q⟩
   .rw[k2,ai (by rw[<-Q];exact B),ai (by rw[<-n];exact N)]
   rw[k2,ai (by rw[<-n];exact N),ai (by rw[<-Q];exact B)]
  have kb:∀i,i≠pb->i≠iI->(fN h f [a,b])[i]?=(gw h f a)[i]? :=λi N B=>by
   rcases eb with⟨n,Q⟩|⟨n,Q⟩
   .rw[k,ai (by rw[<-Q];exact B),ai (by rw[<-n];exact N)]
   rw[k,ai (by rw[<-n];exact N),ai (by rw[<-Q];exact B)]
  have ab:(gw h f a)[u]?=f[va]? /\(gw h f a)[va]?=f[u]? :=by
   rcases ea with⟨n,Q⟩|⟨n,Q⟩
   .exact⟨by rw[k2,ai (by rw[<-Q];exact D.symm),an n,<-Q],by rw[k2,an Q,<-n]⟩
   exact⟨by rw[k2,an n,<-Q],by rw[k2,ai (by rw[<-n];exact D),an Q,<-n]⟩
  have OK:(fN h f [a,b])[pb]?=(gw h f a)[iI]? /\(fN h f [a,b])[iI]?=(gw h f a)[pb]? :=by
   rcases eb with⟨n,Q⟩|⟨n,Q⟩
   .exact⟨by rw[k,ai (by rw[<-Q];exact E.symm),an n,<-Q],by rw[k,an Q,<-n]⟩
   exact⟨by rw[k,an n,<-Q],by rw[k,ai (by rw[<-n];exact E),an Q,<-n]⟩
  refine⟨by rw[kb _ A z.symm,ab.1],by rw[kb _ v h3,ab.2],by rw[OK.1,ka _ z (Ne.symm h3)],by rw[OK.2,ka _ A.symm v.symm],λi N B n3 O=>by rw[kb i n3 O,ka i N B]⟩
 rcases cs with⟨c1,c2,c3,c4,c5,c6⟩|⟨c1,c2,c3,c4,c5,c6⟩
 .refine agH g hw k9 d1 d2 d3 d4 rfl two (by rw[c3];exact R) (by rw[c4];exact Y) (by rw[c5];exact X) (by rw[c6];exact H) qa ca cb qb zH jT λA=>?_;rw[c3,c4,c5,c6]at*;obtain⟨g1,g2,T⟩:=ad A;obtain⟨s1,s2,uY,xz,SH⟩:=ac A;exact⟨by rw[s1,T _ D v],by rw[s2,g1],by rw[xz,g2],by rw[uY,T _ z E],λi N B n3 O=>by rw[SH i N B O n3,T i N O]⟩
 refine agH g hw k9 d1 d2 d3 d4 rfl two (by rw[c3];exact H) (by rw[c4];exact X) (by rw[c5];exact Y) (by rw[c6];exact R) qb cb ca qa zH jT λA=>?_;rw[c3,c4,c5,c6]at*;obtain⟨g1,g2,T⟩:=ad A.symm;obtain⟨s1,s2,uY,xz,SH⟩:=ac A.symm;exact⟨by rw[uY,T _ z E],by rw[xz,g2],by rw[s2,g1],by rw[s1,T _ D v],λi N B n3 O=>by rw[SH i O n3 N B,T i O N]⟩
end
def lp(l:aU):gq:=(l.filter λp=>p.l.aw).map λp=>(p.l.gate,p.d)
def QG(a b:aU):lp (a++b)=lp a++lp b:=by simp[lp]
def DN{p:aK}{l:aU}(h:p.l.aw):lp (p::l)=(p.l.gate,p.d)::lp l:=by simp[lp,h]
def Qm{p:aK}{l:aU}(h:p.l.aw=false):lp (p::l)=lp l:=by simp[lp,h]
def aba(l:aU):(lp l).map (·.1)=lJ (l.map aK.l):=by
 induction l with
 |nil=>rfl
 |cons p l f=>
  cases h:p.l.aw with
  |true=>rw[DN h,eQ,f];unfold lJ;simp[h]
  |false=>rw[Qm h,f];unfold lJ;simp[h]
def an9{f:aK->aK}(hf:∀p,(f p).l.kind=p.l.kind/\(f p).l.gate=p.l.gate/\(f p).d=p.d)(l:aU):lp (l.map f)=lp l:=by
 induction l with
 |nil=>rfl
 |cons p l j=>
  obtain⟨m,H,n⟩:=hf p;have e:(f p).l.aw=p.l.aw:=by show((f p).l.kind==1)=(p.l.kind==1);rw[m]
  rw[eQ];cases h:p.l.aw with
  |true=>rw[DN h,DN (e.trans h),j,H,n]
  |false=>rw[Qm h,Qm (e.trans h),j]
def adP:∀ {z:fI}{s t:dW},(∀x∈z,vA F x)->ie s z t->lp (z.map aT.p)=th (!s.b) ((lp (z.map aT.p)).map (·.1)):=by
 intro z
 induction z with
 |nil=>intro s t _ _;rfl
 |cons x z f=>
  intro s t ok h;obtain⟨rfl,h⟩:=h;have O:=ok x aH;have f:=f (λx m=>ok x (by simp[m])) h;rw[eQ];rcases xj O.bad with hp|H
  .have E:x.p.l.aw:=hp;obtain⟨B,j⟩:=O.pb hp;rw[DN E,eQ];show _=(x.p.l.gate,!x.i.b)::th (!!x.i.b) _;rw[j,AB];rw[B]at f;rw[<-f]
  have E:x.p.l.aw=false:=by have L:(x.p.l.kind==2):=H;show(x.p.l.kind==1)=false;rw[cW.1 L];rfl
  rw[Qm E,O.cb H];exact f
def aw2(l:aU):(mh l).getD 0<=I l:=by
 unfold mh;cases h:(List.range (I l)).find? (Ep l)with
 |none=>exact bN _
 |some i=>have:=fA.1 (Cv h);exact SL this
def aoc{l:aU}(c:fP F l):kh (lp l) (th true (lJ (cL l))):=by
 have hf:=aw2 l;obtain⟨i,hi⟩:∃i,mh l=some i:=by
  cases h:mh l with
  |some i=>exact⟨i,rfl⟩
  |none=>
   exfalso;obtain⟨z,T,B,S,e,cz⟩:=c;subst e;obtain⟨x,N,hp,m⟩:=cz.down;obtain⟨j,n⟩:=fX N;have L:=(bd.1 n).1;have O:(z.map aT.p)[j]?=some x.p:=by rw[dy,n];rfl
   have:=CR.1 h j (by simpa using L);rw[FJ O]at this;unfold ya at this;have E:(x.p.l.kind==1):=hp;simp[E,m]at this
 rw[hi]at hf;have hf:i<=I l:=hf;have Q:cL l=(l.drop i++l.take i).map aK.l:=by unfold cL;rw[hi];exact L8 hf
 have v:fP F (l.drop i++l.take i):=fP.l9 (by rw[jC];exact c);obtain⟨z,T,B,S,e,cz⟩:=v;obtain⟨s,hp⟩:=cz.path;have H:=adP cz.ok hp;rw[e]at H;have f:=CO hi;have y:i<I l:=fA.1 (Cv hi);obtain⟨p,u⟩:=aM y;rw[FJ u]at f;unfold ya at f;rw[cN]at f;have D:p.l.aw:=f.1;have m:l.drop i=p::l.drop (i+1):=by obtain⟨A,rfl⟩:=bd.1 u;exact L5 A
 have ae:(!s.b):=by rw[m,ko,DN D]at H;have:=(Rl H).1;have M:=congrArg Prod.snd this;have R:p.d= !s.b:=M;rw[<-R];exact f.2
 rw[ae,aba,<-Q]at H;refine⟨lp (l.take i),lp (l.drop i),?_,?_⟩
 .rw[<-QG,jC]
 rw[<-QG];exact H.symm
def s4(j:Int)(l:gq):Int:=(l.map λx=>if x.1<=j then(if x.2 then 1 else -1)else 0).sum
def ON(j:Int)(a b:gq):s4 j (a++b)=s4 j a+s4 j b:=by simp[s4]
def auh{j:Int}{a b:gq}(h:kh a b):s4 j a=s4 j b:=by obtain⟨u,v,rfl,rfl⟩:=h;rw[ON,ON,Int.add_comm]
def azQ(j:Int)(w:bQ):∀n,n<=I w->mx w n j=s4 j (th true (w.take n)):=by
 intro n
 induction n with
 |zero=>intro _;rfl
 |succ n m=>
  intro u;obtain⟨g,H⟩:=aM (h:=w) (k:=n) J;have f:w.getD n 0=g:=by rw[dz,H];rfl
  rw[mx,m J,jB,H];show _=s4 j (th true (w.take n++[g]));rw[aql,ON,f,jw,v7 J];unfold At;by_cases e:n%2=0
  .simp[s4,e]
  simp[s4,e]
def V9(a b:gq):Prop:=kh a b\/ ∃u v x,(kh a (u++x::inv x::v)/\kh (u++v) b)\/(kh b (u++x::inv x::v)/\kh (u++v) a)
def kh.len{a b:gq}(h:kh a b):I a=I b:=by obtain⟨u,v,rfl,rfl⟩:=h;simp[S1]
def V9.pre{a b c:gq}(h:kh a b)(k:V9 b c):V9 a c:=by
 rcases k with k|⟨u,v,x,⟨f,H⟩|⟨f,H⟩⟩
 .exact .inl (h.trans k)
 .exact .inr ⟨u,v,x,.inl ⟨h.trans f,H⟩⟩
 exact .inr ⟨u,v,x,.inr ⟨f,H.trans h.symm⟩⟩
def avO(g A b:Int)(l:aU):lp (eL l g A b)=lp l:=an9 (λp=>by unfold ch;split<;>exact⟨rfl,rfl,rfl⟩) l
section
variable {F:Nat} {h:af}
def axt:(aA h).map aK.l=h:=by
 have H:=h_ h;rw[<-H];have e:aP (eE h)=((eE h).map aT.p).map aK.l:=by rw[gi];rfl
 rw[H,<-rC,<-e,H]
def arD(g:a_ F h):lp (aA h)=th true (lJ h):=by
 have cz:=g.cz;obtain⟨s,hp⟩:=cz.path;have H:=adP cz.ok hp;rw[rC]at H;obtain⟨l,m,hl⟩:=g.first;have f:=gZ m;obtain⟨t,ht⟩:∃t,aA h=⟨l,dw h 0⟩::t:=by
  cases j:aA h with
  |nil=>rw[j]at f;cases f
  |cons a t=>rw[j]at f;cases f;exact⟨t,rfl⟩
 have n:dw h 0:=by unfold dw;rw[m];show(l.aw&&dn h 0)=true;rw[hl];rfl
 have ae:(!s.b):=by rw[ht,DN (show(⟨l,dw h 0⟩:aK).l.aw=true from hl)]at H;have u:=congrArg Prod.snd (Rl H).1;have v:dw h 0= !s.b:=u;rw[<-v];exact n
 rw[ae,aba,axt]at H;exact H
end
structure ml (L:af) (φ:U->U):Prop where
 kd:∀l,(φ l).kind=l.kind
 id:∀l,(φ l).id=l.id
 tb:∀l∈L,l.aq->((φ l).over==((φ l).sign==1))=(l.over==(l.sign==1))
 lf:∀a∈L,∀b∈L,a.aw->b.aw->BB (φ a) (φ b)=BB a b
def afb{α:Type}{p q:α->Bool}:∀ {o:List α},(∀x∈o,p x=q x)->o.takeWhile p=o.takeWhile q
 |[],_=>rfl
 |a::o,h=>by rw[QX,QX,h a aH,afb λx H=>h x (by simp[H])]
section
variable {L:af} {m:U->U}
def ml.aw(k:ml L m)(l:U):(m l).aw=l.aw:=by unfold U.aw;rw[k.kd]
def ml.aq(k:ml L m)(l:U):(m l).aq=l.aq:=by unfold U.aq;rw[k.kd]
def ml.DE(k:ml L m)(X:af):au U.aw (X.map m)=au U.aw X:=by show List.countP _ _=List.countP _ _;rw[xt];exact Aa λx _=>by rw[Function.comp_apply,k.aw]
def ml.BO(k:ml L m)(X:af):au U.aq (X.map m)=au U.aq X:=by show List.countP _ _=List.countP _ _;rw[xt];exact Aa λx _=>by rw[Function.comp_apply,k.aq]
def ml.dn(k:ml L m)(i:Nat):dn (L.map m) i=dn L i:=by unfold Go.Abs.dn;rw[<-sh,k.DE]
def ml.dw(k:ml L m)(i:Nat):dw (L.map m) i=dw L i:=by
 unfold Go.Abs.dw;rw[dy,k.dn];cases L[i]? with
 |none=>rfl
 |some l=>show((m l).aw&&_)=_;rw[k.aw]
def ml.o9(k:ml L m):∀n,n<=I L->o9 (L.map m) n=o9 L n:=by
 intro n
 induction n with
 |zero=>intro _;rfl
 |succ n j=>
  intro v;rw[C9,C9,j J];unfold yX;obtain⟨l,hl⟩:=aM (h:=L) (k:=n) J;rw[dy,hl];show(if(m l).aw=true then _ else _)=(if l.aw=true then _ else _);rw[k.aw];split
  .rename_i hp;unfold AD;rw[afb (q:=Cm L n) λx u=>?_];obtain⟨a,H,f⟩:=(Y_ J).1 u |>.2
   unfold Cm;rw[dy,dy,H,hl];exact k.lf a (aX H) l (aX hl) f hp
  rfl
def ml.Dv(k:ml L m):ay (L.map m)=ay L:=by have:=k.o9 (I L) (ct _);unfold ay;rw[bG];exact this
def ml.other(k:ml L m)(i:Nat):gC (L.map m) i=gC L i:=by
 unfold gC;rw[bG];congr 2;funext j;unfold yI;rw[dy,dy];have e:∀o:Option U,((o.map m).map U.id).getD 0=(o.map U.id).getD 0:=λo=>by
  cases o with
  |none=>rfl
  |some l=>exact k.id l
 rw[e];cases L[j]? with
 |none=>rfl
 |some l=>show(j !=i&&((m l).aq&&(m l).id==_))=_;rw[k.aq,k.id]
def ml.aO(k:ml L m):aO (L.map m)=aO L:=by
 funext d;show gU _ _ d=gU _ _ d;unfold gU;rw[bG,k.Dv];simp only[k.dn,dy,k.other];split
 .rfl
 cases h:L[if(d%2==0)=true then(d/2+1)%I L else d/2]? with
 |none=>rfl
 |some l=>
  show(if((m l).kind==2)=true then _ else _)=(if(l.kind==2)=true then _ else _);rw[k.kd];split
  .rename_i H;rw[k.tb l (aX h) H]
  rfl
def ml.nD(k:ml L m):nD (L.map m)=nD L:=by show 2*_+2*_=2*_+2*_;rw[bG,k.Dv]
def ml.nW(k:ml L m):fp (L.map m)=fp L:=by have h:=k.aO;have H:=k.nD;show(fF (Go.Abs.aO _) (Go.Abs.nD _)).length=I (fF (Go.Abs.aO _) (Go.Abs.nD _));rw[h,H]
def ml.dD(k:ml L m):dD (L.map m)=dD L:=by funext x;show w8 (fF (Go.Abs.aO _) (Go.Abs.nD _)) x=w8 (fF (Go.Abs.aO _) (Go.Abs.nD _)) x;rw[k.aO,k.nD]
end
def dI(f n:Nat)(l:U):U:=if l.aw=true/\(f:Int)<=l.gate then{l with gate:=l.gate-1,ao:=if l.gate=(f:Int)then l.ao+(n:Int)else l.ao}else l
abbrev cG(f:Nat)(L:af):af:=L.map (dI f (aJ L (f-1)))
section
variable {f n:Nat}
def agv{l:U}(h:l.aq):l.aw=false:=by unfold U.aq at h;unfold U.aw;rw[cW.1 h];rfl
def g_(l:U):(dI f n l).kind=l.kind/\(dI f n l).id=l.id/\(dI f n l).sign=l.sign/\(dI f n l).over=l.over:=by unfold dI;split<;>exact⟨rfl,rfl,rfl,rfl⟩
def EO{l:U}(h:l.aw=false):dI f n l=l:=ai λc=>by rw[h]at c;cases c.1
def am5{l:U}(h:l.gate<(f:Int)):dI f n l=l:=ai λc=>J
def qF{l:U}(hp:l.aw):(dI f n l).gate=if(f:Int)<=l.gate then l.gate-1 else l.gate:=by
 unfold dI;by_cases h:(f:Int)<=l.gate
 .rw[an ⟨hp,h⟩,an h]
 rw[ai λc=>h c.2,ai h]
def uw{l:U}(hp:l.aw):(dI f n l).ao=if l.gate=(f:Int)then l.ao+(n:Int)else l.ao:=by
 unfold dI;by_cases h:(f:Int)<=l.gate
 .rw[an ⟨hp,h⟩]
 rw[ai λc=>h c.2,ai J]
def ax6(l:U):(dI f n l).aw=l.aw:=by unfold U.aw;rw[(g_ l).1]
def PM(l:U):(dI f n l).aq=l.aq:=by unfold U.aq;rw[(g_ l).1]
def aAk(hf:1<=f)(g:Nat)(l:U):ir g (dI f n l)=if g+1<f then ir g l else if g+1=f then(ir g l||ir (g+1) l)else ir (g+1) l:=by
 unfold ir;rw[ax6];cases hp:l.aw with
 |false=>split<;>(try split)<;>rfl
 |true=>rw[qF hp,zB,zB,zB,Ik];split<;>split<;>(try split)<;>simp only[cW,qZ]<;>omega
def KW(hf:1<=f)(X:af)(g:Nat):aJ (X.map (dI f n)) g=if g+1<f then aJ X g else if g+1=f then aJ X g+aJ X (g+1)else aJ X (g+1):=by
 have e:aJ (X.map (dI f n)) g=X.countP λl=>ir g (dI f n l):=xt;rw[e];simp only[aAk hf];split
 .rfl
 split
 .refine Qc (λa=>by rw[qZ]) (λa h H=>?_) X;unfold ir at h H;simp only[cN,cW]at h H;omega
 rfl
def acv(hf:1<=f)(X:af):∀g,cX (X.map (dI f n)) g=if g<f then cX X g else cX X (g+1):=by
 intro g
 induction g with
 |zero=>rw[an J];rfl
 |succ g j=>
  rw[lz,j,KW hf];by_cases h:g+1<f
  .rw[an J,an h,an h,lz]
  rw[ai h,ai h];by_cases H:g+1=f
  .rw[an J,an H,lz,lz,yQ]
  rw[ai J,ai H,lz X (g+1)]
def amG(L:af)(id:Int)(o:Bool):qx (L.map (dI f n)) id o=qx L id o:=by
 funext j;unfold qx;rw[dy];cases L[j]? with
 |none=>rfl
 |some l=>obtain⟨m,h,u,H⟩:=g_ (f:=f) (n:=n) l;show((dI f n l).aq&&((dI f n l).id==id&&(dI f n l).over==o))=_;rw[PM,h,H]
def afo(L:af):∀k,fx (L.map (dI f n)) k=fx L k
 |0=>rfl
 |k+1=>by
  have h:=afo L k;unfold fx;rw[dy,h];cases L[k]? with
  |none=>rfl
  |some l=>show(if((dI f n l).aq&& !(fx L k).contains (dI f n l).id)=true then fx L k++[(dI f n l).id]else _)=_;rw[PM,(g_ l).2.1]
def aon{L:af}(h:lA L):lA (L.map (dI f n)):=by
 have H:au U.aq (L.map (dI f n))=au U.aq L:=by show List.countP _ _=List.countP _ _;rw[xt];exact Aa λx _=>by rw[Function.comp_apply,PM]
 unfold lA at h |-;rw[H,bG,afo];refine Eq.trans ?_ h;congr 2;refine congrArg (λp=>(List.range (I L)).all p) (funext λk=>?_);unfold mW;rw[dy];cases L[k]? with
 |none=>rfl
 |some l=>
  have ae:∀j,xW (L.map (dI f n)) j=xW L j:=λj=>by
   unfold xW;rw[dy];cases L[j]? with
   |none=>rfl
   |some m=>exact(g_ m).2.2.1
  show(!(dI f n l).aq||_)=_;unfold ig;simp only[PM,(g_ l).2.1,(g_ l).2.2.1,(g_ l).2.2.2,amG,ae]
variable {F:Nat} {L:af}
def AE(g:a_ F L)(hf:1<=f):ml L (dI f (aJ L (f-1))):=by
 refine⟨λl=>(g_ l).1,λl=>(g_ l).2.1,λl _ _=>by rw[(g_ l).2.2.1,(g_ l).2.2.2],λa j b H h pb=>?_⟩;obtain⟨u,x,y,A⟩:=g.ok.ax.eO a j h;obtain⟨v,m,n,B⟩:=g.ok.ax.eO b H pb;have z:a.gate=((f-1:Nat):Int)->a.ao<=(aJ L (f-1):Int):=λe=>by rw[e]at A;exact A
 have cb:b.gate=((f-1:Nat):Int)->b.ao<=(aJ L (f-1):Int):=λe=>by rw[e]at B;exact B
 unfold BB;rw[qF h,qF pb,uw h,uw pb,Ik];simp only[qZ,cN,jn,cW];generalize aJ L (f-1)=c at*;split<;>split<;>split<;>split<;>omega
def ahg(g:a_ F L)(hf:1<=f){l:U}(hl:l∈L)(hp:l.aw):eC (cG f L) (dI f (aJ L (f-1)) l)=eC L l:=by
 obtain⟨A,u,v,x⟩:=g.ok.ax.eO l hl hp;unfold eC;rw[acv hf,qF hp,uw hp];obtain⟨G,n⟩:=lB A;obtain⟨R,m⟩:=lB (show 0<=l.ao by omega);rw[n,m];by_cases h:f<=G
 .rw[an (show(f:Int)<=(G:Int) by omega)];have j:((G:Int)-1).toNat=G-1:=J;rw[j];by_cases H:G=f
  .subst H;rw[an rfl,an J];have E:=lz L (G-1);rw[show G-1+1=G by omega]at E;rw[js,js,E];omega
  rw[ai J,ai J,show G-1+1=G by omega,js,js]
 rw[ai (show¬(f:Int)<=(G:Int) by omega),ai (show¬(G:Int)=(f:Int) by omega),js,js,an (show G<f by omega)]
def Zv(g:a_ F L)(hf:1<=f)(y:f<=F){l:U}(hl:l∈L)(hp:l.aw):rB (F-1) (cG f L) (dI f (aJ L (f-1)) l):=by
 obtain⟨m,v,x,A⟩:=g.ok.ax.eO l hl hp;have E:=qF (f:=f) (n:=aJ L (f-1)) hp;have j:=uw (f:=f) (n:=aJ L (f-1)) hp;refine⟨?_,?_,?_,?_⟩
 .rw[E];split<;>omega
 .rw[E];split<;>omega
 .rw[j];split<;>omega
 rw[j,E,KW hf];obtain⟨G,u⟩:=lB m;rw[u]at A |-;rw[js]at A;by_cases h:f<=G
 .rw[an (show(f:Int)<=(G:Int) by omega),show((G:Int)-1).toNat=G-1 by omega,ai (show¬G-1+1<f by omega)];by_cases H:G=f
  .rw[an (show(G:Int)=(f:Int) by omega),an (show G-1+1=f by omega),show G-1+1=G by omega,H];rw[H]at A;omega
  rw[ai (show¬(G:Int)=(f:Int) by omega),ai (show¬G-1+1=f by omega),show G-1+1=G by omega];exact A
 rw[ai (show¬(f:Int)<=(G:Int) by omega),ai (show¬(G:Int)=(f:Int) by omega),js];by_cases H:G+1<f
 .rw[an H];exact A
 rw[ai H,an (show G+1=f by omega)];omega
def M_(g:a_ F L)(hf:1<=f)(v:f<=F):dM ((F-1:Nat):Int) (cG f L)=0/\a_ (F-1) (cG f L):=by
 have k:=AE g hf;have n:dM ((F-1:Nat):Int) (cG f L)=0:=by
  have hl:=g.len;have u:=g.cr;have X:=g.fing;unfold dM;rw[k.BO,bG,ai J,ai J];split
  .rfl
  refine an ?_;unfold mA;obtain⟨B,N,R⟩:=g.first;rw[dy,N,k.DE,k.BO,k.nW];simp only[cN,cW,vp];refine⟨⟨⟨?_,g.even⟩,?_⟩,g.nw⟩
  .have:=k.aw B;rw[R]at this;exact cW.1 this
  rw[G0];refine⟨Cz.2 λm H=>?_,?_,?_⟩
  .obtain⟨l,hl,rfl⟩:=cD.1 H;have h:=g.bad l hl;rcases g.ok.kinds l hl with hp|u
   .have x:=Zv g hf v hl hp;rw[kL hp]at h;rw[Bool.not_eq_true,kL (by rw[k.aw];exact hp),(g_ l).2.1,(g_ l).2.2.1,(g_ l).2.2.2];exact⟨⟨⟨⟨x.g0,x.g1⟩,h.1.1.2⟩,h.1.2⟩,h.2⟩
   rw[EO (agv u)];have Q:(l.kind==2):=u;have O:(l.kind==1)=false:=by have:=agv u;exact this
   unfold d_ at h |-;rw[O,Q]at h |-
   simpa using h
  .have M:tM (F-1) (cG f L):=λm H hp=>by
    obtain⟨l,hl,rfl⟩:=cD.1 H;have:=Zv g hf v hl (by rw[<-k.aw];exact hp);exact⟨this.g0,this.g1⟩
   refine(D9 M).2 ⟨λm H hp=>?_,λi j m Y y z hp E e=>?_⟩
   .obtain⟨l,hl,rfl⟩:=cD.1 H;exact Zv g hf v hl (by rw[<-k.aw];exact hp)
   rw[dy,fH]at y z;obtain⟨l,hl,rfl⟩:=y;obtain⟨T,A,rfl⟩:=z;rw[k.aw]at hp E;rw[ahg g hf (aX hl) hp,ahg g hf (aX A) E]at e;exact g.ok.ax.inj i j l T hl A hp E e
  exact aon g.ok.cr
 obtain⟨G,e,D⟩:=E4 n (by simpa using g.ne);have:F-1=G:=J;subst this;exact⟨n,D⟩
end
def eH (w:U->Int)(l:aU):Int:=(l.map λp=>w p.l).sum
def Gm(w:U->Int)(a b:aU):eH w (a++b)=eH w a+eH w b:=by simp[eH]
def I2(w:U->Int)(l x:aU)(k:Nat):eH w (ft l x k)=eH w l+eH w x:=by show eH w (l.take (k+1)++x++l.drop (k+1))=_;rw[Gm,Gm,Int.add_right_comm,<-Gm,jC]
def OT{w:U->Int}:∀ {l:aU}{i:Nat}{x y:aK},l[i]?=some x->eH w (l.set i y)=eH w l-w x.l+w y.l:=by
 intro l
 induction l with
 |nil=>intro i x y h;simp at h
 |cons p l f=>
  intro i x y h;cases i with
  |zero=>simp only[List.getElem?_cons_zero,gW]at h;subst h;simp only[eH,SY,eQ,Ds];omega
  |succ i=>simp only[List.getElem?_cons_succ]at h;have:=f (y:=y) h;simp only[eH,List.set_cons_succ,eQ,Ds]at this |-;omega
section
variable {F:Nat} {h:af}
def aoO{w:U->Int}{l:aU}(hl:I l=I h){e:Nat}(m:e<I h)(A:e≠nx h e):eH w (gw h l e)=eH w l:=by
 have n:nx h e<I h:=cJ _ J;obtain⟨x,f⟩:=aM (h:=l) (k:=e) J;obtain⟨y,H⟩:=aM (h:=l) (k:=nx h e) J;unfold gw;rw[dz,dz,f,H];simp only[nm];have j:(l.set e y)[nx h e]?=some y:=by rw[pA,ai A];exact H
 rw[OT j,OT f];omega
def abA(g:a_ F h){w:U->Int}:∀(E:aC) (l:aU),I l=I h->(∀e∈E,e<I h)->eH w (fN h l E)=eH w l:=by
 intro E
 induction E with
 |nil=>intro l _ _;rfl
 |cons e E f=>intro l hl H;show eH w (fN h (gw h l e) E)=_;rw[f _ (by rw[uI,hl]) λe j=>H e (by simp[j]),aoO hl (H e aH) (Mu g (H e aH))]
def aky(f:Nat->Int)(k:Nat):∀D:aC,D.Nodup->((D.filter λi=>decide (i<k+1)).map f).sum=((D.filter λi=>decide (i<k)).map f).sum+if k∈D then f k else 0:=by
 intro D
 induction D with
 |nil=>intro _;rfl
 |cons a D u=>
  intro H;obtain⟨n,H⟩:=qH.1 H;have:=u H;rcases EV a k with h|h|h
  .have E:decide (a<k+1)=true:=by simp;omega
   have j:decide (a<k)=true:=by simp;omega
   have m:(k∈a::D)↔k∈D:=by simp;omega
   simp only[PL,E,j,if_true,eQ,Ds,m,this];omega
  .subst h;have E:decide (a<a+1)=true:=aH;have j:decide (a<a)=false:=aH;rw[ai n]at this;simp only[PL,E,j,if_true,eQ,Ds,this,dt,true_or,gJ,if_false];omega
  have E:decide (a<k+1)=false:=by simp;omega
  have j:decide (a<k)=false:=by simp;omega
  have m:(k∈a::D)↔k∈D:=by simp;omega
  simp only[PL,E,j,gJ,if_false,m,this]
def auW{w:U->Int}{l:aU}{drop:Nat->aK->Bool}{D:aC}(u:D.Nodup)(A:∀i∈D,i<I l)(H:∀i p,l[i]?=some p->(drop i p↔i∈D)):eH w (kW l drop)=eH w l-(D.map λi=>w (l.getD i ⟨ga,false⟩).l).sum:=by
 have j:∀k,k<=I l->eH w (sD l drop k)+((D.filter λi=>decide (i<k)).map λi=>w (l.getD i ⟨ga,false⟩).l).sum=eH w (l.take k):=by
  intro k
  induction k with
  |zero=>intro _;have:(D.filter λi=>decide (i<0))=[]:=List.filter_eq_nil_iff.2 λi _=>aH;rw[this];rfl
  |succ k m=>
   intro x;obtain⟨p,hp⟩:=aM (h:=l) (k:=k) J;have m:=m J;have M:(l.getD k ⟨ga,false⟩)=p:=by rw[dz,hp];rfl
   rw[jB,hp,Gm,<-m,aky _ _ _ u];cases f:drop k p
   .have:k∉D:=λv=>by rw[(H k p hp).2 v]at f;cases f
    rw[GX hp f,Gm,ai this];simp only[Option.toList_some];omega
   have:k∈D:=(H k p hp).1 f;rw[CB hp f,an this,M];simp only[Option.toList_some,eH,eQ,oO,Ds,List.sum_nil];omega
 have v:=j (I l) (ct _);rw[jz,List.filter_eq_self.2 λi n=>by simpa using A i n]at v;unfold kW;omega
def am1:(aA h).map aK.l=h:=by
 have H:=h_ h;rw[<-H];have e:aP (eE h)=((eE h).map aT.p).map aK.l:=by rw[gi];rfl
 rw[H,<-rC,<-e,H]
def ans(w:U->Int):eH w (aA h)=(h.map w).sum:=by
 conv=>rhs;rw[<-am1 (h:=h)]
 rw[gi];rfl
def ams(l:aU):(mh l).getD 0<=I l:=by
 unfold mh;cases h:(List.range (I l)).find? (Ep l)with
 |none=>exact bN _
 |some i=>have:=fA.1 (Cv h);exact SL this
def ayZ(w:U->Int)(l:aU):((cL l).map w).sum=eH w l:=by unfold cL;have h:=ams l;generalize(mh l).getD 0=f at*;rw[L8 h,gi];show eH w (l.drop f++l.take f)=_;rw[Gm,Int.add_comm,<-Gm,jC]
end
theorem Sh(x y:U):yt x y↔x=y:=by
 constructor
 .intro h;unfold yt at h;simp at h;obtain _:=h;cases x;cases y
  simp_all
 rintro rfl;exact G4 x
def BT(a b:U):Bool:=if a.kind==b.kind then if a.gate==b.gate then if a.ao==b.ao then if a.id==b.id then if a.over==b.over then decide (a.sign<b.sign)else b.over else decide (a.id<b.id)else decide (a.ao<b.ao)else decide (a.gate<b.gate)else decide (a.kind<b.kind)
def qy:bQ->bQ->Bool
 |a::A,b::B=>if a=b then qy A B else decide (a<b)
 |_,_=>false
def auV(A:bQ):qy A A=false:=by
 induction A with
 |nil=>rfl
 |cons a A f=>unfold qy;rw[an rfl];exact f
def asn:∀ {A B:bQ},qy A B->qy B A=false:=by
 intro A
 induction A with
 |nil=>intro B h;cases B<;>cases h
 |cons a A f=>
  intro B h;cases B with
  |nil=>cases h
  |cons b B=>grind [qy]
def axB:∀ {A B D:bQ},qy A B->qy B D->qy A D:=by
 intro A
 induction A with
 |nil=>intro B D h;cases B<;>cases h
 |cons a A f=>
  intro B D h H;cases B with
  |nil=>cases h
  |cons b B=>
   cases D with
   |nil=>cases H
   |cons d D=>grind [qy]
def ug(a:U):bQ:=[a.kind,a.gate,a.ao,a.id,if a.over then 1 else 0,a.sign]
def Mw(a b:U):BT a b=qy (ug a) (ug b):=by grind [BT,ug,qy]
theorem axO{a b:U}(h:BT a b):BT b a=false:=by rw[Mw]at*;exact asn h
theorem ayY{a b c:U}(h:BT a b)(H:BT b c):BT a c:=by rw[Mw]at*;exact axB h H
def lL:af->af->Bool
 |a::A,b::B=>if yt a b then lL A B else BT a b
 |_,_=>false
theorem O3(A:af):lL A A=false:=by
 induction A with
 |nil=>rfl
 |cons a A f=>unfold lL;rw[an (G4 a)];exact f
theorem SR:∀ {A B D:af},lL A B->lL B D->lL A D:=by
 intro A
 induction A with
 |nil=>intro B D h;cases B<;>cases h
 |cons a A f=>
  intro B D h H;cases B with
  |nil=>cases h
  |cons b B=>
   cases D with
   |nil=>cases H
   |cons d D=>grind [lL,Sh,axO,ayY]
def fh(l:af)(i:Nat):af:=l.drop i++l.take i
def pV(l:af)(i:Nat):Prop:=au U.aw (l.take i)%2=0
def Dm(l:af)(i:Nat):Prop:=(∃x,l[i]?=some x/\x.aw)/\pV l i
theorem t_(l:af)(i:Nat):I (fh l i)=I l:=by grind [fh]
def EN(q:U->Bool)(a b:af):au q (a++b)=au q a+au q b:=vz
theorem Qu(q:U->Bool)(l:af)(i:Nat):au q (fh l i)=au q l:=by grind [fh,jC]
def al5{l:af}{i:Nat}(v:j<=I l)(x:i<I l):∃k,k<I l/\fh (fh l j) i=fh l k/\(fh l j)[i]?=l[k]? /\(au U.aw l%2=0->pV l j->pV (fh l j) i->pV l k):=by
 by_cases h:i<I l-j
 .refine⟨j+i,J,?_,?_,?_⟩
  .unfold fh;rw[agB (by rw[pS];omega),Sb (by rw[pS];omega),MV,kr];congr 1;rw[<-List.take_add]
  .unfold fh;rw[sC (by rw[pS];omega),C0]
  unfold pV fh;intro _ n H;rw[Sb (by rw[pS];omega)]at H;rw[List.take_add,EN];omega
 refine⟨i-(I l-j),J,?_,?_,?_⟩
 .unfold fh;obtain⟨d,hd⟩:∃d,d=i-(I l-j):=⟨_,rfl⟩;rw[<-hd];have E:(l.drop j++l.take j).drop i=(l.take j).drop d:=by
   rw[Te,Vh (by rw[pS];omega),fz,pS,hd]
  have u:(l.drop j++l.take j).take i=l.drop j++(l.take j).take d:=by grind [Ii,fL]
  rw[E,u,<-kr];have f:(l.take j).take d=l.take d:=by rw[D5,v7 J]
  rw[f];congr 1;have m:l.drop d=(l.take j).drop d++l.drop j:=by
   conv=>lhs;rw[<-jC j l]
   rw[agB (by rw[jw];omega)]
  exact m.symm
 .unfold fh;rw[o_ (by rw[pS];omega),pS,pR];rw[an J]
 unfold pV fh;intro y n H;rw[Ii,fL (by rw[pS];omega),pS,EN,D5,v7 J]at H;have:au U.aw l=au U.aw (l.take j)+au U.aw (l.drop j):=by rw[<-EN,jC]
 omega
def kS:bQ->af->af
 |_,[]=>[]
 |s,x::r=>if x.kind==2 then(if s.contains x.id then{x with id:=((s.idxOf x.id+1:Nat):Int)}::kS s r else{x with id:=((I s+1:Nat):Int)}::kS (s++[x.id]) r)else x::kS s r
def nr(l:af):af:=kS [] l
def dk(f:Int->Int)(x:U):U:=if x.kind==2 then{x with id:=f x.id}else x
def aez(f:Int->Int)(x:U):(dk f x).kind=x.kind:=by unfold dk;split<;>rfl
theorem Gt(f:Int->Int)(x:U):(dk f x).aw=x.aw:=by unfold U.aw;rw[aez]
def inj(f:Int->Int)(l:af):Prop:=∀x∈l,∀y∈l,x.kind=2->y.kind=2->f x.id=f y.id->x.id=y.id
def aoq:∀ {l:af}{s:bQ},(∀x∈l,x.kind=2->∀a∈s,f x.id=f a->x.id=a)->inj f l->kS (s.map f) (l.map (dk f))=kS s l:=by
 intro l
 induction l with
 |nil=>intro s _ _;rfl
 |cons x r n=>
  intro s ae A;have u:=λa v b E=>A a (zj _ v) b (zj _ E);by_cases m:x.kind=2
  .have Q:(x.kind==2):=by rw[m];rfl
   have e:dk f x={x with id:=f x.id}:=an Q;have j:(s.map f).contains (f x.id)=s.contains x.id:=by grind
   rw[eQ,e];unfold kS;simp only[Q,if_true,j];cases F:s.contains x.id with
   |true=>
    simp only[if_true];have N:(s.map f).idxOf (f x.id)=s.idxOf x.id:=by
     clear n;have O:=ae x aH m;clear ae j F
     induction s with
     |nil=>rfl
     |cons a s D=>grind
    rw[N,n (λy H=>ae y (zj _ H)) u]
   |false=>
    simp only[gJ,if_false,bG];have:=n (λy H B a v h=>by
     rcases iR.1 v with z|z
     .exact ae y (zj _ H) B a z h
     rw[nY.1 z]at h |-;exact A y (zj _ H) x aH B m h) u
    rw[fE]at this;rw[<-this];rfl
  have Q:=mE.2 m;have e:dk f x=x:=ai (by rw[Q];decide);rw[eQ,e];unfold kS;simp only[Q,gJ,if_false];rw[n (λy H=>ae y (zj _ H)) u]
theorem ajU{l:af}(h:inj f l):nr (l.map (dk f))=nr l:=aoq (s:=[]) (λ_ _ _ _ H=>by cases H) h
def oq:bQ->af->bQ
 |s,[]=>s
 |s,x::r=>if x.kind==2 then(if s.contains x.id then oq s r else oq (s++[x.id]) r)else oq s r
def aap:∀(l:af) (s:bQ),∃t,oq s l=s++t:=by
 intro l
 induction l with
 |nil=>intro s;exact⟨[],by simp[oq]⟩
 |cons x r f=>
  intro s;unfold oq;split
  .split
   .exact f s
   obtain _:=f (s++[x.id])
   grind
  exact f s
def aoh{s t:bQ}{a:Int}(h:a∈s):(s++t).idxOf a=s.idxOf a:=by rw[List.idxOf_append,an h]
def avv:∀(l:af) (s:bQ),kS s l=l.map (dk λa=>(((oq s l).idxOf a+1:Nat):Int))/\ ∀x∈l,x.kind=2->x.id∈oq s l:=by
 intro l
 induction l with
 |nil=>intro s;exact⟨rfl,λx h=>by cases h⟩
 |cons x r z=>
  intro s;by_cases v:x.kind=2
  .have Q:(x.kind==2):=by rw[v];rfl
   cases f:s.contains x.id with
   |true=>
    have B:=IT.1 f;have e:oq s (x::r)=oq s r:=by simp only[oq,Q,f,if_true]
    obtain⟨j,m⟩:=z s;obtain⟨t,u⟩:=aap r s;refine⟨?_,?_⟩
    .have E:kS s (x::r)={x with id:=((s.idxOf x.id+1:Nat):Int)}::kS s r:=by simp only[kS,Q,f,if_true]
     rw[e,E,eQ,j]
     grind [dk]
    grind
   |false=>
    have e:oq s (x::r)=oq (s++[x.id]) r:=by simp only[oq,Q,f,if_true,gJ,if_false]
    obtain⟨j,m⟩:=z (s++[x.id]);obtain⟨t,u⟩:=aap r (s++[x.id]);have A:¬x.id∈s:=λh=>by rw[IT.2 h]at f;cases f
    refine⟨?_,?_⟩
    .have E:kS s (x::r)={x with id:=((I s+1:Nat):Int)}::kS (s++[x.id]) r:=by simp only[kS,Q,f,if_true,gJ,if_false]
     rw[e,E,eQ,j];congr 1;unfold dk;rw[an Q,u];dsimp only;rw[aoh aH,List.idxOf_append,ai A];simp
    rw[e];intro y H n;rcases dt.1 H with rfl|H
    .rw[u];simp
    exact m y H n
  have Q:=mE.2 v;have e:oq s (x::r)=oq s r:=by simp only[oq,Q,gJ,if_false]
  obtain⟨j,m⟩:=z s;refine⟨?_,?_⟩
  .have E:kS s (x::r)=x::kS s r:=by simp only[kS,Q,gJ,if_false]
   rw[e,E,eQ,j]
   grind [dk]
  rw[e];intro y H n;rcases dt.1 H with rfl|H
  .exact absurd n v
  exact m y H n
theorem atb{S:bQ}{a b:Int}(f:a∈S)(H:b∈S)(h:S.idxOf a=S.idxOf b):a=b:=by rw[<- (List.getElem_idxOf (Mj.2 f)),<- (List.getElem_idxOf (Mj.2 H))];simp[h]
theorem WY{l m:af}(h:inj f l)(H:∀x∈m,x∈l):inj f m:=λx n y j=>h x (H x n) y (H y j)
theorem acx(f:U->U)(l:af)(i:Nat):fh (l.map f) i=(fh l i).map f:=by unfold fh;simp
theorem CU{l:af}{i:Nat}{x:U}:x∈fh l i↔x∈l:=by unfold fh;rw[iR,Or.comm,<-iR,jC]
def xw(l y:af):Prop:= ∃i,i<I l/\Dm l i/\y=nr (fh l i)
def zC(l y:af):Prop:=xw l y\/xw l.reverse y
def YR(l:af):au U.aw (l.map (dk f))=au U.aw l:=by grind [xt,Aa,Gt]
def aoP{l:af}{i:Nat}(h:Dm (l.map (dk f)) i):Dm l i:=by
 obtain⟨⟨x,H,hp⟩,j⟩:=h;rw[dy]at H;cases hl:l[i]? with
 |none=>rw[hl]at H;cases H
 |some y=>rw[hl]at H;cases H;refine⟨⟨y,hl,by rw[Gt]at hp;exact hp⟩,?_⟩;unfold pV at*;rwa[<-sh,YR]at j
def avo{l y:af}(hf:inj f l)(h:xw (l.map (dk f)) y):xw l y:=by
 obtain⟨i,H,j,rfl⟩:=h;rw[bG]at H;refine⟨i,H,aoP j,?_⟩
 grind [acx,ajU,WY,CU]
theorem ah9{l y:af}(n:j<=I l)(u:au U.aw l%2=0)(hp:pV l j)(h:xw (fh l j) y):xw l y:=by obtain⟨i,H,⟨⟨x,f,X⟩,v⟩,rfl⟩:=h;rw[t_]at H;obtain⟨k,m,E,A,z⟩:=al5 n H;rw[A]at f;exact⟨k,m,⟨⟨x,f,X⟩,z u hp v⟩,by rw[E]⟩
theorem awk(l:af)(h:j<=I l):(fh l j).reverse=fh l.reverse (I l-j):=by grind [fh,List.drop_reverse,Og]
theorem aok{l:af}(f:j<=I l)(H:au U.aw l%2=0)(hp:pV l j):pV l.reverse (I l-j):=by
 unfold pV at*;rw[Og,show I l-(I l-j)=j by omega];have h:au U.aw (l.drop j).reverse=au U.aw _:=List.countP_reverse;have m:au U.aw l=au U.aw (l.take j)+au U.aw (l.drop j):=by rw[<-EN,jC]
 omega
end Go.Abs
