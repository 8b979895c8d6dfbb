/- A part. -/
import Derived.Test.YtgjjncbeombnbaaGreatDoorWm
set_option linter.all false
open List renaming length->I
set_option maxRecDepth 100000
set_option maxHeartbeats 16000000
namespace Go.Abs
variable{x y j u:Nat}{X Y Q:aU}
section
variable{f n v:Nat}
section
variable {F:Nat} {h:af}
def at4(g:a_ F h){d:Nat}(f:d<2*I h):(kX F h)[d]?=some (dD h d):=by obtain⟨j,n,H,u⟩:=MT f;obtain⟨w,m,hf⟩:=OB n;rw[hf,y8]at H;rw[u,Ap g m (pg.1 H).1]
def P_(g:a_ F h){d:Nat}(f:d<2*I h):∃w,w∈fF (aO h) (nD h)/\d∈w/\gv F h d=kO F h w:=by obtain⟨j,n,H,u⟩:=MT f;obtain⟨w,m,hf⟩:=OB n;rw[hf,y8]at H;exact⟨w,aX m,(pg.1 H).1,hf⟩
def ato:∀(w:aC) (f:c9),(w.foldl (c9.add F h) f).gh=f.gh:=by
 intro w
 induction w with
 |nil=>intro f;rfl
 |cons x w j=>intro f;rw[zg,j];unfold c9.add;split<;>rfl
def Ri(g:a_ F h){d:Nat}(H:d<2*I h):(gv F h d).gh=dn h (d/2+1):=by
 obtain⟨w,f,A,hf⟩:=P_ g H;rw[hf];obtain _:=zn g.ok w f;unfold kO;rw[ato];show dn h _=_
 grind [Y7]
def av5{p:Nat×Nat}:∀(w:aC) (f:c9),p∈(w.foldl (c9.add F h) f).places->p∈f.places\/ ∃x∈w,2*I h<=x/\p∈lE F h ((x-2*I h)/2):=by
 intro w
 induction w with
 |nil=>intro f H;exact .inl H
 |cons x w j=>
  intro f H
  grind [c9.add]
def Y9{g0 r to:Nat}(h:(x,y)∈oo g0 r to):(x=g0/\y=r)\/(g0<x/\x<=to/\y=0):=by
 unfold oo at h
 grind
def apT(g:a_ F h){b c:Nat}(N:j<I (ay h))(H:(b,c)∈lE F h j):(cX h b+c+I (ay h)-1)%I (ay h)=j:=by
 have ok:=g.ok;obtain⟨u,A⟩:=aM N;obtain⟨v,O⟩:=aM (cJ (j+1) (show 0<I (ay h) by omega));obtain⟨l,L,Y,T⟩:=uh ok.ax A;obtain⟨m,B,Q,M⟩:=uh ok.ax O;obtain⟨a0,a1,a2,a3⟩:=ok.ax.eO l (aX L) Y;obtain⟨b0,Z,b2,b3⟩:=ok.ax.eO m (aX B) Q;have hT:=AK λl hl hp=>((kL hp).1 (g.bad l hl)).1.1.1;have X:(ay h).getD j 0=u:=by rw[dz,A];rfl
 have ev:(ay h).getD ((j+1)%I (ay h)) 0=v:=by rw[dz,O];rfl
 unfold lE at H;simp only[X,ev,rG L,rG B,GU L]at H;unfold eC at T M;have s1:=lz h l.gate.toNat;have mono:∀ {x y:Nat},x<=y->cX h x<=cX h y:=λH=>wO H;have fin:cX h b+c=j+1\/(j+1=I (ay h)/\cX h b+c=0)->(cX h b+c+I (ay h)-1)%I (ay h)=j:=by
  rintro(e|⟨D,E⟩)
  .rw[e,show j+1+I (ay h)-1=j+I (ay h) by omega,mT,eN N]
  rw[E,jO,eN J];omega
 refine fin ?_;split at H
 .rename_i R;rw[eN R]at M;rcases Y9 H with⟨rfl,rfl⟩|⟨z,f,rfl⟩
  .left;omega
  left;have D:=mono (show l.gate.toNat+1<=b by omega);have E:=mono f;omega
 have n:j+1=I (ay h):=J;rw[n,vv]at M;rcases iR.1 H with H|H
 .rcases Y9 H with⟨rfl,rfl⟩|⟨z,f,rfl⟩
  .left;omega
  left;have D:=mono (show l.gate.toNat+1<=b by omega);have E:=mono (show b<=F+1 by omega);omega
 rcases Y9 H with⟨rfl,rfl⟩|⟨z,f,rfl⟩
 .right;exact⟨n,rfl⟩
 right;have E:=mono f;exact⟨n,J⟩
def I4(g:a_ F h){d b c:Nat}(B:d<2*I h)(M:(b,c)∈(gv F h d).places):dD h d=if dn h (d/2+1)then eS h b c else eR h b c:=by
 have ok:=g.ok;have hn:=gA.2 g.ne;obtain⟨w,y,D,hf⟩:=P_ g B;rw[hf]at M;unfold kO at M;rcases av5 _ _ M with M|⟨x,A,T,hp⟩
 .cases M
 obtain⟨_,_,R⟩:=zn ok w y;have Y:=R x A;have O:nD h=2*I h+2*I (ay h):=rfl;have n:(x-2*I h)/2<I (ay h):=J;have z:=apT g n hp;have Z:dD h d=dD h x:=by obtain⟨i,L⟩:=fX y;rw[Ap g L D,Ap g L A]
 have m:=yO (n0 ok) y A;have j:∀v f,v<I h->dx (I h) v f∈w->dn h (dx (I h) v f/2+1)=dn h (d/2+1):=λv f H Q=>by
  have lt:dx (I h) v f<2*I h:=by have:=uB H (!f);rw[<-tc]at this;have:=tD this;rwa[tp]at this
  exact Y7 g y Q D lt B
 have back:∀v,v<I h->dn h ((v+I h-1)%I h+1)=dn h v:=λv H=>by have:=OG g H;have N:(eK h v).i.b= !dn h ((v+I h-1)%I h+1):=rfl;rw[N]at this;revert this;cases dn h ((v+I h-1)%I h+1)<;>cases dn h v<;>simp
 rcases oH x with e|e
 .have E:x=2*I h+2*((x-2*I h)/2):=J;generalize(x-2*I h)/2=k at E n z;obtain⟨l,hl,pl⟩:=zt (cJ (k+1) (show 0<I (ay h) by omega));have H:=(bd.1 hl).1;rw[E,Ae]at m;generalize(ay h).getD ((k+1)%I (ay h)) 0=v at m hl H;have X:dn h (d/2+1):=by
   rw[<- (j v _ H m)];cases u:dn h v
   .show dn h (2*v/2+1)=true;rw[show 2*v/2=v by omega,Dy hl pl,u];rfl
   show dn h ((2*((v+I h-1)%I h)+1)/2+1)=true;rw[show(2*((v+I h-1)%I h)+1)/2=(v+I h-1)%I h by omega,back v H,u]
  rw[X,an rfl,Z,E];unfold eS;rw[z]
 have E:x=2*I h+2*((x-2*I h)/2)+1:=J;generalize(x-2*I h)/2=k at E n z;obtain⟨l,hl,pl⟩:=zt n;have H:=(bd.1 hl).1;rw[E,A_]at m;generalize(ay h).getD k 0=v at m hl H;have X:dn h (d/2+1)=false:=by
  rw[<- (j v _ H m)];cases u:dn h v
  .show dn h ((2*((v+I h-1)%I h)+1)/2+1)=false;rw[show(2*((v+I h-1)%I h)+1)/2=(v+I h-1)%I h by omega,back v H,u]
  show dn h (2*v/2+1)=false;rw[show 2*v/2=v by omega,Dy hl pl,u];rfl
 rw[X,ai aa,Z,E];unfold eR;rw[z]
def LI{s:dW}{z X:fI}{k:Nat}{x:aT}(h:ie s z s)(f:z[k]?=some x)(u:ie x.o X x.o):ie s (z.take (k+1)++X++z.drop (k+1)) s:=by
 have v:z=z.take _++z.drop (k+1):=(jC ..).symm;rw[v]at h;obtain⟨m,H,n⟩:=wJ.1 h;have j:m=x.o:=by
  have y:=(bd.1 f).1;have hl:(z.take (k+1))[I (z.take (k+1))-1]?=some x:=by rw[jw,v7 J,pR,an J,Fw];exact f
  exact(U3 H hl).symm
 subst j;exact wJ.2 ⟨_,wJ.2 ⟨_,H,u⟩,n⟩
def oR(f:Nat->Nat->Nat)(b c v G j:Nat):Nat:=if G=b then(if j<=c then f b j else if j=c+1 then v else f b (j-2))else f G j
def Rg{f:Nat->Nat->Nat}{b c:Nat}(h:j<=c):oR f b c v b j=f b j:=by unfold oR;rw[an rfl,an h]
def ag8{f:Nat->Nat->Nat}{b c:Nat}:oR f b c v b (c+1)=v:=by unfold oR;rw[an rfl,ai J,an rfl]
def Q1{f:Nat->Nat->Nat}{b c:Nat}(h:c+2<=j):oR f b c v b j=f b (j-2):=by unfold oR;rw[an rfl,ai J,ai J]
def RP{f:Nat->Nat->Nat}{b c G:Nat}(h:G≠b):oR f b c v G j=f G j:=by unfold oR;rw[ai h]
def Sa{f:Nat->Nat->Nat}{b c G:Nat}:oR f b c v G 0=f G 0:=by
 by_cases h:G=b
 .subst h;exact Rg (bN _)
 exact RP h
def adx(g:a_ F h){a b c:Nat}(ha:a<I h)(hb:b<=F)(hc:c<=aJ h b)(x:Bool)(R:(if x then dD h (2*a+1)else dD h (2*a))=if dn h (a+1)then eS h b c else eR h b c):
  fP F (ft (eL (aA h) b c 2) [iK b (if dn h (a+1)!=x then((c+2:Nat):Int)else((c+1:Nat):Int)) (dn h (a+1)),iK b (if dn h (a+1)!=x then((c+1:Nat):Int)else((c+2:Nat):Int)) (!dn h (a+1))] a):=by
 have cz:=g.cz;have jc:=h_ h;have mR:=xQ h;obtain⟨s,hp⟩:=cz.path;generalize hA:dn h (a+1)=A at R |-
 let m:=jH h a
 have mO:m.b= !A:=by show(!dn h (a+1))=_;rw[hA]
 have iN:m.l=dD h (2*a):=rfl;have ag:m.r=dD h (2*a+1):=rfl
 obtain⟨k,tn,bn,r1,O,hk,hr,j4,uR,aeZ,WG,N9⟩:∃(k:dW) (tn bn r1 O:Nat),k.b=A/\((r1=c+1/\O=c+2)\/(r1=c+2/\O=c+1))/\((if A !=x then((c+2:Nat):Int)else((c+1:Nat):Int))=(r1:Int))/\((if A !=x then((c+1:Nat):Int)else((c+2:Nat):Int))=(O:Int))/\
   Aj (oR (eS h) b c tn) (oR (eR h) b c bn) ⟨iK b r1 A,m,k⟩/\Aj (oR (eS h) b c tn) (oR (eR h) b c bn) ⟨iK b O (!A),k,m⟩/\(k.l=fp h\/k.r=fp h):=by
  have lo:∀(f:Nat->Nat->Nat) v,oR f b c v b (c+1-1)=f b c:=λf v=>Rg J;have md:∀(f:Nat->Nat->Nat) v,oR f b c v b (c+1)=v:=λf v=>ag8;have Gd:∀(f:Nat->Nat->Nat) v,oR f b c v b (c+2-1)=v:=λf v=>ag8;have hi:∀(f:Nat->Nat->Nat) v,oR f b c v b (c+2)=f b c:=λf v=>by rw[Q1 J];rfl
  have j:∀(T B:Nat->Nat->Nat) (r:Nat) (d:Bool) (i o:dW),(if d then i else iZ o).r=T b (r-1)->(if d then i else iZ o).l=T b r->(if d then o else iZ i).r=B b (r-1)->(if d then o else iZ i).l=B b r->Aj T B ⟨iK b r d,i,o⟩:=λT B r d i o y M h3 h4=>⟨y,M,h3,h4⟩;cases A<;>cases x<;>simp only[gJ,if_false,if_true]at R
  .rw[<-iN]at R;refine⟨⟨eS h b c,fp h,false⟩,fp h,m.r,c+1,c+2,rfl,.inl ⟨rfl,rfl⟩,rfl,rfl,j _ _ _ _ _ _ ?_ ?_ ?_ ?_,j _ _ _ _ _ _ ?_ ?_ ?_ ?_,.inr rfl⟩
   .rw[lo];rfl
   .rw[md];rfl
   .rw[lo];exact R
   .rw[md];rfl
   .rw[Gd];rfl
   .rw[hi];rfl
   .rw[Gd];rfl
   rw[hi];exact R
  .rw[<-ag]at R;refine⟨⟨fp h,eS h b c,false⟩,fp h,m.l,c+2,c+1,rfl,.inr ⟨rfl,rfl⟩,rfl,rfl,j _ _ _ _ _ _ ?_ ?_ ?_ ?_,j _ _ _ _ _ _ ?_ ?_ ?_ ?_,.inl rfl⟩
   .rw[Gd];rfl
   .rw[hi];rfl
   .rw[Gd];rfl
   .rw[hi];exact R
   .rw[lo];rfl
   .rw[md];rfl
   .rw[lo];exact R
   rw[md];rfl
  .rw[<-iN]at R;refine⟨⟨eR h b c,fp h,true⟩,m.r,fp h,c+2,c+1,rfl,.inr ⟨rfl,rfl⟩,rfl,rfl,j _ _ _ _ _ _ ?_ ?_ ?_ ?_,j _ _ _ _ _ _ ?_ ?_ ?_ ?_,.inr rfl⟩
   .rw[Gd];rfl
   .rw[hi];exact R
   .rw[Gd];rfl
   .rw[hi];rfl
   .rw[lo];exact R
   .rw[md];rfl
   .rw[lo];rfl
   rw[md];rfl
  rw[<-ag]at R;refine⟨⟨fp h,eR h b c,true⟩,m.l,fp h,c+1,c+2,rfl,.inl ⟨rfl,rfl⟩,rfl,rfl,j _ _ _ _ _ _ ?_ ?_ ?_ ?_,j _ _ _ _ _ _ ?_ ?_ ?_ ?_,.inl rfl⟩
  .rw[lo];exact R
  .rw[md];rfl
  .rw[lo];rfl
  .rw[md];rfl
  .rw[Gd];rfl
  .rw[hi];exact R
  .rw[Gd];rfl
  rw[hi];rfl
 rw[j4,uR]
 let E:aT:=⟨iK b r1 A,m,k⟩
 let Y:aT:=⟨iK b O (!A),k,m⟩
 have Z:E.k.aw:=rfl;have ac:Y.k.aw:=rfl;have Kf:∀(r:Int) (d:Bool),d_ F (iK b r d).l=false:=λr d=>(kL rfl).2 ⟨⟨⟨⟨by show(0:Int)<=(b:Int);omega,by show(b:Int)<=(F:Int);omega⟩,rfl⟩,rfl⟩,rfl⟩
 let n:=kP b c 2
 let r:=eE h
 have mC:au U.aq (aP (r.map (aT.mp id n)))=au U.aq h:=by rw[ur (λl=>(tz _ _ _).aq l)];rw[jc]
 have cY:au U.aw (aP (r.map (aT.mp id n)))=au U.aw h:=by rw[ur (λl=>(tz _ _ _).aw l)];rw[jc]
 have mG:∀q,aJ (aP (r.map (aT.mp id n))) q=aJ h q:=λq=>by show au _ _=au _ _;rw[ur (λl=>YK _ _ _ q l)];rw[jc]
 have nC:au U.aq (aP ([E,Y]++r.map (aT.mp id n)))=au U.aq h:=by rw[rT,fQ,fQ,rO,(yf Z).1,(yf ac).1,mC];omega
 have bt:au U.aw (aP ([E,Y]++r.map (aT.mp id n)))=au U.aw h+2:=by rw[rT,fQ,fQ,rO,(yf Z).2,(yf ac).2,cY];omega
 have nG:∀q,aJ (aP ([E,Y]++r.map (aT.mp id n))) q=aJ h q+if q=b then 2 else 0:=λq=>by
  have e1:aJ (aP ([E,Y]++r.map (aT.mp id n))) q=(if q=b then 1 else 0)+((if q=b then 1 else 0)+0)+aJ (aP (r.map (aT.mp id n))) q:=by show au _ _=_+au _ _;rw[rT,fQ,fQ,rO,Qd Z rfl,Qd ac rfl]
  rw[e1,mG];split<;>omega
 have ab:∀w∈r,w.k.aw->(0<=w.k.gate/\w.k.gate<=(F:Int))/\1<=w.k.ao/\w.k.ao<=(aJ h w.k.gate.toNat:Int):=λw H pw=>by have r1:=cz.rr w H pw;rw[jc]at r1;exact⟨((kL pw).1 (cz.ok w H).bad).1.1.1,r1⟩
 have pQ:∀w:aT,w.k.aw->(n w.k).ao=if w.k.gate=(b:Int)/\(c:Int)<w.k.ao then w.k.ao+2 else w.k.ao:=λw pw=>St pw;have ad:∀(f:Nat->Nat->Nat) (v:Nat),∀w∈r,w.k.aw->f w.k.gate.toNat (w.k.ao.toNat-1)=oR f b c v w.k.gate.toNat ((n w.k).ao.toNat-1)/\f w.k.gate.toNat w.k.ao.toNat=oR f b c v w.k.gate.toNat (n w.k).ao.toNat:=by
  intro f v w H pw;obtain⟨o1,o2,o3⟩:=ab w H pw;rw[pQ w pw];by_cases sk:w.k.gate.toNat=b
  .rw[sk];by_cases cr:(c:Int)<w.k.ao
   .rw[an ⟨J,cr⟩,Q1 J,Q1 J];exact⟨by congr 1;omega,by congr 1;omega⟩
   rw[ai J,Rg J,Rg J];exact⟨rfl,rfl⟩
  rw[ai J,RP sk,RP sk];exact⟨rfl,rfl⟩
 have z:∀(f:Nat->Nat->Nat) (v q:Nat),oR f b c v q (aJ h q+if q=b then 2 else 0)=f q (aJ h q):=λf v q=>by
  by_cases cq:q=b
  .subst cq;rw[an rfl,Q1 J];rfl
  rw[ai cq,RP cq];rfl
 have qn:jA F ([E,Y]++r.map (aT.mp id n)) (oR (eS h) b c tn) (oR (eR h) b c bn):=by
  refine jA.edit (X:=[]) cz.q (tz _ _ _) (λw H=>UC (cz.ok w H).bad) (λu D v hv cu cv e=>?_) (λu D v hv pu pv e1 Q=>?_) (λw H=>?_) ?_ ?_ (λu D w H=>?_) (λu D w H pu pw e1 Q=>?_) (by rw[nC];have:=cz.ev;rwa[jc]at this) (λw H cw=>?_) (λu D cu=>?_) (λw H pw=>?_) (λu D pu=>?_) (λw H pw=>?_) (λu D pu=>?_) (λq hq=>?_) ?_
  .rw[AH,AH]at e;exact e
  .have DJ:u.k.gate=v.k.gate:=by rw[s8,s8]at e1;exact e1
   refine⟨DJ,?_⟩;have Q:=Q;rw[pQ u pu,pQ v pv]at Q;split at Q<;>split at Q<;>omega
  .simp only[dt,gH,or_false]at H;rcases H with rfl|rfl
   .exact⟨Kf _ _,λak=>(Bool.noConfusion ak),λ_=>⟨hk,mO⟩⟩
   exact⟨Kf _ _,λak=>(Bool.noConfusion ak),λ_=>⟨mO,by show k.b= !(!A);rw[hk];simp⟩⟩
  .exact jy.2 ⟨λw _=>WB rfl,ED ..⟩
  .refine jy.2 ⟨λw H=>?_,ED ..⟩;rw[nY]at H;subst H;intro _ _ _ e;have e:(r1:Int)=(O:Int):=e;rcases hr with⟨y,M⟩|⟨y,M⟩<;>omega
  .simp only[dt,gH,or_false]at D;rcases D with rfl|rfl<;>exact WB rfl
  .have e1:u.k.gate=w.k.gate:=e1.trans (s8 _ _ _ _);have Q:u.k.ao=(n w.k).ao:=Q;rw[pQ w (by rw[<- (tz b c 2).aw];exact pw)]at Q;have El:u.k.gate=(b:Int)/\(u.k.ao=(c:Int)+1\/u.k.ao=(c:Int)+2):=by
    simp only[dt,gH,or_false]at D;rcases D with rfl|rfl
    .refine⟨rfl,?_⟩;show(r1:Int)=_\/(r1:Int)=_;rcases hr with⟨y,M⟩|⟨y,M⟩<;>omega
    refine⟨rfl,?_⟩;show(O:Int)=_\/(O:Int)=_;rcases hr with⟨y,M⟩|⟨y,M⟩<;>omega
   obtain⟨u1,u2⟩:=El;split at Q<;>omega
  .simp only[dt,gH,or_false]at H;rcases H with rfl|rfl<;>cases cw
  .rw[nC,AH,<-jc];exact cz.ids u D cu
  .rw[nG];have:w.k.gate.toNat=b/\1<=w.k.ao/\w.k.ao<=(c:Int)+2:=by
    simp only[dt,gH,or_false]at H;rcases H with rfl|rfl
    .refine⟨js _,?_⟩;show 1<=(r1:Int)/\(r1:Int)<=_;rcases hr with⟨y,M⟩|⟨y,M⟩<;>omega
    refine⟨js _,?_⟩;show 1<=(O:Int)/\(O:Int)<=_;rcases hr with⟨y,M⟩|⟨y,M⟩<;>omega
   obtain⟨w1,w2,w3⟩:=this;rw[w1,an rfl];omega
  .rw[s8,nG];show 1<=(n u.k).ao/\(n u.k).ao<=_;obtain⟨o1,o2,o3⟩:=ab u D pu;rw[pQ u pu];split
   .rename_i ak;rw[an J];omega
   split<;>omega
  .simp only[dt,gH,or_false]at H;rcases H with rfl|rfl
   .exact aeZ
   exact WG
  .rw[s8];obtain⟨t1,t2⟩:=ad (eS h) tn u D pu;obtain⟨b1,b2⟩:=ad (eR h) bn u D pu;exact⟨⟨t1,b1⟩,t2,b2⟩
  .rw[nG,z,z,Sa,Sa];have:=cz.gt q hq;rwa[jc]at this
  rw[nG,z,z,Sa,Sa];have:=cz.gz;rwa[jc]at this
 have ja:=xi ha;have aj:(r.map (aT.mp id n))[a]?=some ((eK h a).mp id n):=by rw[dy,ja];rfl
 refine jA.done (X:=[]) (L:=[]) (N:=[fp h]) (H:=(r.map (aT.mp id n)).take (a+1)++[E,Y]++(r.map (aT.mp id n)).drop (a+1)) qn cz.nd (λt ht=>cz.wit t ht) ?_ ⟨s,LI (D7 (m:=id) hp) aj ⟨rfl,rfl,rfl⟩⟩ ?_ ⟨E,aH,Z⟩ (λ_ _ _=>rfl) (λw H=>by cases H) (qH.2 ⟨gH,qX⟩) (λt ht=>?_) (λt ht=>?_) (by rw[rY];exact ct _) ?_
 .have y:((r.map (aT.mp id n)).take (a+1)++[E,Y]++(r.map (aT.mp id n)).drop (a+1)).Perm ([E,Y]++(r.map (aT.mp id n)).take (a+1)++(r.map (aT.mp id n)).drop (a+1)):=Px _ Fe;rwa[kr [E,Y],jC]at y
 .have y:(r.map (aT.mp id n)).map aT.p=eL (aA h) b c 2:=by
   show _=(aA h).map (ch b c 2);rw[<-rC,gi,gi];refine kD λw _=>?_;show _=ch b c 2 w.p;rw[LN];rfl
  rw[fE,fE,sh,uy,y];rfl
 .rw[nY]at ht;subst ht;simp
 .rw[nY]at ht;subst ht;exact⟨E,aH,N9.imp Eq.symm Eq.symm⟩
 rw[nC,bt];have:=g.nw;simp only[gk,fG];omega
def VR(g:a_ F h){a b c:Nat}(m:a<I h)(n:b<=F)(u:c<=aJ h b){L:aU}(f:og F h a b c=some L):fP F L:=by
 have A:=Ri g (d:=2*a) J;have j:=Ri g (d:=2*a+1) J;rw[show 2*a/2=a by omega]at A;rw[show(2*a+1)/2=a by omega]at j;unfold og at f;split at f
 .rename_i H;cases f;have hl:=I4 g J H;rw[show 2*a/2=a by omega]at hl;unfold wD;rw[A];exact adx g m n u false hl
 split at f
 .rename_i H;cases f;have hl:=I4 g J H;rw[show(2*a+1)/2=a by omega]at hl;unfold wD;rw[j];exact adx g m n u true hl
 cases f
end
section
variable {F:Nat} {h:af}
def rW(g:a_ F h){d:Nat}(H:d<2*I h):nK F h d=dD h d:=by unfold nK;rw[dz,at4 g H];rfl
def ahs(g:a_ F h){a b:Nat}(ha:a<I h)(hb:b<I h)(dm:a≠b){l Y o:Bool}{sg:Int}(KG:sg=1\/sg= -1)(j6:(sg==1)=(o==Y))
  (rJ:(mH l (jH h a)).l=(mH Y (jH h b)).l) {A0 A1 R T:aK} (av:A0=nR (au U.aq h/2) 1 sg o) (az:A1=nR (au U.aq h/2) 2 (-sg) o)
  (eB:if l==Y then R=nR (au U.aq h/2) 2 (-sg) (!o)/\T=nR (au U.aq h/2) 1 sg (!o)else R=nR (au U.aq h/2) 1 sg (!o)/\T=nR (au U.aq h/2) 2 (-sg) (!o)):
  fP F (if a<b then ft (ft (aA h) [R,T] b) [A0,A1] a else ft (ft (aA h) [A0,A1] a) [R,T] b):=by
 subst av az;have cz:=g.cz;have jc:=h_ h;have mR:=xQ h;obtain⟨s,hp⟩:=cz.path
 let M:=jH h a
 let H:=jH h b
 let aY:dW:=⟨(mH Y H).r,fp h,M.b⟩
 let aF:dW:=⟨(mH l M).r,fp h,H.b⟩
 let A:aT:=⟨nR (au U.aq h/2) 1 sg o,M,mH l aY⟩
 let m:aT:=⟨nR (au U.aq h/2) 2 (-sg) o,mH l aY,M⟩
 let B:aT:=⟨R,H,mH Y aF⟩
 let n:aT:=⟨T,mH Y aF,H⟩
 have ad:∀(f:Bool) (s:dW),(mH f s).b=s.b:=λf s=>by cases f<;>rfl
 have hB:(R.l.kind=2/\R.l.gate=0/\R.l.ao=0/\(R.l.sign=sg\/R.l.sign= -sg))/\(T.l.kind=2/\T.l.gate=0/\T.l.ao=0/\(T.l.sign=sg\/T.l.sign= -sg)):=by
  split at eB<;>obtain⟨rfl,rfl⟩:=eB
  .exact⟨⟨rfl,rfl,rfl,.inr rfl⟩,rfl,rfl,rfl,.inl rfl⟩
  exact⟨⟨rfl,rfl,rfl,.inl rfl⟩,rfl,rfl,rfl,.inr rfl⟩
 have Jp:A.k.aq:=rfl;have Jq:m.k.aq:=rfl;have MM:B.k.aq:=by show(R.l.kind==2)=true;rw[hB.1.1];rfl
 have ac:n.k.aq:=by show(T.l.kind==2)=true;rw[hB.2.1];rfl
 have O:∀l:U,l.kind=2->l.gate=0->l.ao=0->(l.sign=sg\/l.sign= -sg)->d_ F l=false:=λl h1 h2 h3 h4=>by
  refine(Nh (by unfold U.aq;rw[h1];rfl)).2 ⟨⟨h2,h3⟩,?_⟩;have:l.sign=1\/l.sign= -1:=by rcases h4 with aj|aj<;>rcases KG with k|k<;>omega
  rcases this with aj|aj<;>rw[aj]<;>decide
 have Iv:∃u v:aT,((u=B/\v=n)\/(u=n/\v=B))/\u.k.id=A.k.id/\v.k.id=m.k.id/\yx A u/\yx m v:=by
  have ag:eY A.k=(o==(o==Y)):=by show(o==(sg==1))=_;rw[j6]
  have ab:eY m.k=(o== !(o==Y)):=by
   show(o==(-sg==1))=_;have:(-sg==1)= !(sg==1):=by rcases KG with rfl|rfl<;>rfl
   rw[this,j6]
  cases l<;>cases Y
  all_goals
   simp only[CT,if_true,gJ,if_false,show(false==true)=false from rfl,show(true==false)=false from rfl]at eB;obtain⟨rfl,rfl⟩:=eB
  .have D:=rJ;refine⟨n,B,.inr ⟨rfl,rfl⟩,rfl,rfl,⟨by show o= !!o;simp,rfl,?_⟩,⟨by show o= !!o;simp,rfl,?_⟩⟩
   .rw[ag,show(o==(o==false))=false by cases o<;>rfl];constructor<;>first|rfl|exact D|exact D.symm
   rw[ab,show(o== !(o==false))=true by cases o<;>rfl];constructor<;>first|rfl|exact D|exact D.symm
  .have D:=rJ;refine⟨B,n,.inl ⟨rfl,rfl⟩,rfl,rfl,⟨by show o= !!o;simp,rfl,?_⟩,⟨by show o= !!o;simp,rfl,?_⟩⟩
   .rw[ag,show(o==(o==true))=true by cases o<;>rfl];constructor<;>first|rfl|exact D|exact D.symm
   rw[ab,show(o== !(o==true))=false by cases o<;>rfl];constructor<;>first|rfl|exact D|exact D.symm
  .have D:=rJ;refine⟨B,n,.inl ⟨rfl,rfl⟩,rfl,rfl,⟨by show o= !!o;simp,rfl,?_⟩,⟨by show o= !!o;simp,rfl,?_⟩⟩
   .rw[ag,show(o==(o==false))=false by cases o<;>rfl];constructor<;>first|rfl|exact D|exact D.symm
   rw[ab,show(o== !(o==false))=true by cases o<;>rfl];constructor<;>first|rfl|exact D|exact D.symm
  have D:=rJ;refine⟨n,B,.inr ⟨rfl,rfl⟩,rfl,rfl,⟨by show o= !!o;simp,rfl,?_⟩,⟨by show o= !!o;simp,rfl,?_⟩⟩
  .rw[ag,show(o==(o==true))=true by cases o<;>rfl];constructor<;>first|rfl|exact D|exact D.symm
  rw[ab,show(o== !(o==true))=false by cases o<;>rfl];constructor<;>first|rfl|exact D|exact D.symm
 obtain⟨u,v,zQ,iu,iv,xu,xv⟩:=Iv
 let r:=eE h
 have N1:A.k.id=((au U.aq h/2+1:Nat):Int):=rfl;have N2:m.k.id=((au U.aq h/2+2:Nat):Int):=rfl;have ar:∀w∈[A,m,B,n],w=A\/w=m\/w=u\/w=v:=λw j=>by
  simp only[dt,gH,or_false]at j;rcases zQ with⟨rfl,rfl⟩|⟨rfl,rfl⟩
  .exact j
  rcases j with aj|aj|aj|aj
  .exact .inl aj
  .exact .inr (.inl aj)
  .exact .inr (.inr (.inr aj))
  exact .inr (.inr (.inl aj))
 have c4:∀w∈[A,m,B,n],w.k.aq/\(w.k.id=((au U.aq h/2+1:Nat):Int)\/w.k.id=((au U.aq h/2+2:Nat):Int)):=λw j=>by
  rcases ar w j with rfl|rfl|rfl|rfl
  .exact⟨Jp,.inl N1⟩
  .exact⟨Jq,.inr N2⟩
  .exact⟨by rcases zQ with⟨rfl,_⟩|⟨rfl,_⟩<;>assumption,.inl (iu.trans N1)⟩
  exact⟨by rcases zQ with⟨_,rfl⟩|⟨_,rfl⟩<;>assumption,.inr (iv.trans N2)⟩
 have aD:mj A m/\mj A u/\mj A v/\mj m u/\mj m v/\mj u v:=by
  have no:∀ {x y:aT},x.k.id≠y.k.id->mj x y:=λaj _ _ e=>absurd e aj;have Lc:A.k.id≠m.k.id:=by rw[N1,N2];omega
  exact⟨no Lc,λ_ _ _=>xu,no (by rw[iv];exact Lc),no (by rw[iu];exact Lc.symm),λ_ _ _=>xv,no (by rw[iu,iv];exact Lc)⟩
 obtain⟨w1,w2,w3,w4,w5,w6⟩:=aD;have pw:[A,m,B,n].Pairwise mj:=by
  simp only[jy,dt,gH,or_false,forall_eq_or_imp,forall_eq,List.Pairwise.nil,and_true,false_imp_iff,implies_true];rcases zQ with⟨rfl,rfl⟩|⟨rfl,rfl⟩
  .exact⟨⟨w1,w2,w3⟩,⟨w4,w5⟩,w6⟩
  exact⟨⟨w1,w3,w2⟩,⟨w5,w4⟩,w6.symm⟩
 have iJ:∀w∈[A,m,B,n],vA F w:=λw j=>by
  have mk:∀x:aT,x.k.aq->d_ F x.k=false->x.i.b=x.o.b->vA F x:=λx h1 h2 h3=>⟨h2,λ_=>h3,λhp=>by rw[jV h1]at hp;cases hp⟩;simp only[dt,gH,or_false]at j;rcases j with rfl|rfl|rfl|rfl
  .exact mk _ Jp (O _ rfl rfl rfl (.inl rfl)) (ad l aY).symm
  .exact mk _ Jq (O _ rfl rfl rfl (.inr rfl)) (ad l aY)
  .exact mk _ MM (O _ hB.1.1 hB.1.2.1 hB.1.2.2.1 hB.1.2.2.2) (ad Y aF).symm
  exact mk _ ac (O _ hB.2.1 hB.2.2.1 hB.2.2.2.1 hB.2.2.2.2) (ad Y aF)
 have NT:=λw j hc=>by have:=cz.ids w j hc;rwa[jc]at this
 have nC:au U.aq (aP ([A,m,B,n]++r.map (aT.mp id id)))=au U.aq h+4:=by rw[Ad,rT,fQ,fQ,fQ,fQ,rO,jc,(nH Jp).1,(nH Jq).1,(nH MM).1,(nH ac).1];omega
 have bt:au U.aw (aP ([A,m,B,n]++r.map (aT.mp id id)))=au U.aw h:=by rw[Ad,rT,fQ,fQ,fQ,fQ,rO,jc,(nH Jp).2,(nH Jq).2,(nH MM).2,(nH ac).2];omega
 have nG:∀q,aJ (aP ([A,m,B,n]++r.map (aT.mp id id))) q=aJ h q:=λq=>by show au _ _=au _ _;rw[Ad,rT,fQ,fQ,fQ,fQ,rO,jc,xJ q Jp,xJ q Jq,xJ q MM,xJ q ac];simp
 have ev:=cz.ev;rw[jc]at ev;have qn:jA F ([A,m,B,n]++r.map (aT.mp id id)) (eS h) (eR h):=by
  refine jA.edit (X:=[]) cz.q xM.id (λw j=>(cz.ok w j).bad) (λ_ _ _ _ _ _ e=>e) (λ_ _ _ _ _ _ e f=>⟨e,f⟩) iJ pw ?_ (λx hx w j h1 h2 e=>?_) (λx hx w j=>Fo (c4 x hx).1) (by rw[nC];omega) (λw j hc=>?_) (λw j hc=>?_) (λw j hp=>?_) (λw j hp=>?_) (λw j hp=>?_) (λw j hp=>⟨⟨rfl,rfl⟩,rfl,rfl⟩) (λq hq=>?_) ?_
  .refine jy.2 ⟨λ_ _=>Fo Jp,jy.2 ⟨λ_ _=>Fo Jq,jy.2 ⟨λ_ _=>Fo MM,ED ..⟩⟩⟩
  .exfalso;have h3:=NT w j h2;have e:x.k.id=w.k.id:=e;rcases(c4 x hx).2 with aj|aj<;>omega
  .rw[nC];rcases(c4 w j).2 with aj|aj<;>omega
  .rw[nC];have:=NT w j hc;simp only[id];omega
  .rw[jV (c4 w j).1]at hp;cases hp
  .rw[nG];have:=cz.rr w j hp;rwa[jc]at this
  .rw[jV (c4 w j).1]at hp;cases hp
  .have:=cz.gt q hq;rw[jc]at this;rw[nG];exact this
  have:=cz.gz;rw[jc]at this;rw[nG];exact this
 have ap:=xi ha;have am:=xi hb;have Q:ie M [A,m] M:=⟨rfl,rfl,rfl⟩;have Z:ie H [B,n] H:=⟨rfl,rfl,rfl⟩;have E:∀(z X:fI) (k:Nat),(z.take (k+1)++X++z.drop (k+1)).Perm (X++z):=λz X k=>by have h1:(z.take (k+1)++X++z.drop (k+1)).Perm (X++z.take (k+1)++z.drop (k+1)):=Px _ Fe;rw[kr X,jC]at h1;exact h1
 have OE:∀(z X:fI) (k:Nat),(z.take (k+1)++X++z.drop (k+1)).map aT.p=ft (z.map aT.p) (X.map aT.p) k:=λz X k=>by rw[fE,fE,sh,uy]
 have fin:∀z',z'.Perm ([A,m,B,n]++r)->ie s z' s->fP F (z'.map aT.p):=λz' h1 h2=>by
  refine jA.done (X:=[]) (L:=[]) (N:=[fp h]) qn cz.nd (λt ht=>cz.wit t ht) (by rw[Ad];exact h1) ⟨s,h2⟩ rfl ?_ (λ_ _ _=>rfl) (λw j=>by cases j) (qH.2 ⟨gH,qX⟩) (λt ht=>?_) (λt ht=>?_) (by rw[rY];exact ct _) ?_
  .obtain⟨w,j,e⟩:=cz.one;rw[Ad];exact⟨w,vx _ j,e⟩
  .rw[nY]at ht;subst ht;simp
  .rw[nY]at ht;subst ht;refine⟨A,aH,?_⟩;show fp h=(mH l aY).l\/fp h=(mH l aY).r;cases l
   .exact .inl rfl
   exact .inr rfl
  rw[nC,bt];have:=g.nw;simp only[gk,fG];omega
 split
 .rename_i aB
  let z1:=r.take (b+1)++[B,n]++r.drop (b+1)
  have ak:z1[a]?=some (eK h a):=by show(r.take (b+1)++[B,n]++r.drop (b+1))[a]?=_;rw[kr,sC (by rw[jw,xQ];omega),pR,an J];exact ap
  have:=fin _ ((E z1 [A,m] a).trans (by show([A,m]++z1).Perm ([A,m]++([B,n]++r));exact List.Perm.append_left _ (E r [B,n] b))) (LI (LI hp am Z) ak Q)
  rw[OE,OE,rC]at this;exact this
 rename_i aB
 let z1:=r.take (a+1)++[A,m]++r.drop (a+1)
 have ak:z1[b]?=some (eK h b):=by show(r.take (a+1)++[A,m]++r.drop (a+1))[b]?=_;rw[kr,sC (by rw[jw,xQ];omega),pR,an J];exact am
 have:=fin _ ((E z1 [B,n] b).trans (by refine(List.Perm.append_left _ (E r [A,m] a)).trans ?_;rw[<-kr];exact(Px r (Fe)))) (LI (LI hp ap Q) ak Z)
 rw[OE,OE,rC]at this;exact this
def WN(g:a_ F h){a b:Nat}(D:a<I h)(A:b<I h)(M:a≠b){l o:Bool}{L:aU}(z:tj F h a b l o=some L):fP F L:=by
 have j:∀(f:Bool) e,(mH f (jH h e)).l=dD h (if f then 2*e else 2*e+1):=λf e=>by cases f<;>rfl
 have n:∀m other:Bool,(m->(mH l (jH h a)).l=(mH l (jH h b)).l)->(other->(mH l (jH h a)).l=(mH (!l) (jH h b)).l)->sA h a b l o m other=some L->fP F L:=by
  intro m other u H v;unfold sA at v;split at v
  .cases v
  rename_i B;cases v;cases ae:m
  .have N:other:=by
    rw[ae]at B;revert B;cases other<;>simp
   have e:(false==l)= !l:=by cases l<;>rfl
   have:=ahs g D A M (by split<;>simp) (by split<;>simp_all) (H N) (A1:=nR (au U.aq h/2) 2 (-(if o==(!l)then 1 else -1)) o) rfl rfl (by
    have:(l== !l)=false:=by cases l<;>rfl
    rw[this];exact⟨rfl,rfl⟩)
   simp only[e];exact this
  have e:(true==l)=l:=by cases l<;>rfl
  have:=ahs g D A M (by split<;>simp) (by split<;>simp_all) (u ae) (A1:=nR (au U.aq h/2) 2 (-(if o==l then 1 else -1)) o) rfl rfl (by rw[CT];exact⟨rfl,rfl⟩)
  simp only[e];exact this
 have E:∀x y:Nat,((x:Int)==(y:Int))->x=y:=λx y z=>by have:=eq_of_beq z;omega
 unfold tj at z;cases l
 .rw[ai aa,rW g J,rW g J,rW g J]at z;refine n _ _ (λu=>?_) (λH=>?_) z
  .rw[j,j];exact(E _ _ u).symm
  rw[j,j];exact(E _ _ H).symm
 rw[an rfl,rW g J,rW g J,rW g J]at z;refine n _ _ (λu=>?_) (λH=>?_) z
 .rw[j,j];exact(E _ _ u).symm
 rw[j,j];exact(E _ _ H).symm
end
def GY(q:aK->Bool):Prop:=∀p f:aK,p.l.kind=f.l.kind->q p=q f
theorem V0{q:aK->Bool}(l:aU)(drop:Nat->aK->Bool):(kW l drop).countP q<=l.countP q:=by
 have f:∀k,k<=I l->(sD l drop k).countP q<=(l.take k).countP q:=by
  intro k
  induction k with
  |zero=>intro _;exact ct _
  |succ k m=>
   intro j;obtain⟨p,hp⟩:=aM (h:=l) (k:=k) J;rw[jB,hp,vz];cases H:drop k p
   .rw[GX hp H,vz]
    grind
   rw[CB hp H];omega
 have:=f (I l) (ct _);rwa[jz]at this
theorem L_{q:aK->Bool}(h:GY q){f:aK->aK}(hf:∀p,(f p).l.kind=p.l.kind)(l:aU):(l.map f).countP q=l.countP q:=by rw[xt];exact Aa λp _=>by rw[Function.comp_apply,h _ _ (hf p)]
theorem W0(g A b:Int)(p:aK):(ch g A b p).l.kind=p.l.kind:=by unfold ch;split<;>rfl
def Ml(ids:bQ)(p:aK):(jL ids p).l.kind=p.l.kind:=by unfold jL;split<;>rfl
def H7{q:aK->Bool}(l x:aU)(k:Nat):(ft l x k).countP q=l.countP q+x.countP q:=by rw[vz,vz,Nat.add_right_comm,<-vz,jC]
section
variable {F:Nat} {h:af}
def abm(g:a_ F h){q:aK->Bool}:∀(E:aC) (l:aU),I l=I h->(∀e∈E,e<I h)->(fN h l E).countP q=l.countP q:=by
 intro E
 induction E with
 |nil=>intro l _ _;rfl
 |cons e E f=>grind [fN,uI,Jc,Mu]
def ahx{q:aK->Bool}(H:GY q)(l:aU)(i:Nat)(r:Int):(fv l i r).countP q=l.countP q:=by
 by_cases h:i<I l
 .obtain⟨p,hp⟩:=aM h;exact X8 hp λp=>H _ _ rfl
 unfold fv;rw[L2 J]
theorem aq3{q:aK->Bool}(H:GY q)(l:aU)(i:Nat)(g r:Int):(sZ l i g r).countP q=l.countP q:=by
 by_cases h:i<I l
 .obtain⟨p,hp⟩:=aM h;unfold sZ;have:=aog (p:=q) (y:={p with l:={p.l with gate:=g,ao:=r}}) hp;rw[H {p with l:={p.l with gate:=g,ao:=r}} p rfl]at this
  grind
 unfold sZ;rw[L2 J]
def DH:aK:=⟨⟨1,0,0,0,0,false⟩,false⟩
def oQ:aK:=⟨⟨2,0,0,0,0,false⟩,false⟩
def De(q:aK->Bool)(k:Int):Nat:=if k=2 then [DH,DH].countP q else if k=5 then [oQ,oQ].countP q else if k=7 then [oQ,oQ,oQ,oQ].countP q else 0
def ZP(g:a_ F h){q:aK->Bool}(n:GY q){k:Int}{a b c:Nat}{l o:Bool}{sg:Int}(N:a<I h)(j:b<I h\/(k≠3/\k≠8))(B:c<I h\/k≠8){L:aU}(H:mg F h k a b c l o sg=some L):L.countP q<=(aA h).countP q+De q k:=by
 have O:=cZ h;have two:∀x y:aK,x.l.kind=1->y.l.kind=1->[x,y].countP q=[DH,DH].countP q:=λx y D v=>by simp only[CY,Ov];rw[n x DH D,n y DH v]
 have T:∀x y:aK,x.l.kind=2->y.l.kind=2->[x,y].countP q=[oQ,oQ].countP q:=λx y D v=>by simp only[CY,Ov];rw[n x oQ D,n y oQ v]
 unfold mg at H;split at H
 .grind [qc,L_,W0,V0]
 split at H
 .rename_i m;subst m;have e:De q 2=[DH,DH].countP q:=rfl;have E:∀f u,(wD h a b c f u).countP q=(aA h).countP q+De q 2:=λf u=>by
   unfold wD;rw[H7,e];show(List.map _ _).countP q+_=_;rw[L_ n (W0 _ _ _),two _ _ rfl rfl]
  unfold og at H;split at H
  .cases H;exact yV (E _ _)
  split at H
  .cases H;exact yV (E _ _)
  cases H
 split at H
 .rename_i m;subst m;unfold qz at H;split at H
  .cases H;rw[abm g _ _ (by rw[xX,xX,O]) (by
    intro e A;simp only[dt,gH,or_false]at A;rcases A with rfl|rfl
    .exact N
    rcases j with j|j
    .exact j
    exact absurd rfl j.1),ahx n,ahx n]
   omega
  cases H
 split at H
 .unfold n_ at H;simp only at H;split at H
  .cases H;show(List.map _ _).countP q<=_;rw[L_ n (Ml _)];have:=V0 (q:=q) (aA h) (tX [((aA h).getD a ⟨ga,false⟩).l.id]);omega
  cases H
 split at H
 .rename_i m;subst m;cases H;unfold r7;rw[H7,T _ _ rfl rfl];exact ct _
 split at H
 .unfold ob at H;split at H
  .cases H;show(List.map _ _).countP q<=_;rw[L_ n (Ml _)];have:=V0 (q:=q) (aA h) (tX [(b_ h a).l.id,(b_ h (nx h a)).l.id]);omega
  cases H
 split at H
 .rename_i m;subst m;have e:De q 7=[oQ,oQ].countP q+[oQ,oQ].countP q:=by
   show [oQ,oQ,oQ,oQ].countP q=_;rw[<-vz];rfl
  have z:∀s t,sA h a b l o s t=some L->L.countP q<=(aA h).countP q+De q 7:=λs t H=>by
   unfold sA at H;split at H
   .cases H
   simp only[gW]at H;subst H;have v:∀x sg o s,(l8 x sg o s).countP q=[oQ,oQ].countP q:=λx sg o s=>by unfold l8;split<;>exact T _ _ rfl rfl
   have M:∀x sg o,(ow x sg o).countP q=[oQ,oQ].countP q:=λx sg o=>T _ _ rfl rfl;split
   .rw[H7,H7,v,M,e];omega
   rw[H7,H7,v,M,e];omega
  unfold tj at H;split at H
  .exact z _ _ H
  exact z _ _ H
 split at H
 .rename_i m;subst m;unfold uH at H;split at H
  .cases H;rw[abm g _ _ O (by
    intro e A;simp only[dt,gH,or_false]at A;rcases A with rfl|rfl|rfl
    .exact N
    .rcases j with j|j
     .exact j
     exact absurd rfl j.2
    rcases B with B|B
    .exact B
    exact absurd rfl B)]
   omega
  cases H
 grind [s3,aq3,L_,W0,tl]
def Z3(g:a_ F h)(k a b c:Int)(l o:Bool)(sg:Int):(∃e,e≠0/\qG F h k a b c l o sg=oI e)\/ ∃M,qG F h k a b c l o sg=mz F M/\dM F M=0/\eZ F h k a b c l o sg/\ ∃L,mg F h k a.toNat b.toNat c.toNat l o sg=some L/\M=cL L:=by
 unfold qG;cases H:eZ F h k a b c l o sg
 .exact .inl ⟨2,aa,rfl⟩
 rw[an rfl];cases m:mg F h k a.toNat b.toNat c.toNat l o sg with
 |none=>exact .inl ⟨4,aa,rfl⟩
 |some L=>
  unfold sH;by_cases Z:(400:Int)<(I h:Int)+(gK k).1\/(100:Int)<((au U.aq h/2:Nat):Int)+(gK k).2
  .exact .inl ⟨7,aa,an Z⟩
  refine .inr ⟨cL L,ai Z,?_,rfl,L,rfl,rfl⟩;have X:=g.len;have fj:=g.cr;have hF:=g.fing;have mu:¬I h=0:=by have:=gA.2 (g.ne);omega
  have eD:au U.aq h%2=0:=by have:=g.cz.ev;rwa[h_]at this
  have cA:=cZ h;have kT:GY (λ_=>true):=λ_ _ _=>rfl;have kC:GY (λp=>p.l.aq):=λp p' ab=>by show(p.l.kind==2)=(p'.l.kind==2);rw[ab]
  have pC:(aA h).countP (λp=>p.l.aq)=au U.aq h:=by rw[<-Ul U.aq];show _=List.countP _ (List.map _ _);rw[xt];rfl
  have lC:au U.aq (L.map aK.l)=L.countP (λp=>p.l.aq):=by show List.countP _ (List.map _ _)=_;rw[xt];rfl
  have T:∀l:aU,l.countP (λ_=>true)=I l:=λl=>aH;have fin:L=[]\/fP F L->(∀ {A B v:Nat},a=(A:Int)->b=(B:Int)->c=(v:Int)->A<I h->(B<I h\/(k≠3/\k≠8))->(v<I h\/k≠8)->dM F (cL L)=0):=by
   intro x A B v e1 e2 e3 f n y;subst e1 e2 e3;simp only[js]at m;have c1:=ZP g kT f n y m;have Y:=ZP g kC f n y m;rw[T,T,cA]at c1;rw[pC]at Y;have z:De (λ_=>true) k=(gK k).1.toNat/\0<=(gK k).1/\De (λp=>p.l.aq) k=2*(gK k).2.toNat/\0<=(gK k).2:=by
    unfold De gK;split
    .exact⟨rfl,aa,rfl,aa⟩
    split
    .exact⟨rfl,aa,rfl,aa⟩
    split
    .exact⟨rfl,aa,rfl,aa⟩
    exact⟨rfl,aa,rfl,aa⟩
   obtain⟨z,b2,b3,b4⟩:=z;rw[z]at c1;rw[b3]at Y;rcases x with rfl|x
   .unfold dM;have:cL []=[]:=rfl;rw[this];rw[ai (by simp[au]),ai J,an rfl]
   exact x.check J (by rw[lC];omega) hF
  unfold eZ at H;by_cases N:k=1
  .subst N;simp only[Int.reduceEq,if_true,if_false,or_false,or_self]at H;simp only[cN,ke,cW]at H;obtain⟨rfl,rfl,rfl,j,rfl,rfl⟩:=H;obtain⟨A,rfl,f⟩:=jb j;exact fin (Uc g f (by simpa [mg]using m)) rfl rfl rfl f (.inr ⟨aa,aa⟩) (.inr aa)
  by_cases D:k=2
  .subst D;simp only[Int.reduceEq,if_true,if_false,or_self]at H;simp only[cN,qZ,ke,cW,jn]at H;obtain⟨rfl,rfl,rfl,j,iw,NF,NK,y⟩:=H;rcases j with j|⟨j,_⟩
   rotate_left
   .exact absurd j mu
   obtain⟨A,rfl,f⟩:=jb j;obtain⟨B,rfl⟩:=lB iw;obtain⟨v,rfl⟩:=lB NK;rw[js]at y;exact fin (.inr (VR g (b:=B) (c:=v) f J J (by simpa [mg]using m))) rfl rfl rfl f (.inr ⟨aa,aa⟩) (.inr aa)
  by_cases h3:k=3
  .subst h3;simp only[Int.reduceEq,if_true,if_false,or_false,or_self]at H;simp only[cN,ke,cW,jn]at H;obtain⟨rfl,rfl,rfl,j,rfl,u,aB⟩:=H;obtain⟨A,rfl,f⟩:=jb j;obtain⟨B,rfl,n⟩:=jb u;exact fin (.inr (Zz g f n J (by simpa [mg]using m))) rfl rfl rfl f (.inl n) (.inr aa)
  by_cases E:k=4
  .subst E;simp only[Int.reduceEq,if_true,if_false,or_false,or_true,or_self]at H;simp only[cN,ke,cW]at H;obtain⟨rfl,rfl,rfl,j,rfl,rfl⟩:=H;obtain⟨A,rfl,f⟩:=jb j;exact fin (.inr (Uj g f (by simpa [mg]using m))) rfl rfl rfl f (.inr ⟨aa,aa⟩) (.inr aa)
  by_cases Q:k=5
  .subst Q;simp only[Int.reduceEq,if_true,if_false,or_self]at H;simp only[cN,qZ,ke,cW]at H;obtain⟨rfl,ae,j,rfl,rfl⟩:=H;obtain⟨A,rfl,f⟩:=jb j;have:L=r7 h A sg o:=by
    simp[mg]at m;exact m.symm
   subst this;exact fin (.inr (UW g f ae)) rfl rfl rfl f (.inr ⟨aa,aa⟩) (.inr aa)
  by_cases h6:k=6
  .subst h6;simp only[Int.reduceEq,if_true,if_false,or_true,or_self]at H;simp only[cN,ke,cW,jn]at H;obtain⟨rfl,rfl,rfl,j,rfl,u,aB⟩:=H;obtain⟨A,rfl,f⟩:=jb j;obtain⟨B,rfl,n⟩:=jb u;exact fin (.inr (X3 g f n (by simpa [mg]using m))) rfl rfl rfl f (.inr ⟨aa,aa⟩) (.inr aa)
  by_cases O:k=7
  .subst O;simp only[Int.reduceEq,if_true,if_false,or_self]at H;simp only[cN,ke,cW,mE]at H;obtain⟨rfl,j,rfl,u,aN⟩:=H;obtain⟨A,rfl,f⟩:=jb j;obtain⟨B,rfl,n⟩:=jb u;exact fin (.inr (WN g f n J (by simpa [mg]using m))) rfl rfl rfl f (.inr ⟨aa,aa⟩) (.inr aa)
  by_cases h8:k=8
  .subst h8;simp only[Int.reduceEq,if_true,if_false,or_self]at H;simp only[cN,ke,cW,jn]at H;obtain⟨rfl,rfl,rfl,j,u,hz,_⟩:=H;obtain⟨A,rfl,f⟩:=jb j;obtain⟨B,rfl,n⟩:=jb u;obtain⟨v,rfl,x⟩:=jb hz;exact fin (.inr (aw1 g f n x (by simpa [mg]using m))) rfl rfl rfl f (.inl n) (.inl x)
  by_cases h9:k=9
  .subst h9;simp only[Int.reduceEq,if_true,if_false,or_false,or_true,or_self]at H;simp only[cN,ke,cW]at H;obtain⟨rfl,rfl,rfl,j,rfl,rfl⟩:=H;obtain⟨A,rfl,f⟩:=jb j;exact fin (.inr (acP g f (by simpa [mg]using m))) rfl rfl rfl f (.inr ⟨aa,aa⟩) (.inr aa)
  by_cases R:k=10
  .subst R;simp only[Int.reduceEq,if_true,if_false,or_true,or_self]at H;simp only[cN,ke,cW]at H;obtain⟨rfl,rfl,rfl,j,rfl,rfl⟩:=H;obtain⟨A,rfl,f⟩:=jb j;exact fin (.inr (ahK g f (by simpa [mg]using m))) rfl rfl rfl f (.inr ⟨aa,aa⟩) (.inr aa)
  simp[N,D,h3,E,Q,h6,O,h8,h9,R]at H
end

def iP(F:Nat)(h:af)(m:dG):Option af:=
 if h=[]then if eZ F [] m.k m.a m.b m.c m.l m.o m.s=true then some (pD m.b.toNat)else none
 else if eZ F h m.k m.a m.b m.c m.l m.o m.s=true then match mg F h m.k m.a.toNat m.b.toNat m.c.toNat m.l m.o m.s with
  |none=>none
  |some M=>if(400:Int)<(I h:Int)+(gK m.k).1\/(100:Int)<((au U.aq h/2:Nat):Int)+(gK m.k).2 then none else some (cL M)
 else none
def ahi{F:Nat}{L:af}{e:Int}(H:e≠0):mz F L≠oI e:=λh=>by unfold mz oI at h;simp only[RV.tup.injEq,Mm,RV.one.injEq,l6.p.injEq,PV.int.injEq,and_true,true_and]at h;exact H h.2.symm
abbrev aR(L:af)(v:Nat):U:=(b_ L v).l
section
variable {F:Nat} {L M:af} {r:Bool} {s t:Nat->Nat}
def kR{l:U}(h:L[v]?=some l):aR L v=l:=congrArg aK.l (jr (gZ h))
def cM.uU(i:cM F L M r s t)(H:v<I L):(aR M (s v)).kind=(aR L v).kind/\(aR M (s v)).gate=(aR L v).gate/\(aR M (s v)).ao=(aR L v).ao/\(aR M (s v)).sign=(aR L v).sign/\(aR M (s v)).over=(aR L v).over:=by
 obtain⟨l,hl⟩:=aM H;obtain⟨m,h,n,f,x,j,u⟩:=i.at_ v l hl;rw[kR hl,kR h]
 grind
def cM.id_(i:cM F L M r s t)(z:u<I L)(H:v<I L)(f:(aR L u).kind=2)(n:(aR L v).kind=2):(aR M (s u)).id=(aR M (s v)).id↔(aR L u).id=(aR L v).id:=by obtain⟨l,hl⟩:=aM z;obtain⟨m,h⟩:=aM H;obtain⟨y,j,_⟩:=i.at_ u l hl;obtain⟨x,R,_⟩:=i.at_ v m h;rw[kR hl]at f |-;rw[kR h]at n |-;rw[kR j,kR R];exact i.ids u v l m y x hl h j R (by unfold U.aq;rw[f];rfl) (by unfold U.aq;rw[n];rfl)
def Xg{α:Type}(c:Bool)(x:α):(if c=true then some x else none).isSome=c:=by cases c<;>rfl
def cM.ends(i:cM F L M r s t){e:Nat}(h:e<I L):(r=false/\c_ (I L) r s e=s e/\nx M (c_ (I L) r s e)=s (nx L e))\/(r/\c_ (I L) r s e=s (nx L e)/\nx M (c_ (I L) r s e)=s e):=by
 have H:=i.along h true;have E:dx (I L) e true=2*e:=rfl;rw[E]at H;have D:=i.step e h;have f:∀u,nx M u=(u+1)%I L:=λu=>by show _%I M=_;rw[i.len]
 have m:nx L e<I L:=cJ _ J;unfold c_;rw[H,f];cases r with
 |false=>
  refine .inl ⟨rfl,?_,?_⟩
  .show 2*s e/2=_;omega
  show(2*s e/2+1)%I L=_
  grind
 |true=>
  have j:(s e+I L-1)%I L=s (nx L e):=by rw[<-D];exact vi (i.lt _ m)
  refine .inr ⟨rfl,?_,?_⟩
  .show(2*((s e+I L-1)%I L)+1)/2=_;rw[j];omega
  show((2*((s e+I L-1)%I L)+1)/2+1)%I L=_
  grind
def Fm(p q:U)(a b:Nat):Bool:=(p.kind==1)&&((q.kind==1)&&((p.gate==q.gate)&&((hU p.ao q.ao-m_ p.ao q.ao==1)&& !(decide (a<=2)&&decide (0<b)))))
def auQ{L:af}{a:Nat}:(qc L a).isSome=Fm (aR L a) (aR L (nx L a)) (au U.aw L) (au U.aq L/2):=by unfold qc Fm;exact Xg _ _
def aot(a b:Int):hU a b-m_ a b=hU b a-m_ b a:=by grind [hU,m_]
def aki(p q:U)(a b:Nat):Fm p q a b=Fm q p a b:=by
 unfold Fm;rw[aot p.ao q.ao,show(p.gate==q.gate)=(q.gate==p.gate) by rw[Ik,cW,cW];exact eq_comm]
 grind
def cM.c1(i:cM F L M r s t){a:Nat}(j:a<I L)(h:(qc L a).isSome):(qc M (c_ (I L) r s a)).isSome:=by
 rw[auQ]at h |-;have f:Fm (aR M (s a)) (aR M (s (nx L a))) (au U.aw M) (au U.aq M/2):=by obtain⟨H,n,u,_⟩:=i.uU j;obtain⟨k1,k2,k3,_⟩:=i.uU (cJ _ J);rw[i.cn _ λl m H _=>by unfold U.aw;rw[H],i.cn _ λl m H _=>by unfold U.aq;rw[H],<-h];unfold Fm;rw[H,n,u,k1,k2,k3]
 rcases i.ends j with _|⟨_,E,v⟩
 .grind
 rw[v,E,aki];exact f
def aqN{L:af}{a:Nat}:(n_ L a).isSome=((aR L a).kind==2&&((aR L (nx L a)).kind==2&&((aR L a).id==(aR L (nx L a)).id))):=by unfold n_;exact Xg _ _
def cM.c4(i:cM F L M r s t){a:Nat}(H:a<I L)(h:(n_ L a).isSome):(n_ M (c_ (I L) r s a)).isSome:=by
 rw[aqN]at h |-;have m:nx L a<I L:=cJ _ J;simp at h |-;obtain⟨j,f,n⟩:=h;have k1:=(i.uU H).1.trans j;have k2:=(i.uU m).1.trans f;have k3:=(i.id_ H m j f).2 n;rcases i.ends H with _|⟨_,E,u⟩
 .grind
 grind
structure EI (F:Nat) (L:af) (a b:Nat):Prop where
 cr:(aR L a).kind=2/\(aR L (nx L a)).kind=2/\(aR L b).kind=2/\(aR L (nx L b)).kind=2
 ov:(aR L (nx L a)).over=(aR L a).over/\(aR L (nx L b)).over=(aR L b).over/\(aR L b).over= !(aR L a).over
 xl:(aR L a).id≠(aR L (nx L a)).id
 yD:((aR L b).id=(aR L a).id/\(aR L (nx L b)).id=(aR L (nx L a)).id)\/((aR L b).id=(aR L (nx L a)).id/\(aR L (nx L b)).id=(aR L a).id)
 uG:nx L (nx L a)≠b/\nx L (nx L b)≠a
 cor:mI F L 0 [a,b] a
def TB(L:af)(a:Nat):nx L (nx L a)=(a+2)%I L:=by simp_all
def MN{F:Nat}{L:af}{a b:Nat}:(ob F L a b).isSome↔EI F L a b:=by
 unfold ob;rw[Xg];unfold j8;simp;constructor
 .rintro ⟨v,f,j,h,H,m⟩
  refine⟨?_,?_,f,j,⟨by rw[TB];exact h,by rw[TB];exact H⟩,m⟩
  .grind
  grind
 rintro⟨⟨A,u,B,n⟩,⟨y,x,O⟩,f,j,⟨h,H⟩,m⟩
 rw[TB]at h H
 grind
def EI.symm{a b:Nat}(h:EI F L a b)(D:a<I L)(y:b<I L):EI F L b a:=by
 obtain⟨⟨A,j,B,f⟩,⟨u,n,O⟩,v,x,⟨H,m⟩,z⟩:=h;refine⟨⟨B,f,A,j⟩,⟨n,u,by rw[O,AB]⟩,?_,?_,⟨m,H⟩,?_⟩
 .grind
 .grind
 grind [Hj,Yy]
def cM.uG(i:cM F L M r s t){a b:Nat}(m:a<I L)(j:b<I L)(h:nx L (nx L a)≠b)(z:nx L (nx L b)≠a):nx M (nx M (c_ (I L) r s a))≠c_ (I L) r s b:=by
 have y:nx L a<I L:=cJ _ J;have O:nx L b<I L:=cJ _ J;have A:nx L (nx L b)<I L:=cJ _ J;have n:∀u,nx M u=(u+1)%I L:=λu=>by show(u+1)%I M=_;rw[i.len]
 have inj:∀u v,u<I L->v<I L->s u=s v->u=v:=λu v x D e=>by rw[<-i.ts u x,<-i.ts v D,e]
 rcases i.ends m with⟨H,B,E⟩|⟨H,B,E⟩
 .subst H;rcases i.ends j with⟨_,k1,k2⟩|⟨H,_⟩
  .intro e;rw[E,k1,n]at e;have f:=i.step (nx L a) y;rw[ai aa]at f;exact h (inj _ _ (cJ _ J) j (f.trans e))
  cases H
 subst H;rcases i.ends j with⟨H,_⟩|⟨_,k1,k2⟩
 .cases H
 intro e;rw[E,k1,n]at e;have f:=i.step (nx L b) O;rw[an rfl]at f;have N:nx L (s a)=nx L (s (nx L (nx L b))):=(show nx L (s a)=s (nx L b)from e).trans f.symm;exact z (inj _ _ A m (X4 (i.lt _ m) (i.lt _ A) N).symm)
def cM.c6(i:cM F L M r s t){a b:Nat}(H:a<I L)(n:b<I L)(h:EI F L a b):EI F M (c_ (I L) r s a) (c_ (I L) r s b):=by
 have A:nx L a<I L:=cJ _ J;have O:nx L b<I L:=cJ _ J;have uG:=h.uG;obtain⟨⟨B,D,E,X⟩,⟨o1,o2,o3⟩,h2,h3,_,h6⟩:=h;have T:=i.uU H;have v:=i.uU A;have Y:=i.uU n;have x:=i.uU O;have A5:mI F M 0 [c_ (I L) r s a,c_ (I L) r s b] (c_ (I L) r s a):=i.abo (λe he=>by simp only[dt,gH,or_false]at he;rcases he with rfl|rfl<;>assumption) rfl h6 (FI _) rfl
 have hf:nx M (nx M (c_ (I L) r s a))≠c_ (I L) r s b/\nx M (nx M (c_ (I L) r s b))≠c_ (I L) r s a:=⟨i.uG H n uG.1 uG.2,i.uG n H uG.2 uG.1⟩;have xl:(aR M (s a)).id≠(aR M (s (nx L a))).id:=λe=>h2 ((i.id_ H A B D).1 e);have yD:((aR M (s b)).id=(aR M (s a)).id/\(aR M (s (nx L b))).id=(aR M (s (nx L a))).id)\/((aR M (s b)).id=(aR M (s (nx L a))).id/\(aR M (s (nx L b))).id=(aR M (s a)).id):=by
  rcases h3 with⟨h,k⟩|⟨h,k⟩
  .exact .inl ⟨(i.id_ n H E B).2 h,(i.id_ O A X D).2 k⟩
  exact .inr ⟨(i.id_ n A E D).2 h,(i.id_ O H X B).2 k⟩
 have Z:=T.1.trans B;have u:=v.1.trans D;have kb:=Y.1.trans E;have y:=x.1.trans X;have N:(aR M (s (nx L a))).over=(aR M (s a)).over:=by rw[T.2.2.2.2,v.2.2.2.2];exact o1
 have iI:(aR M (s (nx L b))).over=(aR M (s b)).over:=by rw[Y.2.2.2.2,x.2.2.2.2];exact o2
 have vc:(aR M (s b)).over= !(aR M (s a)).over:=by rw[Y.2.2.2.2,T.2.2.2.2];exact o3
 have E1:=i.ends H;have Eb:=i.ends n;generalize c_ (I L) r s a=ea at*;generalize c_ (I L) r s b=eb at*;rcases E1 with⟨R,j,f⟩|⟨R,j,f⟩<;>rcases Eb with⟨z,Q,m⟩|⟨z,Q,m⟩
 .refine⟨?_,?_,?_,?_,hf,A5⟩
  .rw[f,m,j,Q];exact⟨Z,u,kb,y⟩
  .rw[f,m,j,Q];exact⟨N,iI,vc⟩
  .rw[f,j];exact xl
  rw[f,m,j,Q];exact yD
 .rw[R]at z;cases z
 .rw[R]at z;cases z
 refine⟨?_,?_,?_,?_,hf,A5⟩
 .rw[f,m,j,Q];exact⟨u,Z,y,kb⟩
 .rw[f,m,j,Q];exact⟨N.symm,iI.symm,by rw[N,iI];exact vc⟩
 .rw[f,j];exact xl.symm
 rw[f,m,j,Q];rcases yD with⟨h,k⟩|⟨h,k⟩
 .exact .inl ⟨k,h⟩
 exact .inr ⟨k,h⟩
end
section
variable {F:Nat} {L M:af} {r:Bool} {s t:Nat->Nat}
def B_(L M:af)(s:Nat->Nat)(X Y:aU):Prop:=∀x,x<I L->∃u ρ,u<I L/\X[x]?=some ⟨{aR L u with ao:=ρ},dw L u⟩/\Y[s x]?=some ⟨{aR M (s u)with ao:=ρ},dw M (s u)⟩
def cM.inj(i:cM F L M r s t)(H:u<I L)(h:v<I L)(e:s u=s v):u=v:=by rw[<-i.ts u H,<-i.ts v h,e]
def cM.cor0(i:cM F L M r s t):B_ L M s (aA L) (aA M):=by
 intro x h;obtain⟨l,hl⟩:=aM h;obtain⟨m,H⟩:=aM (by rw[i.len];exact i.lt x h);refine⟨x,(aR L x).ao,h,?_,?_⟩
 .rw[gZ hl,kR hl]
 rw[gZ H,<- (i.uU h).2.2.1,kR H]
def cM.abj(i:cM F L M r s t)(h:B_ L M s X Y){p:Nat}(hp:p<I L)(ρ:Int):B_ L M s (fv X p ρ) (fv Y (s p) ρ):=by
 obtain⟨u,r0,f,A,B⟩:=h p hp;intro x H;obtain _:=h x H;rw[xZ A,xZ B];by_cases e:x=p
 .grind
 rw[ai e,ai λE=>e (i.inj H hp E)]
 grind
def cM.corE(i:cM F L M r s t)(v:I X=I L)(y:I Y=I M)(h:B_ L M s X Y){e:Nat}(j:e<I L):B_ L M s (gw L X e) (gw M Y (c_ (I L) r s e)):=by
 have n:nx L e<I L:=cJ _ J;obtain⟨Q,r0,A,D,N⟩:=h e j;obtain⟨z,r1,R,O,B⟩:=h (nx L e) n;have m:∀x,x<I L->(gw M Y (c_ (I L) r s e))[s x]?=if x=nx L e then Y[s e]? else if x=e then Y[s (nx L e)]? else Y[s x]? :=by
  intro x H;rw[Am y (by rw[i.len];exact i.AP j)];rcases i.ends j with⟨_,k1,k2⟩|⟨_,k1,k2⟩
  .rw[k2,k1];by_cases c1:x=nx L e
   .subst c1;rw[an rfl,an rfl]
   rw[ai λE=>c1 (i.inj H n E),ai c1];by_cases f:x=e
   .subst f;rw[an rfl,an rfl]
   rw[ai λE=>f (i.inj H j E),ai f]
  rw[k2,k1];by_cases c1:x=nx L e
  .grind
  rw[ai c1];by_cases f:x=e
  .subst f;rw[an rfl,an rfl]
  rw[ai λE=>f (i.inj H j E),ai λE=>c1 (i.inj H n E),ai f]
 intro x H;obtain⟨u,ρ,k1,k2,k3⟩:=h x H;rw[Am v j,m x H]
 grind
def cM.corL(i:cM F L M r s t):∀ {E:aC}{X Y:aU},I X=I L->I Y=I M->B_ L M s X Y->(∀e∈E,e<I L)->B_ L M s (fN L X E) (fN M Y (E.map (c_ (I L) r s))):=by
 intro E
 induction E with
 |nil=>intro X Y _ _ h _;exact h
 |cons e E m=>intro X Y f j h H;exact m (by rw[uI,f]) (by rw[uI,j]) (i.corE f j h (H e aH)) λe h=>H e (by simp[h])
def cM.finC(i:cM F L M r s t){P:aU}(j:I P=I L)(Y:I Q=I L)(f_:fP F P)(cQ:fP F Q)(vP:dM (F:Int) (cL P)=0)(h:B_ L M s P Q):jo (cL Q) (cL P):=by
 refine i.fin j Y f_ cQ vP (λv p hp=>?_) λu v p p' q q' hp E Z mw R N=>?_
 .obtain⟨u,ρ,f,a,b⟩:=h v (by rw[<-j];exact(bd.1 hp).1);rw[hp]at a;cases a;obtain⟨k1,k2,k3,k4,k5⟩:=i.uU f;refine⟨_,b,k1,k2,rfl,k4,k5,λH=>?_,λD=>?_⟩
  .have n:∀(X:af),a_ F X->∀z,z<I X->(aR X z).aq=false->(aR X z).id=0:=λX eY z hz H=>by
    obtain⟨l,hl⟩:=aM hz;rw[kR hl]at H |-;have hb:=eY.bad l (aX hl)
    grind [kL,xj]
   have H:=H;exact(n M i.g' _ (by rw[i.len];exact i.lt u f) (by unfold U.aq at H |-;rw[k1];exact H)).trans (n L i.g u f H).symm
  have D:(aR L u).aw:=D;obtain⟨l,hl⟩:=aM f;obtain⟨m,O,h1,_⟩:=i.at_ u l hl;rw[kR hl]at D;show dw M (s u)=(dw L u !=r);unfold dw;rw[hl,O];show(m.aw&&dn M (s u))=((l.aw&&dn L u)!=r);rw[D,(i.aw hl O).1.trans D,i.dwn u l hl D];rfl
 obtain⟨x,ρ,hx,a,b⟩:=h u (by rw[<-j];exact(bd.1 hp).1);obtain⟨y,T,hy,A,B⟩:=h v (by rw[<-j];exact(bd.1 E).1);rw[hp]at a;rw[E]at A;rw[Z]at b;rw[mw]at B;cases a;cases A;cases b;cases B;exact i.id_ hx hy (by unfold U.aq at R;exact cW.1 R) (by unfold U.aq at N;exact cW.1 N)
def Vl(L:af)(e f:Nat):Prop:=e≠f/\e≠nx L f/\nx L e≠f/\nx L e≠nx L f
theorem awu(H:I X=I L){e:Nat}(j:e<I L)(hf:f<I L)(h:Vl L e f):gw L (gw L X e) f=gw L (gw L X f) e:=by
 obtain⟨y,u,z,v⟩:=h;apply nj;intro x;have m:I (gw L X e)=I L:=by rw[uI,H]
 have n:I (gw L X f)=I L:=by rw[uI,H]
 grind [Am]
def avL{E v:aC}(hp:E.Perm v):∀ {X:aU},I X=I L->(∀e∈E,e<I L)->E.Pairwise (Vl L)->fN L X E=fN L X v:=by
 induction hp with
 |nil=>intro X _ _ _;rfl
 |cons e _ y=>intro X j m H;exact y (by rw[uI,j]) (λe h=>m e (by simp[h])) (jy.1 H).2
 |swap e f l=>grind [fN,awu,jy]
 |trans x z n u=>intro X j m H;rw[n j m H];exact u j (λe h=>m e (x.mem_iff.2 h)) (x.pairwise H λh=>(λh=>⟨h.1.symm,h.2.2.1.symm,h.2.1.symm,h.2.2.2.symm⟩) h)
def avs{p q:Nat}(hp:p<I X)(j:q<I X)(h:p≠q)(a b:Int):fv (fv X p a) q b=fv (fv X q b) p a:=by
 obtain⟨x,f⟩:=aM hp;obtain⟨y,H⟩:=aM j;have m:(fv X q b)[p]?=some x:=by rw[xZ H,ai h];exact f
 apply nj;intro z;rw[xZ (by rw[xZ f,ai (Ne.symm h)];exact H),xZ m,xZ f,xZ H]
 grind
end
section
variable {F:Nat} {L M:af} {r:Bool} {s t:Nat->Nat}
def s6(L:af)(e p v:Nat):Prop:=((p=e/\v=nx L e)\/(p=nx L e/\v=e))/\(aR L p).kind=1/\(aR L v).kind=2
structure rN (F:Nat) (L:af) (a b p v q w:Nat):Prop where
 ea:s6 L a p v
 eb:s6 L b q w
 vw:v≠w
 id:(aR L v).id=(aR L w).id
 cor:mI F L 1 [a,b] a
def s6.pv{e p:Nat}(h:s6 L e p v):j_ L e=(p,v,true):=by
 obtain⟨H,j,f⟩:=h;unfold j_
 grind
def s6.lt{e p:Nat}(h:s6 L e p v)(H:e<I L):p<I L/\v<I L:=by
 have f:nx L e<I L:=cJ _ J;rcases h.1 with⟨rfl,rfl⟩|⟨rfl,rfl⟩
 .exact⟨H,f⟩
 exact⟨f,H⟩
def aiY(g:a_ F L){a b:Nat}(E:a<I L)(n:b<I L)(h:qz F L a b=some X):∃p v q w,rN F L a b p v q w/\X=fN L (fv (fv (aA L) p (aR L q).ao) q (aR L p).ao) [a,b]:=by
 have j:0<I L:=J;unfold qz at h;split at h
 case isFalse=>cases h
 rename_i m;simp at m;obtain⟨f,H,B,u,y⟩:=m;cases h;obtain⟨ea,⟨Y,D,z⟩,T,O,M⟩:=Qn j E f;obtain⟨eb,⟨Z,A,cb⟩,R,N,Q⟩:=Qn j n H;have k1:∀ {x:Nat}{l:U},L[x]?=some l->l.aq->(aR L x).kind=2:=λf H=>by rw[kR f];unfold U.aq at H;exact cW.1 H
 have k2:∀ {x:Nat}{l:U},L[x]?=some l->l.aw->(aR L x).kind=1:=λf H=>by rw[kR f];unfold U.aw at H;exact cW.1 H
 exact⟨_,_,_,_,⟨⟨ea,k2 O M,k1 D z⟩,⟨eb,k2 N Q,k1 A cb⟩,B,u,y⟩,rfl⟩
def rN.as{a b p q w:Nat}(h:rN F L a b p v q w):qz F L a b=some (fN L (fv (fv (aA L) p (aR L q).ao) q (aR L p).ao) [a,b]):=by unfold qz;rw[h.ea.pv,h.eb.pv];refine an ?_;simp only[cN,ke,mE,cW];exact⟨trivial,trivial,h.vw,h.id,h.cor⟩
def rN.symm{a b p v q w:Nat}(h:rN F L a b p v q w)(f:a<I L)(j:b<I L):rN F L b a q w p v:=by
 refine⟨h.eb,h.ea,h.vw.symm,h.id.symm,?_⟩;have H:=h.cor
 grind [Hj,Yy]
def aiu(h:(aR L x).kind=1)(k:(aR L y).kind=2):x≠y:=λe=>by rw[e,k]at h;cases h
def rN.pq(g:a_ F L){a b p q w:Nat}(h:rN F L a b p v q w)(ha:a<I L)(hb:b<I L)(dm:a≠b):p≠q:=by
 obtain⟨⟨ea,D,O⟩,⟨eb,kq,N⟩,KK,H,A5⟩:=h;obtain⟨hp,hv⟩:=s6.lt ⟨ea,D,O⟩ ha;obtain⟨hq,hw⟩:=s6.lt ⟨eb,kq,N⟩ hb;obtain⟨ma,R⟩:=aM hp;obtain⟨la,qm⟩:=aM hv;obtain⟨mb,Q⟩:=aM hq;obtain⟨lb,T⟩:=aM hw;rw[kR R]at D;rw[kR qm]at O H;rw[kR Q]at kq;rw[kR T]at N H;have f_:∀ {l:U},l.kind=1->l.aw:=λh=>by unfold U.aw;rw[h];rfl
 have cC:∀ {l:U},l.kind=2->l.aq:=λh=>by unfold U.aq;rw[h];rfl
 obtain⟨wk,X,k9,d,d1,d2,d3,d4,two,cs⟩:=ZB g ha hb dm ea eb qm T R Q (cC O) (cC N) (f_ D) (f_ kq) H KK A5;have j:∀ {x y u z:Nat}{lx Z A:U},bJ (I L) d=x->bJ (I L) (aO L d)=z->bP (I L) (aO L d)=y->L[x]?=some lx->L[y]?=some A->L[z]?=some Z->A.kind=1->Z.kind=2->x≠y:=by
  intro x y u z lx Z A B n E hx hy hz ku kz;obtain⟨M,m,Y,y1,y2,y3,jK,y4⟩:=O8 g X k9 d3 (CS d4) (by rw[E];exact hy) (f_ ku);have hu:=(bd.1 y2).1;have yT:∀f,bJ (I L) (dx (I L) M f)=M/\dx (I L) M f<2*I L:=λf=>⟨(GD hu).1,by
   have:=uB hu (!f);rw[<-tc]at this;have:=tD this;rwa[tp]at this⟩
  have Oy:bJ (I L) Y=M/\Y<2*I L:=by grind
  have hm:m.ao≠A.ao:=by rcases y4 with⟨_,e,_⟩|⟨_,e,_⟩<;>omega
  rcases two Y y1 Oy.2 with e|e
  .grind
  grind [U.aw]
 rcases cs with⟨_,_,B,_,n,E⟩|⟨_,_,B,_,n,E⟩
 .exact j (u:=0) B n E R Q T kq N
 exact(j (u:=0) B n E Q R qm D O).symm
def rN.dj(g:a_ F L){a b p q w:Nat}(h:rN F L a b p v q w)(D:a<I L)(A:b<I L)(M:a≠b):Vl L a b:=by
 have f:=h.pq g D A M;obtain⟨⟨ea,y,B⟩,⟨eb,kq,z⟩,j,_⟩:=h;have m:=aiu y z;have H:=aiu kq B;rcases ea with⟨n,E⟩|⟨n,E⟩<;>rcases eb with⟨u,x⟩|⟨u,x⟩<;>subst n E u x
 .exact⟨f,m,H.symm,j⟩
 .exact⟨m,f,j,H.symm⟩
 .exact⟨H.symm,j,f,m⟩
 exact⟨j,H.symm,m,f⟩
def cM.ed(i:cM F L M r s t){e p:Nat}(H:e<I L)(h:s6 L e p v):s6 M (c_ (I L) r s e) (s p) (s v):=by
 obtain⟨hp,f⟩:=h.lt H;obtain⟨m,j,n⟩:=h;refine⟨?_,(i.uU hp).1.trans j,(i.uU f).1.trans n⟩;rcases i.ends H with⟨_,k1,k2⟩|⟨_,k1,k2⟩<;>rw[k2,k1]<;>rcases m with⟨rfl,rfl⟩|⟨rfl,rfl⟩
 .exact .inl ⟨rfl,rfl⟩
 .exact .inr ⟨rfl,rfl⟩
 .exact .inr ⟨rfl,rfl⟩
 exact .inl ⟨rfl,rfl⟩
def cM.c3(i:cM F L M r s t){a b p q w:Nat}(j:a<I L)(n:b<I L)(h:rN F L a b p v q w):rN F M (c_ (I L) r s a) (c_ (I L) r s b) (s p) (s v) (s q) (s w):=by obtain⟨hp,m⟩:=h.ea.lt j;obtain⟨u,H⟩:=h.eb.lt n;refine⟨i.ed j h.ea,i.ed n h.eb,λe=>h.vw (i.inj m H e),(i.id_ m H h.ea.2.2 h.eb.2.2).2 h.id,?_⟩;exact i.abo (λe f=>by simp at f;rcases f with rfl|rfl<;>assumption) rfl h.cor (FI _) rfl
def cM.k3(i:cM F L M r s t){a b:Nat}(dm:a<b)(H:b<I L)(h:qz F L a b=some X)(vX:dM (F:Int) (cL X)=0):∃A B Y,A<B/\B<I M/\qz F M A B=some Y/\jo (cL Y) (cL X):=by
 have j:a<I L:=J;obtain⟨p,v,q,w,c,rfl⟩:=aiY i.g j H h;have T:a≠b:=J;obtain⟨hp,hv⟩:=c.ea.lt j;obtain⟨E,hw⟩:=c.eb.lt H;have Q:=cZ L;have y:=cZ M;have f:=i.c3 j H c;have n:c_ (I L) r s a<I M:=by rw[i.len];exact i.AP j
 have u:c_ (I L) r s b<I M:=by rw[i.len];exact i.AP H
 have m:c_ (I L) r s a≠c_ (I L) r s b:=λe=>T (by rw[<-i.QQ j,<-i.QQ H,e]);have dj:=f.dj i.g' n u m;obtain⟨ag,ac⟩:=f.ea.lt n;obtain⟨ad,ab⟩:=f.eb.lt u;have hX:=Zz i.g j H T h;have N:∀(Z:aU) (p q:Nat) (a b:Int),I (fv (fv Z p a) q b)=I Z:=λZ p q a b=>by rw[xX,xX]
 have base:B_ L M s (fv (fv (aA L) p (aR L q).ao) q (aR L p).ao) (fv (fv (aA M) (s p) (aR M (s q)).ao) (s q) (aR M (s p)).ao):=by rw[(i.uU E).2.2.1,(i.uU hp).2.2.1];exact i.abj (i.abj i.cor0 hp _) E _
 have z:=i.corL (E:=[a,b]) (by rw[N,Q]) (by rw[N,y]) base (λe x=>by simp only[dt,gH,or_false]at x;rcases x with rfl|rfl<;>assumption)
 have done:∀A B Y,A<B->B<I M->qz F M A B=some Y->Y=fN M (fv (fv (aA M) (s p) (aR M (s q)).ao) (s q) (aR M (s p)).ao) ([a,b].map (c_ (I L) r s))->∃A B Y,A<B/\B<I M/\qz F M A B=some Y/\jo (cL Y) (cL (fN L (fv (fv (aA L) p (aR L q).ao) q (aR L p).ao) [a,b])):=λA B Y h1 D R O=>by refine⟨A,B,Y,h1,D,R,?_⟩;rw[<-O]at z;exact i.finC (by rw[Aq,N,Q]) (by rw[O,Aq,N,y,i.len]) hX (Zz i.g' J D J R) vX z
 by_cases aB:c_ (I L) r s a<c_ (I L) r s b
 .exact done _ _ _ aB u f.as rfl
 refine done _ _ _ J n (f.symm n u).as ?_;rw[avs J J (Ne.symm (f.pq i.g' n u m))];refine avL (List.Perm.swap _ _ []) (by rw[N,y]) (λe x=>?_) ?_
 .simp only[dt,gH,or_false]at x;rcases x with rfl|rfl<;>assumption
 simp only[jy,dt,gH,or_false,false_imp_iff,implies_true,and_true,forall_eq,List.Pairwise.nil];exact⟨dj.1.symm,dj.2.2.1.symm,dj.2.1.symm,dj.2.2.2.symm⟩
end
section
variable {F:Nat} {L M:af} {r:Bool} {s t:Nat->Nat}
def cM.bo(i:cM F L M r s t){e:Nat}(h:e<I L)(o:Bool):j8 M (c_ (I L) r s e) o=j8 L e o/\vh M (c_ (I L) r s e)=vh L e:=by
 obtain⟨k1,_,_,_,k2⟩:=i.uU h;obtain⟨n,_,_,_,m⟩:=i.uU (cJ _ J);unfold j8 vh;rcases i.ends h with⟨_,f,j⟩|⟨_,f,j⟩<;>rw[j,f,k1,k2,n,m]
 .exact⟨rfl,rfl⟩
 grind
end
abbrev ny(n f v:Nat):Nat:=(v+n-f)%n
def LM(h:f<n):ny n f v<n:=cJ _ J
def Zn(hf:f<n)(h:v<n):ny n f ((f+v)%n)=v:=by unfold ny;rw[An (a:=f+v) J];split<;>(rw[An J];split<;>omega)
def OM(hf:f<n)(h:v<n):(f+ny n f v)%n=v:=by rw[F7,show f+(v+n-f)=v+n by omega,mT,eN h]
def TI(hf:f<n)(h:v<n):ny n f ((v+1)%n)=(ny n f v+1)%n:=by
 unfold ny;rw[vT,An (a:=v+1) J];split
 .congr 1;omega
 rw[show v+n-f+1=(v+1-n+n-f)+n by omega,mT]
theorem TL(hf:f<n)(H:u<n)(h:v<n)(e:ny n f u=ny n f v):u=v:=by rw[<-OM hf H,<-OM hf h,e]
structure uV (F:Nat) (P:aU) (X:af) (f:Nat):Prop where
 g:a_ F X
 len:I X=I P
 hf:f<I P
 at_:∀v p,P[v]?=some p->X[ny (I P) f v]?=some p.l
 dn:∀v p,P[v]?=some p->p.l.aw->dn X (ny (I P) f v)=p.d
def amQ{F:Nat}{P:aU}(f_:fP F P)(j:dM (F:Int) (cL P)=0):∃f,uV F P (cL P) f:=by
 obtain⟨f,hf,A,al,_,h⟩:=Gh f_;obtain⟨G,E,g⟩:=E4 j (λe=>by rw[e]at al;simp at al;omega);have:F=G:=J;subst this;refine⟨f,g,al,hf,λv p hp=>?_,λv p hp D=>?_⟩
 .rw[A _ (LM hf),OM hf ((bd.1 hp).1),hp];rfl
 exact(h _ p (LM hf) (by rw[OM hf ((bd.1 hp).1)];exact hp) D).symm
section
variable {F:Nat} {L X:af} {P:aU} {f:Nat}
def uV.back(S:uV F P X f)(g:a_ F L)(O:I P=I L)(D:fP F Q)(E:I Q=I L)(h:∀v,v<I L->Q[ny (I L) f v]?=(aA L)[v]?):jo (cL Q) L:=by
 obtain⟨m,n,B,N,⟨R,y,T,u⟩,_⟩:=Gh D;have hf:=S.hf;rw[O]at hf;rw[E]at n B N;have j:0<I L:=J;have get:∀x,x<I L->Q[x]?=(aA L)[(f+x)%I L]? :=λx M=>by rw[<-h _ (cJ _ j),Zn hf M]
 have A:(f+m)%I L<I L:=cJ _ j;have e:cL Q=fh L ((f+m)%I L):=by
  apply nj;intro k;by_cases z:k<I L
  .rw[B k z,get _ (cJ _ j),Hk A z,F7,<-yQ,vT];obtain⟨l,hl⟩:=aM (cJ _ j);rw[gZ hl,hl];rfl
  rw[kQ J,kQ (by rw[t_];omega)]
 rw[e];refine J4 J g.even ?_;rw[get m n]at y;obtain⟨l,hl⟩:=aM A;rw[gZ hl]at y;have H:dw L ((f+m)%I L):=by rw[<-ld y]at u;exact u
 unfold dw at H;rw[hl]at H;have H:=H;rw[cN]at H;have:=H.2;unfold Go.Abs.dn at this;exact cW.1 this
def Hl(n f d:Nat):Nat:=if d%2=0 then 2*ny n f (d/2)+1 else 2*ny n f (d/2)
def arZ{d:Nat}(hf:f<n)(H:d<2*n):Hl n f d=dx n (ny n f (bP n d)) (!bY d):=by
 unfold Hl dx bP bY;rcases oH d with h|h
 .simp[h,CW,gJ];rw[TI hf J,vi (LM hf)]
 grind
def as7{d:Nat}(hf:f<n)(H:d<2*n):Hl n f d=gn n (ny n f (bJ n d)) (!bY d):=by
 unfold Hl gn bJ bY;rcases oH d with h|h
 .grind
 simp[h,JX];rw[TI hf J,vi (LM hf)]
def uV.turn(S:uV F P X f)(g:a_ F L)(z:I P=I L){d:Nat}(H:d<2*I L){l m:U}{e E:Bool}(hl:L[bP (I L) d]?=some l)(n:l.aq)(B:P[bJ (I L) d]?=some ⟨l,e⟩)(v:P[bP (I L) (aO L d)]?=some ⟨m,E⟩)(D:m.aq)(j:m.id=l.id)(y:bJ (I L) d≠bP (I L) (aO L d)):aO X (Hl (I L) f d)=Hl (I L) f (aO L d):=by
 have hf:=S.hf;have h:=S.len;have A:=S.at_ _ _ B;have u:=S.at_ _ _ v;rw[z]at hf h A u;obtain⟨k1,k2,k3,_⟩:=EJ g H hl n;rw[as7 hf H,arZ hf k1];have x:=uk A n (!bY d);rw[h,D8 S.g A u n D j.symm λM=>y (TL hf (JM g H) (zG g k1) M)]at x;have N:(l.over==(l.sign==1))=(bY d==bY _):=k3
 grind [bY]
end
end
end Go.Abs
