/- A part. -/
import Derived.Test.YtkdkhndppjfpmaaGreatDoorUe
set_option linter.all false
open List renaming length->I
set_option maxHeartbeats 16000000
namespace Go.Abs
variable{j v:Nat}{f:Nat->Nat->Nat}{L:cX}
section
variable {F:Nat} {g:ai}
def ap8(v:cE F g){d:Nat}(H:d<2*I g):(kO F g)[d]?=some (qq g d):=by obtain⟨j,n,h,u⟩:=B6 (F:=F) H;obtain⟨w,f,m⟩:=SL n;rw[m,AB]at h;rw[u,LY v f (rY.1 h).1]
def ajQ(v:cE F g){d:Nat}(f:d<2*I g):∃w,w∈fz (bz g) (bt g)/\d∈w/\dF F g d=jg F g w:=by obtain⟨j,n,H,u⟩:=B6 (F:=F) f;obtain⟨w,m,h⟩:=SL n;rw[h,AB]at H;exact⟨w,bR m,(rY.1 H).1,h⟩
def azA:∀(w:aF) (f:dt),(w.foldl (dt.add F g) f).eF=f.eF:=by
 intro w
 induction w with
 |nil=>intro f;rfl
 |cons x w h=>intro f;rw[sh,h];unfold dt.add;split<;>rfl
def ajF(m:cE F g){d:Nat}(h:d<2*I g):(dF F g d).eF=bN g (d/2+1):=by
 obtain⟨w,H,u,j⟩:=ajQ (F:=F) m h;rw[j];obtain⟨⟨e,t,f,eh⟩,_,_⟩:=yh m.ok w H;unfold jg;rw[azA];show bN g (w.headD 0/2+1)=_;have n:w.headD 0=e:=by rw[f];rfl
 rw[n];exact abz m H (by rw[f];exact EG) u eh h
def ayS{p:Nat×Nat}:∀(w:aF) (f:dt),p∈(w.foldl (dt.add F g) f).places->p∈f.places\/ ∃x∈w,2*I g<=x/\p∈pI F g ((x-2*I g)/2):=by
 intro w
 induction w with
 |nil=>intro f h;exact .inl h
 |cons x w j=>
  intro f h;rw[sh]at h;rcases j _ h with h|⟨y,H,n,m⟩
  .unfold dt.add at h;split at h
   .exact .inl h
   rename_i u;simp only[iW]at h;rcases h with h|h
   .exact .inl h
   refine .inr ⟨x,aP,J,?_⟩;split at h
   .exact h
   exact Rm.1 h
  exact .inr ⟨y,by simp[H],n,m⟩
def adv{g0 r to x y:Nat}(h:(x,y)∈o9 g0 r to):(x=g0/\y=r)\/(g0<x/\x<=to/\y=0):=by
 unfold o9 at h;rcases dr.1 h with h|h
 .cases h;exact .inl ⟨rfl,rfl⟩
 obtain⟨i,H,e⟩:=dY.1 h;have:=gN.1 H;cases e;exact .inr ⟨J,J,rfl⟩
def avt(Z:cE F g){b c:Nat}(D:j<I (aE g))(h:(b,c)∈pI F g j):(hJ g b+c+I (aE g)-1)%I (aE g)=j:=by
 have ok:=Z.ok;have Y:=fk (j+1) (show 0<I (aE g) by omega);obtain⟨u,z⟩:=aT D;obtain⟨v,N⟩:=aT Y;obtain⟨l,L,X,R⟩:=yz ok.ax z;obtain⟨m,A,O,M⟩:=yz ok.ax N;obtain⟨a0,a1,a2,a3⟩:=ok.ax.fG l (bR L) X;obtain⟨b0,b1,b2,b3⟩:=ok.ax.fG m (bR A) O;have hT:hJ g (F+1)=I (aE g):=E4 λl hl hp=>((oX hp).1 (Z.bad l hl)).1.1.1;have T:(aE g).getD j 0=u:=by rw[dC,z];rfl
 have ev:(aE g).getD ((j+1)%I (aE g)) 0=v:=by rw[dC,N];rfl
 unfold pI at h;simp only[T,ev,y_ L,y_ A,acv L]at h;unfold fD at R M;have s1:=tX g l.gate.toNat;have mono:∀ {x y:Nat},x<=y->hJ g x<=hJ g y:=λh=>Bz h;have fin:hJ g b+c=j+1\/(j+1=I (aE g)/\hJ g b+c=0)->(hJ g b+c+I (aE g)-1)%I (aE g)=j:=by
  rintro(e|⟨B,E⟩)
  .rw[e,show j+1+I (aE g)-1=j+I (aE g) by omega,v8,jh D]
  rw[E,lq,jh J];omega
 refine fin ?_;split at h
 .rename_i Q;rw[jh Q]at M;rcases adv h with⟨rfl,rfl⟩|⟨n,H,rfl⟩
  .left;omega
  left;have B:=mono (show l.gate.toNat+1<=b by omega);have E:=mono H;omega
 have f:j+1=I (aE g):=J;rw[f,zu]at M;rcases iW.1 h with h|h
 .rcases adv h with⟨rfl,rfl⟩|⟨n,H,rfl⟩
  .left;omega
  left;have B:=mono (show l.gate.toNat+1<=b by omega);have E:=mono (show b<=F+1 by omega);omega
 rcases adv h with⟨rfl,rfl⟩|⟨n,H,rfl⟩
 .right;exact⟨f,rfl⟩
 right;have E:=mono H;exact⟨f,J⟩
def amO(B:cE F g){d b c:Nat}(L:d<2*I g)(h:(b,c)∈(dF F g d).places):qq g d=if bN g (d/2+1)then gL g b c else gq g b c:=by
 have ok:=B.ok;have hn:0<I g:=jH.2 B.ne;obtain⟨w,z,M,R⟩:=ajQ (F:=F) B L;rw[R]at h;unfold jg at h;rcases ayS _ _ h with h|⟨x,D,sD,hp⟩
 .cases h
 obtain⟨_,_,Z⟩:=yh ok w z;have Db:=Z x D;have Q:bt g=2*I g+2*I (aE g):=rfl;have y:(x-2*I g)/2<I (aE g):=J;have A:=avt B y hp;have n:qq g d=qq g x:=by obtain⟨i,N⟩:=j9 z;rw[LY B N M,LY B N D]
 have m:=w8 (qS ok) z D;have j:∀v f,v<I g->eZ (I g) v f∈w->bN g (eZ (I g) v f/2+1)=bN g (d/2+1):=λv f H T=>by
  have lt:eZ (I g) v f<2*I g:=by have:=Bj H (!f);rw[<-u9]at this;have:=wT this;rwa[w_]at this
  exact abz B z T M lt L
 have back:∀v,v<I g->bN g ((v+I g-1)%I g+1)=bN g v:=λv H=>by have:=RD B H;have O:(fc g v).i.b= !bN g ((v+I g-1)%I g+1):=rfl;rw[O]at this;revert this;cases bN g ((v+I g-1)%I g+1)<;>cases bN g v<;>simp
 rcases tD x with e|e
 .have E:x=2*I g+2*((x-2*I g)/2):=J;generalize(x-2*I g)/2=k at E y A;have X:=fk (k+1) (show 0<I (aE g) by omega);obtain⟨l,hl,pl⟩:=yW X;have H:=(cn.1 hl).1;rw[E,EY]at m;generalize(aE g).getD ((k+1)%I (aE g)) 0=v at m hl H;have ae:=j v _ H m;have Y:bN g (d/2+1):=by
   rw[<-ae];cases u:bN g v
   .show bN g (2*v/2+1)=true;rw[show 2*v/2=v by omega,FK hl pl,u];rfl
   show bN g ((2*((v+I g-1)%I g)+1)/2+1)=true;rw[show(2*((v+I g-1)%I g)+1)/2=(v+I g-1)%I g by omega,back v H,u]
  rw[Y,aD rfl,n,E];unfold gL;rw[A]
 have E:x=2*I g+2*((x-2*I g)/2)+1:=J;generalize(x-2*I g)/2=k at E y A;obtain⟨l,hl,pl⟩:=yW y;have H:=(cn.1 hl).1;rw[E,D1]at m;generalize(aE g).getD k 0=v at m hl H;have ae:=j v _ H m;have Y:bN g (d/2+1)=false:=by
  rw[<-ae];cases u:bN g v
  .show bN g ((2*((v+I g-1)%I g)+1)/2+1)=false;rw[show(2*((v+I g-1)%I g)+1)/2=(v+I g-1)%I g by omega,back v H,u]
  show bN g (2*v/2+1)=false;rw[show 2*v/2=v by omega,FK hl pl,u];rfl
 rw[Y,aC U,n,E];unfold gq;rw[A]
def NF{s:ff}{z X:gW}{k:Nat}{x:bl}(h:jj s z s)(f:z[k]?=some x)(n:jj x.o X x.o):jj s (z.take (k+1)++X++z.drop (k+1)) s:=by
 have u:z=z.take (k+1)++z.drop (k+1):=(nu ..).symm;rw[u]at h;obtain⟨m,H,j⟩:=zh.1 h;have g:m=x.o:=by
  have v:=(cn.1 f).1;have hl:(z.take (k+1))[I (z.take (k+1))-1]?=some x:=by rw[gX,vm J,nE,aD J,H4];exact f
  exact(WB H hl).symm
 subst g;exact zh.2 ⟨_,zh.2 ⟨_,H,n⟩,j⟩
def qH(f:Nat->Nat->Nat)(b c v G j:Nat):Nat:=if G=b then(if j<=c then f b j else if j=c+1 then v else f b (j-2))else f G j
def Uh{b c:Nat}(h:j<=c):qH f b c v b j=f b j:=by unfold qH;rw[aD rfl,aD h]
def adR{b c:Nat}:qH f b c v b (c+1)=v:=by unfold qH;rw[aD rfl,aC J,aD rfl]
def Tv{b c:Nat}(h:c+2<=j):qH f b c v b j=f b (j-2):=by unfold qH;rw[aD rfl,aC J,aC J]
def RJ{b c G:Nat}(h:G≠b):qH f b c v G j=f G j:=by unfold qH;rw[aC h]
def Rj{b c G:Nat}:qH f b c v G 0=f G 0:=by
 by_cases h:G=b
 .subst h;exact Uh (cG _)
 exact RJ h
def ad5(am:cE F g){a b c:Nat}(ha:a<I g)(hb:b<=F)(hc:c<=bU g b)(x:Bool)(z:(if x then qq g (2*a+1)else qq g (2*a))=if bN g (a+1)then gL g b c else gq g b c):
  lL F (fF (fQ (aQ g) b c 2) [oT b (if bN g (a+1)!=x then((c+2:Nat):Int)else((c+1:Nat):Int)) (bN g (a+1)),oT b (if bN g (a+1)!=x then((c+1:Nat):Int)else((c+2:Nat):Int)) (!bN g (a+1))] a):=by
 have cz:=am.cz;have ko:=jK g;have s8:=Ay g;obtain⟨s,hp⟩:=cz.path;generalize hA:bN g (a+1)=A at z |-
 let m:=nx g a
 have yN:m.b= !A:=by show(!bN g (a+1))=_;rw[hA]
 have im:m.l=qq g (2*a):=rfl;have ag:m.r=qq g (2*a+1):=rfl
 obtain⟨k,tn,bn,r1,R,hk,hr,fE,xR,asO,asP,PT⟩:∃(k:ff) (tn bn r1 R:Nat),k.b=A/\((r1=c+1/\R=c+2)\/(r1=c+2/\R=c+1))/\((if A !=x then((c+2:Nat):Int)else((c+1:Nat):Int))=(r1:Int))/\((if A !=x then((c+1:Nat):Int)else((c+2:Nat):Int))=(R:Int))/\
   CV (qH (gL g) b c tn) (qH (gq g) b c bn) ⟨oT b r1 A,m,k⟩/\CV (qH (gL g) b c tn) (qH (gq g) b c bn) ⟨oT b R (!A),k,m⟩/\(k.l=gC g\/k.r=gC g):=by
  have lo:∀(f:Nat->Nat->Nat) v,qH f b c v b (c+1-1)=f b c:=λf v=>Uh J;have md:∀(f:Nat->Nat->Nat) v,qH f b c v b (c+1)=v:=λf v=>adR;have Iz:∀(f:Nat->Nat->Nat) v,qH f b c v b (c+2-1)=v:=λf v=>adR;have hi:∀(f:Nat->Nat->Nat) v,qH f b c v b (c+2)=f b c:=λf v=>by rw[Tv J];rfl
  have j:∀(T B:Nat->Nat->Nat) (r:Nat) (d:Bool) (i o:ff),(if d then i else jW o).r=T b (r-1)->(if d then i else jW o).l=T b r->(if d then o else jW i).r=B b (r-1)->(if d then o else jW i).l=B b r->CV T B ⟨oT b r d,i,o⟩:=λT B r d i o y O h3 h4=>⟨y,O,h3,h4⟩;cases A<;>cases x<;>simp only[eI,if_false,if_true]at z
  .rw[<-im]at z;refine⟨⟨gL g b c,gC g,false⟩,gC g,m.r,c+1,c+2,rfl,.inl ⟨rfl,rfl⟩,rfl,rfl,j _ _ _ _ _ _ ?_ ?_ ?_ ?_,j _ _ _ _ _ _ ?_ ?_ ?_ ?_,.inr rfl⟩
   .rw[lo];rfl
   .rw[md];rfl
   .rw[lo];exact z
   .rw[md];rfl
   .rw[Iz];rfl
   .rw[hi];rfl
   .rw[Iz];rfl
   rw[hi];exact z
  .rw[<-ag]at z;refine⟨⟨gC g,gL g b c,false⟩,gC g,m.l,c+2,c+1,rfl,.inr ⟨rfl,rfl⟩,rfl,rfl,j _ _ _ _ _ _ ?_ ?_ ?_ ?_,j _ _ _ _ _ _ ?_ ?_ ?_ ?_,.inl rfl⟩
   .rw[Iz];rfl
   .rw[hi];rfl
   .rw[Iz];rfl
   .rw[hi];exact z
   .rw[lo];rfl
   .rw[md];rfl
   .rw[lo];exact z
   rw[md];rfl
  .rw[<-im]at z;refine⟨⟨gq g b c,gC g,true⟩,m.r,gC g,c+2,c+1,rfl,.inr ⟨rfl,rfl⟩,rfl,rfl,j _ _ _ _ _ _ ?_ ?_ ?_ ?_,j _ _ _ _ _ _ ?_ ?_ ?_ ?_,.inr rfl⟩
   .rw[Iz];rfl
   .rw[hi];exact z
   .rw[Iz];rfl
   .rw[hi];rfl
   .rw[lo];exact z
   .rw[md];rfl
   .rw[lo];rfl
   rw[md];rfl
  rw[<-ag]at z;refine⟨⟨gC g,gq g b c,true⟩,m.l,gC g,c+1,c+2,rfl,.inl ⟨rfl,rfl⟩,rfl,rfl,j _ _ _ _ _ _ ?_ ?_ ?_ ?_,j _ _ _ _ _ _ ?_ ?_ ?_ ?_,.inl rfl⟩
  .rw[lo];exact z
  .rw[md];rfl
  .rw[lo];rfl
  .rw[md];rfl
  .rw[Iz];rfl
  .rw[hi];exact z
  .rw[Iz];rfl
  rw[hi];rfl
 rw[fE,xR]
 let M:bl:=⟨oT b r1 A,m,k⟩
 let Q:bl:=⟨oT b R (!A),k,m⟩
 have Z:M.k.aI:=rfl;have ac:Q.k.aI:=rfl;have L9:∀(r:Int) (d:Bool),ek F (oT b r d).l=false:=λr d=>(oX (l:=(oT b r d).l) rfl).2 ⟨⟨⟨⟨by show(0:Int)<=(b:Int);omega,by show(b:Int)<=(F:Int);omega⟩,rfl⟩,rfl⟩,rfl⟩
 let H:=mU b c 2
 let r:=eU g
 have mC:an aa.aB (aZ (r.map (bl.mp id H)))=an aa.aB g:=by rw[vJ (λl=>(vf _ _ _).aB l)];rw[ko]
 have mP:an aa.aI (aZ (r.map (bl.mp id H)))=an aa.aI g:=by rw[vJ (λl=>(vf _ _ _).aI l)];rw[ko]
 have mG:∀q,bU (aZ (r.map (bl.mp id H))) q=bU g q:=λq=>by show an _ _=an _ _;rw[vJ (λl=>abx _ _ _ q l)];rw[ko]
 have nC:an aa.aB (aZ ([M,Q]++r.map (bl.mp id H)))=an aa.aB g:=by rw[td,gP,gP,te,(zN Z).1,(zN ac).1,mC];omega
 have a_:an aa.aI (aZ ([M,Q]++r.map (bl.mp id H)))=an aa.aI g+2:=by rw[td,gP,gP,te,(zN Z).2,(zN ac).2,mP];omega
 have nG:∀q,bU (aZ ([M,Q]++r.map (bl.mp id H))) q=bU g q+if q=b then 2 else 0:=λq=>by
  have e1:bU (aZ ([M,Q]++r.map (bl.mp id H))) q=(if q=b then 1 else 0)+((if q=b then 1 else 0)+0)+bU (aZ (r.map (bl.mp id H))) q:=by show an _ _=_+an _ _;rw[td,gP,gP,te,VK (w:=M) Z rfl,VK (w:=Q) ac rfl]
  rw[e1,mG];split<;>omega
 have ab:∀w∈r,w.k.aI->(0<=w.k.gate/\w.k.gate<=(F:Int))/\1<=w.k.ay/\w.k.ay<=(bU g w.k.gate.toNat:Int):=λw n pw=>by have r1:=cz.rr w n pw;rw[ko]at r1;exact⟨((oX pw).1 (cz.ok w n).bad).1.1.1,r1⟩
 have rX:∀w:bl,w.k.aI->(H w.k).ay=if w.k.gate=(b:Int)/\(c:Int)<w.k.ay then w.k.ay+2 else w.k.ay:=λw pw=>TC pw;have ad:∀(f:Nat->Nat->Nat) (v:Nat),∀w∈r,w.k.aI->f w.k.gate.toNat (w.k.ay.toNat-1)=qH f b c v w.k.gate.toNat ((H w.k).ay.toNat-1)/\f w.k.gate.toNat w.k.ay.toNat=qH f b c v w.k.gate.toNat (H w.k).ay.toNat:=by
  intro f v w n pw;obtain⟨o1,o2,o3⟩:=ab w n pw;rw[rX w pw];by_cases ug:w.k.gate.toNat=b
  .rw[ug];by_cases cr:(c:Int)<w.k.ay
   .rw[aD ⟨J,cr⟩,Tv J,Tv J];exact⟨by congr 1;omega,by congr 1;omega⟩
   rw[aC J,Uh J,Uh J];exact⟨rfl,rfl⟩
  rw[aC J,RJ ug,RJ ug];exact⟨rfl,rfl⟩
 have D:∀(f:Nat->Nat->Nat) (v q:Nat),qH f b c v q (bU g q+if q=b then 2 else 0)=f q (bU g q):=λf v q=>by
  by_cases cq:q=b
  .subst cq;rw[aD rfl,Tv J];rfl
  rw[aC cq,RJ cq];rfl
 have qn:me F ([M,Q]++r.map (bl.mp id H)) (qH (gL g) b c tn) (qH (gq g) b c bn):=by
  refine me.edit (X:=[]) (r:=r) cz.q (vf _ _ _) (λw n=>Z7 (cz.ok w n).bad) (λu E v hv cu cv e=>?_) (λu E v hv pu pv e1 Y=>?_) (λw n=>?_) ?_ ?_ (λu E w n=>?_) (λu E w n pu pw e1 Y=>?_) (by rw[nC];have:=cz.ev;rwa[ko]at this) (λw n cw=>?_) (λu E cu=>?_) (λw n pw=>?_) (λu E pu=>?_) (λw n pw=>?_) (λu E pu=>?_) (λq hq=>?_) ?_
  .rw[DG,DG]at e;exact e
  .have FP:u.k.gate=v.k.gate:=by rw[vB,vB]at e1;exact e1
   refine⟨FP,?_⟩;have Y:(H u.k).ay=(H v.k).ay:=Y;rw[rX u pu,rX v pv]at Y;split at Y<;>split at Y<;>omega
  .simp only[dr,ic,or_false]at n;rcases n with rfl|rfl
   .exact⟨L9 _ _,λh=>(Bool.noConfusion h),λ_=>⟨hk,yN⟩⟩
   exact⟨L9 _ _,λh=>(Bool.noConfusion h),λ_=>⟨yN,by show k.b= !(!A);rw[hk];simp⟩⟩
  .exact ot.2 ⟨λw _=>acT rfl,IM ..⟩
  .refine ot.2 ⟨λw n=>?_,IM ..⟩;rw[rb]at n;subst n;intro _ _ _ e;have e:(r1:Int)=(R:Int):=e;rcases hr with⟨y,O⟩|⟨y,O⟩<;>omega
  .simp only[dr,ic,or_false]at E;rcases E with rfl|rfl<;>exact acT rfl
  .have pw:w.k.aI:=by rw[<- (vf b c 2).aI];exact pw
   have e1:u.k.gate=w.k.gate:=e1.trans (vB _ _ _ _);have Y:u.k.ay=(H w.k).ay:=Y;rw[rX w pw]at Y;have Gq:u.k.gate=(b:Int)/\(u.k.ay=(c:Int)+1\/u.k.ay=(c:Int)+2):=by
    simp only[dr,ic,or_false]at E;rcases E with rfl|rfl
    .refine⟨rfl,?_⟩;show(r1:Int)=_\/(r1:Int)=_;rcases hr with⟨y,O⟩|⟨y,O⟩<;>omega
    refine⟨rfl,?_⟩;show(R:Int)=_\/(R:Int)=_;rcases hr with⟨y,O⟩|⟨y,O⟩<;>omega
   obtain⟨u1,u2⟩:=Gq;split at Y<;>omega
  .simp only[dr,ic,or_false]at n;rcases n with rfl|rfl<;>cases cw
  .rw[nC,DG,<-ko];exact cz.ids u E cu
  .rw[nG];have:w.k.gate.toNat=b/\1<=w.k.ay/\w.k.ay<=(c:Int)+2:=by
    simp only[dr,ic,or_false]at n;rcases n with rfl|rfl
    .refine⟨nP _,?_⟩;show 1<=(r1:Int)/\(r1:Int)<=_;rcases hr with⟨y,O⟩|⟨y,O⟩<;>omega
    refine⟨nP _,?_⟩;show 1<=(R:Int)/\(R:Int)<=_;rcases hr with⟨y,O⟩|⟨y,O⟩<;>omega
   obtain⟨w1,w2,w3⟩:=this;rw[w1,aD rfl];omega
  .rw[vB,nG];show 1<=(H u.k).ay/\(H u.k).ay<=_;obtain⟨o1,o2,o3⟩:=ab u E pu;rw[rX u pu];split
   .rename_i h;rw[aD J];omega
   split<;>omega
  .simp only[dr,ic,or_false]at n;rcases n with rfl|rfl
   .exact asO
   exact asP
  .rw[vB];obtain⟨t1,t2⟩:=ad (gL g) tn u E pu;obtain⟨b1,b2⟩:=ad (gq g) bn u E pu;exact⟨⟨t1,b1⟩,t2,b2⟩
  .rw[nG,D,D,Rj,Rj];have:=cz.gt q hq;rwa[ko]at this
  rw[nG,D,D,Rj,Rj];have:=cz.gz;rwa[ko]at this
 have oU:=BZ (g:=g) ha;have jR:jj s (r.map (bl.mp id H)) s:=Hs (m:=id) hp;have ak:(r.map (bl.mp id H))[a]?=some ((fc g a).mp id H):=by rw[ig,oU];rfl
 refine me.done (X:=[]) (L:=[]) (N:=[gC g]) (V:=gC g) (z:=(r.map (bl.mp id H)).take (a+1)++[M,Q]++(r.map (bl.mp id H)).drop (a+1)) qn cz.nd (λt ht=>cz.wit t ht) ?_ ⟨s,NF jR ak ⟨rfl,rfl,rfl⟩⟩ ?_ ⟨M,aP,Z⟩ (λ_ _ _=>rfl) (λw n=>by cases n) (nR.2 ⟨ic,qF⟩) (λt ht=>?_) (λt ht=>?_) (by rw[xi];exact c3 _) ?_
 .have y:((r.map (bl.mp id H)).take (a+1)++[M,Q]++(r.map (bl.mp id H)).drop (a+1)).Perm ([M,Q]++(r.map (bl.mp id H)).take (a+1)++(r.map (bl.mp id H)).drop (a+1)):=VY _ KX;rw[sn [M,Q],nu]at y;exact y
 .have y:(r.map (bl.mp id H)).map bl.p=fQ (aQ g) b c 2:=by
   show _=(aQ g).map (kX b c 2);rw[<-xV,nU,nU];refine xx λw _=>?_;show _=kX b c 2 w.p;rw[Na];rfl
  rw[kP,kP,uJ,u_,y];rfl
 .rw[rb]at ht;subst ht;simp
 .rw[rb]at ht;subst ht;exact⟨M,aP,PT.imp Eq.symm Eq.symm⟩
 rw[nC,a_];have:=am.nw;simp only[fU,dW];omega
def aov(f:cE F g){a b c:Nat}(m:a<I g)(n:b<=F)(u:c<=bU g b)(h:wS F g a b c=some L):lL F L:=by
 have A:=ajF (F:=F) f (d:=2*a) J;have j:=ajF (F:=F) f (d:=2*a+1) J;rw[show 2*a/2=a by omega]at A;rw[show(2*a+1)/2=a by omega]at j;unfold wS at h;split at h
 .rename_i H;cases h;have hl:=amO (F:=F) f (d:=2*a) J H;rw[show 2*a/2=a by omega]at hl;unfold zb;rw[A];exact ad5 f m n u false hl
 split at h
 .rename_i H;cases h;have hl:=amO (F:=F) f (d:=2*a+1) J H;rw[show(2*a+1)/2=a by omega]at hl;unfold zb;rw[j];exact ad5 f m n u true hl
 cases h
end
section
variable {F:Nat} {g:ai}
def La(f:cE F g){d:Nat}(h:d<2*I g):ob F g d=qq g d:=by unfold ob;rw[dC,ap8 f h];rfl
def ahz(aM:cE F g){a b:Nat}(ha:a<I g)(hb:b<I g)(fV:a≠b){l Y o:Bool}{sg:Int}(Ih:sg=1\/sg= -1)(lS:(sg==1)=(o==Y))
  (tJ:(oq l (nx g a)).l=(oq Y (nx g b)).l) {A0 A1 R T:aR} (av:A0=mI (an aa.aB g/2) 1 sg o) (az:A1=mI (an aa.aB g/2) 2 (-sg) o)
  (eB:if l==Y then R=mI (an aa.aB g/2) 2 (-sg) (!o)/\T=mI (an aa.aB g/2) 1 sg (!o)else R=mI (an aa.aB g/2) 1 sg (!o)/\T=mI (an aa.aB g/2) 2 (-sg) (!o)):
  lL F (if a<b then fF (fF (aQ g) [R,T] b) [A0,A1] a else fF (fF (aQ g) [A0,A1] a) [R,T] b):=by
 subst av az;have cz:=aM.cz;have ko:=jK g;have s8:=Ay g;obtain⟨s,hp⟩:=cz.path
 let M:=nx g a
 let H:=nx g b
 let bY:ff:=⟨(oq Y H).r,gC g,M.b⟩
 let aL:ff:=⟨(oq l M).r,gC g,H.b⟩
 let A:bl:=⟨mI (an aa.aB g/2) 1 sg o,M,oq l bY⟩
 let m:bl:=⟨mI (an aa.aB g/2) 2 (-sg) o,oq l bY,M⟩
 let b0:bl:=⟨R,H,oq Y aL⟩
 let B:bl:=⟨T,oq Y aL,H⟩
 have ag:∀(f:Bool) (s:ff),(oq f s).b=s.b:=λf s=>by cases f<;>rfl
 have hB:(R.l.kind=2/\R.l.gate=0/\R.l.ay=0/\(R.l.sign=sg\/R.l.sign= -sg))/\(T.l.kind=2/\T.l.gate=0/\T.l.ay=0/\(T.l.sign=sg\/T.l.sign= -sg)):=by
  split at eB<;>obtain⟨rfl,rfl⟩:=eB
  .exact⟨⟨rfl,rfl,rfl,.inr rfl⟩,rfl,rfl,rfl,.inl rfl⟩
  exact⟨⟨rfl,rfl,rfl,.inl rfl⟩,rfl,rfl,rfl,.inr rfl⟩
 have Lh:A.k.aB:=rfl;have Li:m.k.aB:=rfl;have Oq:b0.k.aB:=by show(R.l.kind==2)=true;rw[hB.1.1];rfl
 have ad:B.k.aB:=by show(T.l.kind==2)=true;rw[hB.2.1];rfl
 have E:∀l:aa,l.kind=2->l.gate=0->l.ay=0->(l.sign=sg\/l.sign= -sg)->ek F l=false:=λl h1 h2 h3 h4=>by
  have hc:l.aB:=by unfold aa.aB;rw[h1];rfl
  refine(Ou hc).2 ⟨⟨h2,h3⟩,?_⟩;have:l.sign=1\/l.sign= -1:=by rcases h4 with h|h<;>rcases Ih with k|k<;>omega
  rcases this with h|h<;>rw[h]<;>decide
 have Ko:∃u v:bl,((u=b0/\v=B)\/(u=B/\v=b0))/\u.k.id=A.k.id/\v.k.id=m.k.id/\y7 A u/\y7 m v:=by
  have ak:gQ A.k=(o==(o==Y)):=by show(o==(sg==1))=_;rw[lS]
  have ac:gQ m.k=(o== !(o==Y)):=by
   show(o==(-sg==1))=_;have:(-sg==1)= !(sg==1):=by rcases Ih with rfl|rfl<;>rfl
   rw[this,lS]
  cases l<;>cases Y
  all_goals
   simp only[zL,if_true,eI,if_false,show(false==true)=false from rfl,show(true==false)=false from rfl]at eB;obtain⟨rfl,rfl⟩:=eB
  .have n:M.r=H.r:=tJ;refine⟨B,b0,.inr ⟨rfl,rfl⟩,rfl,rfl,⟨by show o= !!o;simp,rfl,?_⟩,⟨by show o= !!o;simp,rfl,?_⟩⟩
   .rw[ak,show(o==(o==false))=false by cases o<;>rfl];constructor<;>first|rfl|exact n|exact n.symm
   rw[ac,show(o== !(o==false))=true by cases o<;>rfl];constructor<;>first|rfl|exact n|exact n.symm
  .have n:M.r=H.l:=tJ;refine⟨b0,B,.inl ⟨rfl,rfl⟩,rfl,rfl,⟨by show o= !!o;simp,rfl,?_⟩,⟨by show o= !!o;simp,rfl,?_⟩⟩
   .rw[ak,show(o==(o==true))=true by cases o<;>rfl];constructor<;>first|rfl|exact n|exact n.symm
   rw[ac,show(o== !(o==true))=false by cases o<;>rfl];constructor<;>first|rfl|exact n|exact n.symm
  .have n:M.l=H.r:=tJ;refine⟨b0,B,.inl ⟨rfl,rfl⟩,rfl,rfl,⟨by show o= !!o;simp,rfl,?_⟩,⟨by show o= !!o;simp,rfl,?_⟩⟩
   .rw[ak,show(o==(o==false))=false by cases o<;>rfl];constructor<;>first|rfl|exact n|exact n.symm
   rw[ac,show(o== !(o==false))=true by cases o<;>rfl];constructor<;>first|rfl|exact n|exact n.symm
  have n:M.l=H.l:=tJ;refine⟨B,b0,.inr ⟨rfl,rfl⟩,rfl,rfl,⟨by show o= !!o;simp,rfl,?_⟩,⟨by show o= !!o;simp,rfl,?_⟩⟩
  .rw[ak,show(o==(o==true))=true by cases o<;>rfl];constructor<;>first|rfl|exact n|exact n.symm
  rw[ac,show(o== !(o==true))=false by cases o<;>rfl];constructor<;>first|rfl|exact n|exact n.symm
 obtain⟨u,v,Bo,iu,iv,xu,xv⟩:=Ko
 let r:=eU g
 have N1:A.k.id=((an aa.aB g/2+1:Nat):Int):=rfl;have N2:m.k.id=((an aa.aB g/2+2:Nat):Int):=rfl;have ar:∀w∈[A,m,b0,B],w=A\/w=m\/w=u\/w=v:=λw j=>by
  simp only[dr,ic,or_false]at j;rcases Bo with⟨rfl,rfl⟩|⟨rfl,rfl⟩
  .exact j
  rcases j with h|h|h|h
  .exact .inl h
  .exact .inr (.inl h)
  .exact .inr (.inr (.inr h))
  exact .inr (.inr (.inl h))
 have cu:u.k.aB:=by rcases Bo with⟨rfl,_⟩|⟨rfl,_⟩<;>assumption
 have cv:v.k.aB:=by rcases Bo with⟨_,rfl⟩|⟨_,rfl⟩<;>assumption
 have c4:∀w∈[A,m,b0,B],w.k.aB/\(w.k.id=((an aa.aB g/2+1:Nat):Int)\/w.k.id=((an aa.aB g/2+2:Nat):Int)):=λw j=>by
  rcases ar w j with rfl|rfl|rfl|rfl
  .exact⟨Lh,.inl N1⟩
  .exact⟨Li,.inr N2⟩
  .exact⟨cu,.inl (iu.trans N1)⟩
  exact⟨cv,.inr (iv.trans N2)⟩
 have aG:lG A m/\lG A u/\lG A v/\lG m u/\lG m v/\lG u v:=by
  have no:∀ {x y:bl},x.k.id≠y.k.id->lG x y:=λh _ _ e=>absurd e h;have MU:A.k.id≠m.k.id:=by rw[N1,N2];omega
  exact⟨no MU,λ_ _ _=>xu,no (by rw[iv];exact MU),no (by rw[iu];exact MU.symm),λ_ _ _=>xv,no (by rw[iu,iv];exact MU)⟩
 obtain⟨w1,w2,w3,w4,w5,w6⟩:=aG;have pw:[A,m,b0,B].Pairwise lG:=by
  simp only[ot,dr,ic,or_false,forall_eq_or_imp,forall_eq,List.Pairwise.nil,and_true,false_imp_iff,implies_true];rcases Bo with⟨rfl,rfl⟩|⟨rfl,rfl⟩
  .exact⟨⟨w1,w2,w3⟩,⟨w4,w5⟩,w6⟩
  exact⟨⟨w1,w3,w2⟩,⟨w5,w4⟩,w6.symm⟩
 have iA:∀w∈[A,m,b0,B],zc F w:=λw j=>by
  have mk:∀x:bl,x.k.aB->ek F x.k=false->x.i.b=x.o.b->zc F x:=λx h1 h2 h3=>⟨h2,λ_=>h3,λhp=>by rw[oi h1]at hp;cases hp⟩;simp only[dr,ic,or_false]at j;rcases j with rfl|rfl|rfl|rfl
  .exact mk _ Lh (E _ rfl rfl rfl (.inl rfl)) (ag l bY).symm
  .exact mk _ Li (E _ rfl rfl rfl (.inr rfl)) (ag l bY)
  .exact mk _ Oq (E _ hB.1.1 hB.1.2.1 hB.1.2.2.1 hB.1.2.2.2) (ag Y aL).symm
  exact mk _ ad (E _ hB.2.1 hB.2.2.1 hB.2.2.2.1 hB.2.2.2.2) (ag Y aL)
 have PK:∀w∈r,w.k.aB->1<=w.k.id/\w.k.id<=((an aa.aB g/2:Nat):Int):=λw j hc=>by have:=cz.ids w j hc;rwa[ko]at this
 have nC:an aa.aB (aZ ([A,m,b0,B]++r.map (bl.mp id id)))=an aa.aB g+4:=by rw[DB,td,gP,gP,gP,gP,te,ko,(qc Lh).1,(qc Li).1,(qc Oq).1,(qc ad).1];omega
 have a_:an aa.aI (aZ ([A,m,b0,B]++r.map (bl.mp id id)))=an aa.aI g:=by rw[DB,td,gP,gP,gP,gP,te,ko,(qc Lh).2,(qc Li).2,(qc Oq).2,(qc ad).2];omega
 have nG:∀q,bU (aZ ([A,m,b0,B]++r.map (bl.mp id id))) q=bU g q:=λq=>by show an _ _=an _ _;rw[DB,td,gP,gP,gP,gP,te,ko,AN q Lh,AN q Li,AN q Oq,AN q ad];simp
 have ev:=cz.ev;rw[ko]at ev;have qn:me F ([A,m,b0,B]++r.map (bl.mp id id)) (gL g) (gq g):=by
  refine me.edit (X:=[]) (r:=r) cz.q AE.id (λw j=>(cz.ok w j).bad) (λ_ _ _ _ _ _ e=>e) (λ_ _ _ _ _ _ e f=>⟨e,f⟩) iA pw ?_ (λx hx w j h1 h2 e=>?_) (λx hx w j=>HN (c4 x hx).1) (by rw[nC];omega) (λw j hc=>?_) (λw j hc=>?_) (λw j hp=>?_) (λw j hp=>?_) (λw j hp=>?_) (λw j hp=>⟨⟨rfl,rfl⟩,rfl,rfl⟩) (λq hq=>?_) ?_
  .refine ot.2 ⟨λ_ _=>HN Lh,ot.2 ⟨λ_ _=>HN Li,ot.2 ⟨λ_ _=>HN Oq,IM ..⟩⟩⟩
  .exfalso;have h3:=PK w j h2;have e:x.k.id=w.k.id:=e;rcases(c4 x hx).2 with h|h<;>omega
  .rw[nC];rcases(c4 w j).2 with h|h<;>omega
  .rw[nC];have:=PK w j hc;simp only[id];omega
  .rw[oi (c4 w j).1]at hp;cases hp
  .rw[nG];have:=cz.rr w j hp;rwa[ko]at this
  .rw[oi (c4 w j).1]at hp;cases hp
  .have:=cz.gt q hq;rw[ko]at this;rw[nG];exact this
  have:=cz.gz;rw[ko]at this;rw[nG];exact this
 have aq:=BZ (g:=g) ha;have ap:=BZ (g:=g) hb;have Q:jj M [A,m] M:=⟨rfl,rfl,rfl⟩;have ab:jj H [b0,B] H:=⟨rfl,rfl,rfl⟩;have D:∀(z X:gW) (k:Nat),(z.take (k+1)++X++z.drop (k+1)).Perm (X++z):=λz X k=>by have h1:(z.take (k+1)++X++z.drop (k+1)).Perm (X++z.take (k+1)++z.drop (k+1)):=VY _ KX;rw[sn X,nu]at h1;exact h1
 have O:∀(z X:gW) (k:Nat),(z.take (k+1)++X++z.drop (k+1)).map bl.p=fF (z.map bl.p) (X.map bl.p) k:=λz X k=>by rw[kP,kP,uJ,u_]
 have fin:∀z',z'.Perm ([A,m,b0,B]++r)->jj s z' s->lL F (z'.map bl.p):=λz' h1 h2=>by
  refine me.done (X:=[]) (L:=[]) (N:=[gC g]) (V:=gC g) (z:=z') qn cz.nd (λt ht=>cz.wit t ht) (by rw[DB];exact h1) ⟨s,h2⟩ rfl ?_ (λ_ _ _=>rfl) (λw j=>by cases j) (nR.2 ⟨ic,qF⟩) (λt ht=>?_) (λt ht=>?_) (by rw[xi];exact c3 _) ?_
  .obtain⟨w,j,e⟩:=cz.one;rw[DB];exact⟨w,Aw _ j,e⟩
  .rw[rb]at ht;subst ht;simp
  .rw[rb]at ht;subst ht;refine⟨A,aP,?_⟩;show gC g=(oq l bY).l\/gC g=(oq l bY).r;cases l
   .exact .inl rfl
   exact .inr rfl
  rw[nC,a_];have:=aM.nw;simp only[fU,dW];omega
 split
 .rename_i aw
  let Z:=r.take (b+1)++[b0,B]++r.drop (b+1)
  have p1:jj s Z s:=NF hp ap ab;have am:Z[a]?=some (fc g a):=by show(r.take (b+1)++[b0,B]++r.drop (b+1))[a]?=_;rw[sn,zl (by rw[gX,Ay];omega),nE,aD J];exact aq
  have p2:jj s (Z.take (a+1)++[A,m]++Z.drop (a+1)) s:=NF p1 am Q;have:=fin _ ((D Z [A,m] a).trans (by show([A,m]++Z).Perm ([A,m]++([b0,B]++r));exact List.Perm.append_left _ (D r [b0,B] b))) p2
  rw[O,O,xV]at this;exact this
 rename_i aw
 let Z:=r.take (a+1)++[A,m]++r.drop (a+1)
 have p1:jj s Z s:=NF hp aq Q;have am:Z[b]?=some (fc g b):=by show(r.take (a+1)++[A,m]++r.drop (a+1))[b]?=_;rw[sn,zl (by rw[gX,Ay];omega),nE,aD J];exact ap
 have p2:jj s (Z.take (b+1)++[b0,B]++Z.drop (b+1)) s:=NF p1 am ab;have:=fin _ ((D Z [b0,B] b).trans (by have h1:([b0,B]++Z).Perm ([b0,B]++([A,m]++r)):=List.Perm.append_left _ (D r [A,m] a);refine h1.trans ?_;rw[<-sn];exact(VY r (KX (l₁:=[b0,B]) (l₂:=[A,m]))))) p2
 rw[O,O,xV]at this;exact this
def avn(z:cE F g){a b:Nat}(D:a<I g)(B:b<I g)(A:a≠b){l o:Bool}(h:Ch F g a b l o=some L):lL F L:=by
 have j:∀(f:Bool) e,(oq f (nx g e)).l=qq g (if f then 2*e else 2*e+1):=λf e=>by cases f<;>rfl
 have n:∀m O:Bool,(m->(oq l (nx g a)).l=(oq l (nx g b)).l)->(O->(oq l (nx g a)).l=(oq (!l) (nx g b)).l)->jm g a b l o m O=some L->lL F L:=by
  intro m O u H v;unfold jm at v;split at v
  .cases v
  rename_i M;cases v;cases ae:m
  .have N:O:=by
    rw[ae]at M;revert M;cases O<;>simp
   have e:(false==l)= !l:=by cases l<;>rfl
   have:=ahz z D B A (l:=l) (Y:= !l) (o:=o) (sg:=if o==(!l)then 1 else -1) (by split<;>simp) (by split<;>simp_all) (H N) (A0:=mI (an aa.aB g/2) 1 (if o==(!l)then 1 else -1) o) (A1:=mI (an aa.aB g/2) 2 (-(if o==(!l)then 1 else -1)) o) (R:=mI (an aa.aB g/2) 1 (if o==(!l)then 1 else -1) (!o)) (T:=mI (an aa.aB g/2) 2 (-(if o==(!l)then 1 else -1)) (!o)) rfl rfl (by
    have:(l== !l)=false:=by cases l<;>rfl
    rw[this];exact⟨rfl,rfl⟩)
   simp only[e];exact this
  have e:(true==l)=l:=by cases l<;>rfl
  have:=ahz z D B A (l:=l) (Y:=l) (o:=o) (sg:=if o==l then 1 else -1) (by split<;>simp) (by split<;>simp_all) (u ae) (A0:=mI (an aa.aB g/2) 1 (if o==l then 1 else -1) o) (A1:=mI (an aa.aB g/2) 2 (-(if o==l then 1 else -1)) o) (R:=mI (an aa.aB g/2) 2 (-(if o==l then 1 else -1)) (!o)) (T:=mI (an aa.aB g/2) 1 (if o==l then 1 else -1) (!o)) rfl rfl (by rw[zL];exact⟨rfl,rfl⟩)
  simp only[e];exact this
 have E:∀x y:Nat,((x:Int)==(y:Int))->x=y:=λx y h=>by have:=eq_of_beq h;omega
 unfold Ch at h;cases l
 .rw[aC U,La z J,La z J,La z J]at h;refine n _ _ (λu=>?_) (λH=>?_) h
  .rw[j,j];exact(E _ _ u).symm
  rw[j,j];exact(E _ _ H).symm
 rw[aD rfl,La z J,La z J,La z J]at h;refine n _ _ (λu=>?_) (λH=>?_) h
 .rw[j,j];exact(E _ _ u).symm
 rw[j,j];exact(E _ _ H).symm
end
def KM(q:aR->Bool):Prop:=∀p f:aR,p.l.kind=f.l.kind->q p=q f
def ab8{q:aR->Bool}(l:cX)(drop:Nat->aR->Bool):(oa l drop).countP q<=l.countP q:=by
 have f:∀k,k<=I l->(uY l drop k).countP q<=(l.take k).countP q:=by
  intro k
  induction k with
  |zero=>intro _;exact c3 _
  |succ k j=>
   intro H;obtain⟨p,hp⟩:=aT (L:=l) (k:=k) J;have:=j J;rw[jT,hp,um];cases h:drop k p
   .rw[QD hp h,um];exact Nat.add_le_add_right this _
   rw[GY hp h];omega
 have:=f (I l) (c3 _);rwa[lA]at this
def KV{q:aR->Bool}(H:KM q){f:aR->aR}(h:∀p,(f p).l.kind=p.l.kind)(l:cX):(l.map f).countP q=l.countP q:=by rw[Fz];exact LM λp _=>by rw[Function.comp_apply,H _ _ (h p)]
def QX(g A b:Int)(p:aR):(kX g A b p).l.kind=p.l.kind:=by unfold kX;split<;>rfl
def ahH(ids:dd)(p:aR):(qh ids p).l.kind=p.l.kind:=by unfold qh;split<;>rfl
def J_{q:aR->Bool}(l x:cX)(k:Nat):(fF l x k).countP q=l.countP q+x.countP q:=by show(l.take (k+1)++x++l.drop (k+1)).countP q=_;rw[um,um,Nat.add_right_comm,<-um,nu]
section
variable {F:Nat} {g:ai}
def alW(j:cE F g){q:aR->Bool}:∀(E:aF) (l:cX),I l=I g->(∀e∈E,e<I g)->(kJ g l E).countP q=l.countP q:=by
 intro E
 induction E with
 |nil=>intro l _ _;rfl
 |cons e E f=>intro l hl H;show(kJ g (jU g l e) E).countP q=_;rw[f _ (by rw[Is,hl]) λe h=>H e (by simp[h]),J9 hl (H e aP) (aai j (H e aP))]
def agd{q:aR->Bool}(H:KM q)(l:cX)(i:Nat)(r:Int):(k9 l i r).countP q=l.countP q:=by
 by_cases h:i<I l
 .obtain⟨p,hp⟩:=aT h;exact Z0 hp λp=>H _ _ rfl
 unfold k9;rw[Sa J]
def aeZ{q:aR->Bool}(H:KM q)(l:cX)(i:Nat)(g r:Int):(wU l i g r).countP q=l.countP q:=by
 by_cases h:i<I l
 .obtain⟨p,hp⟩:=aT h;unfold wU;rw[dC,hp,kZ];have:=Tw (p:=q) (y:={p with l:={p.l with gate:=g,ay:=r}}) hp;rw[H {p with l:={p.l with gate:=g,ay:=r}} p rfl]at this;show List.countP q (l.set i {p with l:={p.l with gate:=g,ay:=r}})=_;omega
 unfold wU;rw[Sa J]
def Ff:aR:=⟨⟨1,0,0,0,0,false⟩,false⟩
def rq:aR:=⟨⟨2,0,0,0,0,false⟩,false⟩
def E8(q:aR->Bool)(k:Int):Nat:=if k=2 then [Ff,Ff].countP q else if k=5 then [rq,rq].countP q else if k=7 then [rq,rq,rq,rq].countP q else 0
def ahL(O:cE F g){q:aR->Bool}(H:KM q){k:Int}{a b c:Nat}{l o:Bool}{sg:Int}(M:a<I g)(j:b<I g\/(k≠3/\k≠8))(A:c<I g\/k≠8)(h:og F g k a b c l o sg=some L):L.countP q<=(aQ g).countP q+E8 q k:=by
 have N:=cW g;have two:∀x y:aR,x.l.kind=1->y.l.kind=1->[x,y].countP q=[Ff,Ff].countP q:=λx y B u=>by simp only[tA,R3];rw[H x Ff B,H y Ff u]
 have T:∀x y:aR,x.l.kind=2->y.l.kind=2->[x,y].countP q=[rq,rq].countP q:=λx y B u=>by simp only[tA,R3];rw[H x rq B,H y rq u]
 unfold og at h;split at h
 .unfold C9 at h;simp only at h;split at h
  .cases h;show(List.map _ _).countP q<=_;rw[KV H (QX _ _ _)];have:=ab8 (q:=q) (aQ g) (λk _=>decide (k=a)||decide (k=(a+1)%I g));omega
  cases h
 split at h
 .rename_i m;subst m;have e:E8 q 2=[Ff,Ff].countP q:=rfl;have D:∀f n,(zb g a b c f n).countP q=(aQ g).countP q+E8 q 2:=λf n=>by
   unfold zb;rw[J_,e];show(List.map _ _).countP q+_=_;rw[KV H (QX _ _ _),two _ _ rfl rfl]
  unfold wS at h;split at h
  .cases h;exact E3 (D _ _)
  split at h
  .cases h;exact E3 (D _ _)
  cases h
 split at h
 .rename_i m;subst m;unfold DH at h;split at h
  .cases h;rw[alW O _ _ (by rw[E5,E5,N]) (by
    intro e z;simp only[dr,ic,or_false]at z;rcases z with rfl|rfl
    .exact M
    rcases j with j|j
    .exact j
    exact absurd rfl j.1),agd H,agd H]
   omega
  cases h
 split at h
 .unfold Cr at h;simp only at h;split at h
  .cases h;show(List.map _ _).countP q<=_;rw[KV H (ahH _)];have:=ab8 (q:=q) (aQ g) (rW [((aQ g).getD a ⟨mw,false⟩).l.id]);omega
  cases h
 split at h
 .rename_i m;subst m;cases h;unfold Fg;rw[J_,T _ _ rfl rfl];exact c3 _
 split at h
 .unfold Ct at h;split at h
  .cases h;show(List.map _ _).countP q<=_;rw[KV H (ahH _)];have:=ab8 (q:=q) (aQ g) (rW [(aV g a).l.id,(aV g (aJ g a)).l.id]);omega
  cases h
 split at h
 .rename_i m;subst m;have e:E8 q 7=[rq,rq].countP q+[rq,rq].countP q:=by
   show [rq,rq,rq,rq].countP q=_;rw[<-um];rfl
  have v:∀s t,jm g a b l o s t=some L->L.countP q<=(aQ g).countP q+E8 q 7:=λs t h=>by
   unfold jm at h;split at h
   .cases h
   simp only[iS]at h;subst h;have u:∀x sg o s,(qu x sg o s).countP q=[rq,rq].countP q:=λx sg o s=>by unfold qu;split<;>exact T _ _ rfl rfl
   have E:∀x sg o,(sV x sg o).countP q=[rq,rq].countP q:=λx sg o=>T _ _ rfl rfl;split
   .rw[J_,J_,u,E,e];omega
   rw[J_,J_,u,E,e];omega
  unfold Ch at h;split at h
  .exact v _ _ h
  exact v _ _ h
 split at h
 .rename_i m;subst m;unfold zE at h;split at h
  .cases h;rw[alW O _ _ N (by
    intro e z;simp only[dr,ic,or_false]at z;rcases z with rfl|rfl|rfl
    .exact M
    .rcases j with j|j
     .exact j
     exact absurd rfl j.2
    rcases A with A|A
    .exact A
    exact absurd rfl A)]
   omega
  cases h
 split at h
 .unfold IU at h;split at h
  .cases h;rw[aeZ H];show(List.map _ _).countP q<=_;rw[KV H (QX _ _ _)];omega
  cases h
 unfold IE at h;split at h
 .cases h;rw[aeZ H];show(List.map _ _).countP q<=_;rw[KV H (QX _ _ _)];omega
 cases h
def aCl(v:cE F g)(k a b c:Int)(l o:Bool)(sg:Int):(∃e,e≠0/\An F g k a b c l o sg=qi e)\/ ∃M,An F g k a b c l o sg=tV F M/\de F M=0/\dh F g k a b c l o sg/\ ∃L,og F g k a.toNat b.toNat c.toNat l o sg=some L/\M=oF L:=by
 unfold An;cases H:dh F g k a b c l o sg
 .exact .inl ⟨2,U,rfl⟩
 rw[aD rfl];cases n:og F g k a.toNat b.toNat c.toNat l o sg with
 |none=>exact .inl ⟨4,U,rfl⟩
 |some L=>
  unfold tW;by_cases X:(400:Int)<(I g:Int)+(iK k).1\/(100:Int)<((an aa.aB g/2:Nat):Int)+(iK k).2
  .exact .inl ⟨7,U,aD X⟩
  refine .inr ⟨oF L,aC X,?_,rfl,L,rfl,rfl⟩;have Y:=v.len;have fi:=v.cr;have hF:=v.fing;have ne:=v.ne;have uA:¬I g=0:=by have:=jH.2 ne;omega
  have ez:an aa.aB g%2=0:=by have:=v.cz.ev;rwa[jK]at this
  have bk:=cW g;have kT:KM (λ_=>true):=λ_ _ _=>rfl;have kC:KM (λp=>p.l.aB):=λp p' h=>by show(p.l.kind==2)=(p'.l.kind==2);rw[h]
  have pC:(aQ g).countP (λp=>p.l.aB)=an aa.aB g:=by rw[<-ab2 (h:=g) aa.aB];show _=List.countP _ (List.map _ _);rw[Fz];rfl
  have lC:an aa.aB (L.map aR.l)=L.countP (λp=>p.l.aB):=by show List.countP _ (List.map _ _)=_;rw[Fz];rfl
  have T:∀l:cX,l.countP (λ_=>true)=I l:=λl=>aP;have fin:L=[]\/lL F L->(∀ {A B m:Nat},a=(A:Int)->b=(B:Int)->c=(m:Int)->A<I g->(B<I g\/(k≠3/\k≠8))->(m<I g\/k≠8)->de F (oF L)=0):=by
   intro y A B m e1 e2 e3 f u Q;subst e1 e2 e3;simp only[nP]at n;have Z:=ahL v kT f u Q n;have c2:=ahL v kC f u Q n;rw[T,T,bk]at Z;rw[pC]at c2;have z:E8 (λ_=>true) k=(iK k).1.toNat/\0<=(iK k).1/\E8 (λp=>p.l.aB) k=2*(iK k).2.toNat/\0<=(iK k).2:=by
    unfold E8 iK;split
    .exact⟨rfl,U,rfl,U⟩
    split
    .exact⟨rfl,U,rfl,U⟩
    split
    .exact⟨rfl,U,rfl,U⟩
    exact⟨rfl,U,rfl,U⟩
   obtain⟨z,b2,b3,b4⟩:=z;rw[z]at Z;rw[b3]at c2;rcases y with rfl|y
   .unfold de;have:oF []=[]:=rfl;rw[this];rw[aC (by simp[an]),aC J,aD rfl]
   exact y.check J (by rw[lC];omega) hF
  unfold dh at H;by_cases N:k=1
  .subst N;simp only[Int.reduceEq,if_true,if_false,false_or,or_false,or_true,true_or,reduceIte,or_self]at H;simp only[c6,jf,dk]at H;obtain⟨rfl,rfl,rfl,j,rfl,rfl⟩:=H;obtain⟨A,rfl,f⟩:=jL j;exact fin (arE v f (by simpa [og]using n)) rfl (B:=0) rfl (m:=0) rfl f (.inr ⟨U,U⟩) (.inr U)
  by_cases D:k=2
  .subst D;simp only[Int.reduceEq,if_true,if_false,false_or,or_false,or_true,true_or,reduceIte,or_self]at H;simp only[c6,pB,jf,dk,iI]at H;obtain⟨rfl,rfl,rfl,j,fX,Jy,zV,Q⟩:=H;rcases j with j|⟨j,_⟩
   rotate_left
   .exact absurd j uA
   obtain⟨A,rfl,f⟩:=jL j;obtain⟨B,rfl⟩:=o_ fX;obtain⟨m,rfl⟩:=o_ zV;rw[nP]at Q;exact fin (.inr (aov v (a:=A) (b:=B) (c:=m) f J J (by simpa [og]using n))) rfl rfl rfl f (.inr ⟨U,U⟩) (.inr U)
  by_cases h3:k=3
  .subst h3;simp only[Int.reduceEq,if_true,if_false,false_or,or_false,or_true,true_or,reduceIte,or_self]at H;simp only[c6,jf,dk,iI]at H;obtain⟨rfl,rfl,rfl,j,rfl,x,aw⟩:=H;obtain⟨A,rfl,f⟩:=jL j;obtain⟨B,rfl,u⟩:=jL x;exact fin (.inr (aDA v f u J (by simpa [og]using n))) rfl rfl (m:=0) rfl f (.inl u) (.inr U)
  by_cases E:k=4
  .subst E;simp only[Int.reduceEq,if_true,if_false,false_or,or_false,or_true,true_or,reduceIte,or_self]at H;simp only[c6,jf,dk]at H;obtain⟨rfl,rfl,rfl,j,rfl,rfl⟩:=H;obtain⟨A,rfl,f⟩:=jL j;exact fin (.inr (aB2 v f (by simpa [og]using n))) rfl (B:=0) rfl (m:=0) rfl f (.inr ⟨U,U⟩) (.inr U)
  by_cases R:k=5
  .subst R;simp only[Int.reduceEq,if_true,if_false,false_or,or_false,or_true,true_or,reduceIte,or_self]at H;simp only[c6,pB,jf,dk]at H;obtain⟨rfl,ae,j,rfl,rfl⟩:=H;obtain⟨A,rfl,f⟩:=jL j;have:L=Fg g A sg o:=by
    simp[og]at n;exact n.symm
   subst this;exact fin (.inr (asQ v f ae)) rfl (B:=0) rfl (m:=0) rfl f (.inr ⟨U,U⟩) (.inr U)
  by_cases h6:k=6
  .subst h6;simp only[Int.reduceEq,if_true,if_false,false_or,or_false,or_true,true_or,reduceIte,or_self]at H;simp only[c6,jf,dk,iI]at H;obtain⟨rfl,rfl,rfl,j,rfl,x,aw⟩:=H;obtain⟨A,rfl,f⟩:=jL j;obtain⟨B,rfl,u⟩:=jL x;exact fin (.inr (aqr v f u (by simpa [og]using n))) rfl rfl (m:=0) rfl f (.inr ⟨U,U⟩) (.inr U)
  by_cases O:k=7
  .subst O;simp only[Int.reduceEq,if_true,if_false,false_or,or_false,or_true,true_or,reduceIte,or_self]at H;simp only[c6,jf,dk,sK]at H;obtain⟨rfl,j,rfl,x,aO⟩:=H;obtain⟨A,rfl,f⟩:=jL j;obtain⟨B,rfl,u⟩:=jL x;exact fin (.inr (avn v f u J (by simpa [og]using n))) rfl rfl (m:=0) rfl f (.inr ⟨U,U⟩) (.inr U)
  by_cases h8:k=8
  .subst h8;simp only[Int.reduceEq,if_true,if_false,false_or,or_false,or_true,true_or,reduceIte,or_self]at H;simp only[c6,jf,dk,iI]at H;obtain⟨rfl,rfl,rfl,j,x,hz,_,_⟩:=H;obtain⟨A,rfl,f⟩:=jL j;obtain⟨B,rfl,u⟩:=jL x;obtain⟨m,rfl,y⟩:=jL hz;exact fin (.inr (ari v f u y (by simpa [og]using n))) rfl rfl rfl f (.inl u) (.inl y)
  by_cases h9:k=9
  .subst h9;simp only[Int.reduceEq,if_true,if_false,false_or,or_false,or_true,true_or,reduceIte,or_self]at H;simp only[c6,jf,dk]at H;obtain⟨rfl,rfl,rfl,j,rfl,rfl⟩:=H;obtain⟨A,rfl,f⟩:=jL j;exact fin (.inr (as3 v f (by simpa [og]using n))) rfl (B:=0) rfl (m:=0) rfl f (.inr ⟨U,U⟩) (.inr U)
  by_cases cQ:k=10
  .subst cQ;simp only[Int.reduceEq,if_true,if_false,false_or,or_false,or_true,true_or,reduceIte,or_self]at H;simp only[c6,jf,dk]at H;obtain⟨rfl,rfl,rfl,j,rfl,rfl⟩:=H;obtain⟨A,rfl,f⟩:=jL j;exact fin (.inr (aoG v f (by simpa [og]using n))) rfl (B:=0) rfl (m:=0) rfl f (.inr ⟨U,U⟩) (.inr U)
  simp[N,D,h3,E,R,h6,O,h8,h9,cQ]at H
end
end Go.Abs
