/- A part. -/
import Derived.Test.YtenindeoffokoaaGreatDoorWn
set_option linter.all false
open List renaming length->I
set_option maxRecDepth 100000
set_option maxHeartbeats 16000000
namespace Go.Abs
variable{u x y E:Nat}{X Y Q:aW}{h H:aG}{m:dJ}{z j D:U}{A:aN->aN}
section
variable{f n v:Nat}
abbrev a8(L:af)(v:Nat):U:=(dE L v).l
section
variable {F:Nat} {L M:af} {r:Bool} {s t:Nat->Nat}
def iP{l:U}(h:L[v]?=some l):a8 L v=l:=congrArg aN.l (gU (fX h))
def cK.xe(i:cK F L M r s t)(H:v<I L):(a8 M (s v)).kind=(a8 L v).kind/\(a8 M (s v)).gate=(a8 L v).gate/\(a8 M (s v)).au=(a8 L v).au/\(a8 M (s v)).sign=(a8 L v).sign/\(a8 M (s v)).over=(a8 L v).over:=by
 obtain⟨l,hl⟩:=aP H;obtain⟨m,h,n,f,x,j,u⟩:=i.at_ v l hl;rw[iP hl,iP h]
 grind
def cK.Eg(i:cK F L M r s t)(A:u<I L)(H:v<I L)(n:(a8 L u).kind=2)(x:(a8 L v).kind=2):(a8 M (s u)).id=(a8 M (s v)).id↔(a8 L u).id=(a8 L v).id:=by obtain⟨l,hl⟩:=aP A;obtain⟨m,h⟩:=aP H;obtain⟨z,j,_⟩:=i.at_ u l hl;obtain⟨y,f,_⟩:=i.at_ v m h;rw[iP hl]at n |-;rw[iP h]at x |-;rw[iP j,iP f];exact i.ids u v l m z y hl h j f (by unfold U.ak;rw[n];rfl) (by unfold U.ak;rw[x];rfl)
def abv{B:Type}(c:Bool)(x:B):(if c=true then some x else none).isSome=c:=by cases c<;>rfl
def cK.ends(i:cK F L M r s t){e:Nat}(h:e<I L):(r=false/\dw (I L) r s e=s e/\nx M (dw (I L) r s e)=s (nx L e))\/(r/\dw (I L) r s e=s (nx L e)/\nx M (dw (I L) r s e)=s e):=by
 have H:=i.along h true;have E:dS (I L) e true=2*e:=rfl;rw[E]at H;have D:=i.step e h;have f:∀u,nx M u=(u+1)%I L:=λu=>by show _%I M=_;rw[i.len]
 have m:nx L e<I L:=cT _ J;unfold dw;rw[H,f];cases r with
 |false=>
  refine .inl ⟨rfl,?_,?_⟩
  .show 2*s e/2=_;omega
  show(2*s e/2+1)%I L=_
  grind
 |true=>
  have j:(s e+I L-1)%I L=s (nx L e):=by rw[<-D];exact w8 (i.lt _ m)
  refine .inr ⟨rfl,?_,?_⟩
  .show(2*((s e+I L-1)%I L)+1)/2=_;rw[j];omega
  show((2*((s e+I L-1)%I L)+1)/2+1)%I L=_
  grind
def Hf(p q:U)(a b:Nat):Bool:=(p.kind==1)&&((q.kind==1)&&((p.gate==q.gate)&&((j6 p.au q.au-rN p.au q.au==1)&& !(decide (a<=2)&&decide (0<b)))))
def aok{L:af}{a:Nat}:(n_ L a).isSome=Hf (a8 L a) (a8 L (nx L a)) (aq U.ay L) (aq U.ak L/2):=by unfold n_ Hf;exact abv _ _
def au3(a b:Int):j6 a b-rN a b=j6 b a-rN b a:=by grind [j6,rN]
def ax1(p q:U)(a b:Nat):Hf p q a b=Hf q p a b:=by
 unfold Hf;rw[au3 p.au q.au,show(p.gate==q.gate)=(q.gate==p.gate) by rw[KG,c8,c8];exact eq_comm]
 grind
def cK.c1(i:cK F L M r s t){a:Nat}(j:a<I L)(h:(n_ L a).isSome):(n_ M (dw (I L) r s a)).isSome:=by
 rw[aok]at h |-;have f:Hf (a8 M (s a)) (a8 M (s (nx L a))) (aq U.ay M) (aq U.ak M/2):=by obtain⟨H,n,u,_⟩:=i.xe j;obtain⟨k1,k2,k3,_⟩:=i.xe (cT _ J);rw[i.cn _ λl m H _=>by unfold U.ay;rw[H],i.cn _ λl m H _=>by unfold U.ak;rw[H],<-h];unfold Hf;rw[H,n,u,k1,k2,k3]
 rcases i.ends j with _|⟨_,E,v⟩
 .grind
 rw[v,E,ax1];exact f
def auJ{L:af}{a:Nat}:(qh L a).isSome=((a8 L a).kind==2&&((a8 L (nx L a)).kind==2&&((a8 L a).id==(a8 L (nx L a)).id))):=by unfold qh;exact abv _ _
def cK.c4(i:cK F L M r s t){a:Nat}(H:a<I L)(h:(qh L a).isSome):(qh M (dw (I L) r s a)).isSome:=by
 rw[auJ]at h |-;have m:nx L a<I L:=cT _ J;simp at h |-;obtain⟨j,f,n⟩:=h;have k1:=(i.xe H).1.trans j;have k2:=(i.xe m).1.trans f;have k3:=(i.Eg H m j f).2 n;rcases i.ends H with _|⟨_,E,u⟩
 .grind
 grind
structure Gx (F:Nat) (L:af) (a b:Nat):Prop where
 cr:(a8 L a).kind=2/\(a8 L (nx L a)).kind=2/\(a8 L b).kind=2/\(a8 L (nx L b)).kind=2
 ov:(a8 L (nx L a)).over=(a8 L a).over/\(a8 L (nx L b)).over=(a8 L b).over/\(a8 L b).over= !(a8 L a).over
 AL:(a8 L a).id≠(a8 L (nx L a)).id
 BO:((a8 L b).id=(a8 L a).id/\(a8 L (nx L b)).id=(a8 L (nx L a)).id)\/((a8 L b).id=(a8 L (nx L a)).id/\(a8 L (nx L b)).id=(a8 L a).id)
 xV:nx L (nx L a)≠b/\nx L (nx L b)≠a
 cor:oF F L 0 [a,b] a
def NW(L:af)(a:Nat):nx L (nx L a)=(a+2)%I L:=by simp_all
def M_{F:Nat}{L:af}{a b:Nat}:(oY F L a b).isSome↔Gx F L a b:=by
 unfold oY;rw[abv];unfold jx;simp;constructor
 .rintro ⟨v,f,j,h,H,m⟩
  refine⟨?_,?_,f,j,⟨by rw[NW];exact h,by rw[NW];exact H⟩,m⟩
  .grind
  grind
 rintro⟨⟨A,u,B,n⟩,⟨y,x,O⟩,f,j,⟨h,H⟩,m⟩
 rw[NW]at h H
 grind
def Gx.symm{a b:Nat}(h:Gx F L a b)(D:a<I L)(y:b<I L):Gx F L b a:=by
 obtain⟨⟨A,j,B,f⟩,⟨u,n,O⟩,v,x,⟨H,m⟩,z⟩:=h;refine⟨⟨B,f,A,j⟩,⟨n,u,by rw[O,yI]⟩,?_,?_,⟨m,H⟩,?_⟩
 .grind
 .grind
 grind [Fu,No]
def cK.xV(i:cK F L M r s t){a b:Nat}(m:a<I L)(j:b<I L)(h:nx L (nx L a)≠b)(y:nx L (nx L b)≠a):nx M (nx M (dw (I L) r s a))≠dw (I L) r s b:=by
 have Q:nx L a<I L:=cT _ J;have z:nx L b<I L:=cT _ J;have A:nx L (nx L b)<I L:=cT _ J;have n:∀u,nx M u=(u+1)%I L:=λu=>by show(u+1)%I M=_;rw[i.len]
 have inj:∀u v,u<I L->v<I L->s u=s v->u=v:=λu v x B e=>by rw[<-i.ts u x,<-i.ts v B,e]
 rcases i.ends m with⟨H,N,E⟩|⟨H,N,E⟩
 .subst H;rcases i.ends j with⟨_,k1,k2⟩|⟨H,_⟩
  .intro e;rw[E,k1,n]at e;have f:=i.step (nx L a) Q;rw[aC aa]at f;exact h (inj _ _ (cT _ J) j (f.trans e))
  cases H
 subst H;rcases i.ends j with⟨H,_⟩|⟨_,k1,k2⟩
 .cases H
 intro e;rw[E,k1,n]at e;have f:=i.step (nx L b) z;rw[aD rfl]at f;have D:nx L (s a)=nx L (s (nx L (nx L b))):=(show nx L (s a)=s (nx L b)from e).trans f.symm;exact y (inj _ _ A m (VO (i.lt _ m) (i.lt _ A) D).symm)
def cK.c6(i:cK F L M r s t){a b:Nat}(H:a<I L)(n:b<I L)(h:Gx F L a b):Gx F M (dw (I L) r s a) (dw (I L) r s b):=by
 have z:nx L a<I L:=cT _ J;have Y:nx L b<I L:=cT _ J;have xV:=h.xV;obtain⟨⟨A,B,D,T⟩,⟨o1,o2,o3⟩,h2,h3,_,h6⟩:=h;have R:=i.xe H;have v:=i.xe z;have X:=i.xe n;have x:=i.xe Y;have Ak:oF F M 0 [dw (I L) r s a,dw (I L) r s b] (dw (I L) r s a):=i.XE (λe he=>by simp only[c7,eD,or_false]at he;rcases he with rfl|rfl<;>assumption) rfl h6 (CW _) rfl
 have hf:nx M (nx M (dw (I L) r s a))≠dw (I L) r s b/\nx M (nx M (dw (I L) r s b))≠dw (I L) r s a:=⟨i.xV H n xV.1 xV.2,i.xV n H xV.2 xV.1⟩;have AL:(a8 M (s a)).id≠(a8 M (s (nx L a))).id:=λe=>h2 ((i.Eg H z A B).1 e);have BO:((a8 M (s b)).id=(a8 M (s a)).id/\(a8 M (s (nx L b))).id=(a8 M (s (nx L a))).id)\/((a8 M (s b)).id=(a8 M (s (nx L a))).id/\(a8 M (s (nx L b))).id=(a8 M (s a)).id):=by
  rcases h3 with⟨h,k⟩|⟨h,k⟩
  .exact .inl ⟨(i.Eg n H D A).2 h,(i.Eg Y z T B).2 k⟩
  exact .inr ⟨(i.Eg n z D B).2 h,(i.Eg Y H T A).2 k⟩
 have Z:=R.1.trans A;have u:=v.1.trans B;have kb:=X.1.trans D;have y:=x.1.trans T;have E:(a8 M (s (nx L a))).over=(a8 M (s a)).over:=by rw[R.2.2.2.2,v.2.2.2.2];exact o1
 have i_:(a8 M (s (nx L b))).over=(a8 M (s b)).over:=by rw[X.2.2.2.2,x.2.2.2.2];exact o2
 have vc:(a8 M (s b)).over= !(a8 M (s a)).over:=by rw[X.2.2.2.2,R.2.2.2.2];exact o3
 have E1:=i.ends H;have zU:=i.ends n;generalize dw (I L) r s a=ea at*;generalize dw (I L) r s b=eb at*;rcases E1 with⟨O,j,f⟩|⟨O,j,f⟩<;>rcases zU with⟨N,Q,m⟩|⟨N,Q,m⟩
 .refine⟨?_,?_,?_,?_,hf,Ak⟩
  .rw[f,m,j,Q];exact⟨Z,u,kb,y⟩
  .rw[f,m,j,Q];exact⟨E,i_,vc⟩
  .rw[f,j];exact AL
  rw[f,m,j,Q];exact BO
 .rw[O]at N;cases N
 .rw[O]at N;cases N
 refine⟨?_,?_,?_,?_,hf,Ak⟩
 .rw[f,m,j,Q];exact⟨u,Z,y,kb⟩
 .rw[f,m,j,Q];exact⟨E.symm,i_.symm,by rw[E,i_];exact vc⟩
 .rw[f,j];exact AL.symm
 rw[f,m,j,Q];rcases BO with⟨h,k⟩|⟨h,k⟩
 .exact .inl ⟨k,h⟩
 exact .inr ⟨k,h⟩
end
section
variable {F:Nat} {L M:af} {r:Bool} {s t:Nat->Nat}
def DD(L M:af)(s:Nat->Nat)(X Y:aW):Prop:=∀x,x<I L->∃u ρ,u<I L/\X[x]?=some ⟨{a8 L u with au:=ρ},c9 L u⟩/\Y[s x]?=some ⟨{a8 M (s u)with au:=ρ},c9 M (s u)⟩
def cK.inj(i:cK F L M r s t)(H:u<I L)(h:v<I L)(e:s u=s v):u=v:=by rw[<-i.ts u H,<-i.ts v h,e]
def cK.ad9(i:cK F L M r s t):DD L M s (an L) (an M):=by
 intro x h;obtain⟨l,hl⟩:=aP h;obtain⟨m,H⟩:=aP (by rw[i.len];exact i.lt x h);refine⟨x,(a8 L x).au,h,?_,?_⟩
 .rw[fX hl,iP hl]
 rw[fX H,<- (i.xe h).2.2.1,iP H]
def cK.aeb(i:cK F L M r s t)(h:DD L M s X Y){p:Nat}(hp:p<I L)(ρ:Int):DD L M s (dY X p ρ) (dY Y (s p) ρ):=by
 obtain⟨u,r0,f,A,B⟩:=h p hp;intro x H;obtain _:=h x H;rw[pI A,pI B];by_cases e:x=p
 .grind
 rw[aC e,aC λE=>e (i.inj H hp E)]
 grind
def cK.corE(i:cK F L M r s t)(v:I X=I L)(y:I Y=I M)(h:DD L M s X Y){e:Nat}(j:e<I L):DD L M s (gX L X e) (gX M Y (dw (I L) r s e)):=by
 have n:nx L e<I L:=cT _ J;obtain⟨Q,r0,A,D,N⟩:=h e j;obtain⟨z,r1,R,O,B⟩:=h (nx L e) n;have m:∀x,x<I L->(gX M Y (dw (I L) r s e))[s x]?=if x=nx L e then Y[s e]? else if x=e then Y[s (nx L e)]? else Y[s x]? :=by
  intro x H;rw[At y (by rw[i.len];exact i.Bq j)];rcases i.ends j with⟨_,k1,k2⟩|⟨_,k1,k2⟩
  .rw[k2,k1];by_cases c1:x=nx L e
   .subst c1;rw[aD rfl,aD rfl]
   rw[aC λE=>c1 (i.inj H n E),aC c1];by_cases f:x=e
   .subst f;rw[aD rfl,aD rfl]
   rw[aC λE=>f (i.inj H j E),aC f]
  rw[k2,k1];by_cases c1:x=nx L e
  .grind
  rw[aC c1];by_cases f:x=e
  .subst f;rw[aD rfl,aD rfl]
  rw[aC λE=>f (i.inj H j E),aC λE=>c1 (i.inj H n E),aC f]
 intro x H;obtain⟨u,ρ,k1,k2,k3⟩:=h x H;rw[At v j,m x H]
 grind
def cK.aea(i:cK F L M r s t):∀ {h:aG}{X Y:aW},I X=I L->I Y=I M->DD L M s X Y->(∀e∈h,e<I L)->DD L M s (ef L X h) (ef M Y (h.map (dw (I L) r s))):=by
 intro h
 induction h with
 |nil=>intro X Y _ _ H _;exact H
 |cons e h n=>intro X Y j m H f;exact n (by rw[ub,j]) (by rw[ub,m]) (i.corE j m H (f e aE)) λe H=>f e (by simp[H])
def cK.aft(i:cK F L M r s t){P:aW}(j:I P=I L)(Y:I Q=I L)(fH:gO F P)(cQ:gO F Q)(vP:dk (F:Int) (aY P)=0)(h:DD L M s P Q):eV (aY Q) (aY P):=by
 refine i.fin j Y fH cQ vP (λv p hp=>?_) λu v p p' q q' hp N Z lG R O=>?_
 .obtain⟨u,ρ,f,a,b⟩:=h v (by rw[<-j];exact(bt.1 hp).1);rw[hp]at a;cases a;obtain⟨k1,k2,k3,k4,k5⟩:=i.xe f;refine⟨_,b,k1,k2,rfl,k4,k5,λH=>?_,λD=>?_⟩
  .have n:∀(X:af),bj F X->∀z,z<I X->(a8 X z).ak=false->(a8 X z).id=0:=λX cM z hz H=>by
    obtain⟨l,hl⟩:=aP hz;rw[iP hl]at H |-;have hb:=cM.bad l (a7 hl)
    grind [lQ,zB]
   have H:=H;exact(n M i.g' _ (by rw[i.len];exact i.lt u f) (by unfold U.ak at H |-;rw[k1];exact H)).trans (n L i.g u f H).symm
  have D:(a8 L u).ay:=D;obtain⟨l,hl⟩:=aP f;obtain⟨m,E,h1,_⟩:=i.at_ u l hl;rw[iP hl]at D;show c9 M (s u)=(c9 L u !=r);unfold c9;rw[hl,E];show(m.ay&&dn M (s u))=((l.ay&&dn L u)!=r);rw[D,(i.ay hl E).1.trans D,i.dwn u l hl D];rfl
 obtain⟨x,ρ,hx,a,b⟩:=h u (by rw[<-j];exact(bt.1 hp).1);obtain⟨y,T,hy,A,B⟩:=h v (by rw[<-j];exact(bt.1 N).1);rw[hp]at a;rw[N]at A;rw[Z]at b;rw[lG]at B;cases a;cases A;cases b;cases B;exact i.Eg hx hy (by unfold U.ak at R;exact c8.1 R) (by unfold U.ak at O;exact c8.1 O)
def wB(L:af)(e f:Nat):Prop:=e≠f/\e≠nx L f/\nx L e≠f/\nx L e≠nx L f
theorem asC(H:I X=I L){e:Nat}(j:e<I L)(hf:f<I L)(h:wB L e f):gX L (gX L X e) f=gX L (gX L X f) e:=by
 obtain⟨y,u,z,v⟩:=h;apply pk;intro x;have m:I (gX L X e)=I L:=by rw[ub,H]
 have n:I (gX L X f)=I L:=by rw[ub,H]
 grind [At]
def VK(hp:h.Perm H):∀ {X:aW},I X=I L->(∀e∈h,e<I L)->h.Pairwise (wB L)->ef L X h=ef L X H:=by
 induction hp with
 |nil=>intro X _ _ _;rfl
 |cons e _ z=>intro X n u m;exact z (by rw[ub,n]) (λe j=>u e (by simp[j])) (iN.1 m).2
 |swap e f l=>grind [ef,asC,iN]
 |trans y A v x=>intro X n u m;rw[v n u m];exact x n (λe j=>u e (y.mem_iff.2 j)) (y.pairwise m λj=>(λj=>⟨j.1.symm,j.2.2.1.symm,j.2.1.symm,j.2.2.2.symm⟩) j)
def ahv{p q:Nat}(hp:p<I X)(j:q<I X)(h:p≠q)(a b:Int):dY (dY X p a) q b=dY (dY X q b) p a:=by
 obtain⟨x,f⟩:=aP hp;obtain⟨y,H⟩:=aP j;have m:(dY X q b)[p]?=some x:=by rw[pI H,aC h];exact f
 apply pk;intro z;rw[pI (by rw[pI f,aC (Ne.symm h)];exact H),pI m,pI f,pI H]
 grind
end
section
variable {F:Nat} {L M:af} {r:Bool} {s t:Nat->Nat}
def yz(L:af)(e p v:Nat):Prop:=((p=e/\v=nx L e)\/(p=nx L e/\v=e))/\(a8 L p).kind=1/\(a8 L v).kind=2
structure u0 (F:Nat) (L:af) (a b p v q w:Nat):Prop where
 ea:yz L a p v
 eb:yz L b q w
 vw:v≠w
 id:(a8 L v).id=(a8 L w).id
 cor:oF F L 1 [a,b] a
def yz.pv{e p:Nat}(h:yz L e p v):kZ L e=(p,v,true):=by
 obtain⟨H,j,f⟩:=h;unfold kZ
 grind
def yz.lt{e p:Nat}(h:yz L e p v)(H:e<I L):p<I L/\v<I L:=by
 have f:nx L e<I L:=cT _ J;rcases h.1 with⟨rfl,rfl⟩|⟨rfl,rfl⟩
 .exact⟨H,f⟩
 exact⟨f,H⟩
def adQ(g:bj F L){a b:Nat}(M:a<I L)(n:b<I L)(h:rb F L a b=some X):∃p v q w,u0 F L a b p v q w/\X=ef L (dY (dY (an L) p (a8 L q).au) q (a8 L p).au) [a,b]:=by
 have j:0<I L:=J;unfold rb at h;split at h
 case isFalse=>cases h
 rename_i m;simp at m;obtain⟨f,H,D,z,A⟩:=m;cases h;obtain⟨ea,⟨Y,y,B⟩,T,u,N⟩:=Vn j M f;obtain⟨eb,⟨Z,E,cb⟩,O,R,Q⟩:=Vn j n H;have k1:∀ {x:Nat}{l:U},L[x]?=some l->l.ak->(a8 L x).kind=2:=λf H=>by rw[iP f];unfold U.ak at H;exact c8.1 H
 have k2:∀ {x:Nat}{l:U},L[x]?=some l->l.ay->(a8 L x).kind=1:=λf H=>by rw[iP f];unfold U.ay at H;exact c8.1 H
 exact⟨_,_,_,_,⟨⟨ea,k2 u N,k1 y B⟩,⟨eb,k2 R Q,k1 E cb⟩,D,z,A⟩,rfl⟩
def u0.as{a b p q w:Nat}(h:u0 F L a b p v q w):rb F L a b=some (ef L (dY (dY (an L) p (a8 L q).au) q (a8 L p).au) [a,b]):=by unfold rb;rw[h.ea.pv,h.eb.pv];refine aD ?_;simp only[cP,ke,mM,c8];exact⟨trivial,trivial,h.vw,h.id,h.cor⟩
def u0.symm{a b p v q w:Nat}(h:u0 F L a b p v q w)(f:a<I L)(j:b<I L):u0 F L b a q w p v:=by
 refine⟨h.eb,h.ea,h.vw.symm,h.id.symm,?_⟩;have H:=h.cor
 grind [Fu,No]
def LI(h:(a8 L x).kind=1)(k:(a8 L y).kind=2):x≠y:=λe=>by rw[e,k]at h;cases h
def u0.pq(g:bj F L){a b p q w:Nat}(h:u0 F L a b p v q w)(ha:a<I L)(hb:b<I L)(dp:a≠b):p≠q:=by
 obtain⟨⟨ea,M,Q⟩,⟨eb,kq,O⟩,Ed,H,Ak⟩:=h;obtain⟨hp,hv⟩:=yz.lt ⟨ea,M,Q⟩ ha;obtain⟨hq,hw⟩:=yz.lt ⟨eb,kq,O⟩ hb;obtain⟨ma,D⟩:=aP hp;obtain⟨la,X⟩:=aP hv;obtain⟨mb,R⟩:=aP hq;obtain⟨lb,wV⟩:=aP hw;rw[iP D]at M;rw[iP X]at Q H;rw[iP R]at kq;rw[iP wV]at O H;have fH:∀ {l:U},l.kind=1->l.ay:=λh=>by unfold U.ay;rw[h];rfl
 have cC:∀ {l:U},l.kind=2->l.ak:=λh=>by unfold U.ak;rw[h];rfl
 obtain⟨wk,T,mA,d,d1,d2,d3,d4,two,cs⟩:=abq g ha hb dp ea eb X wV D R (cC Q) (cC O) (fH M) (fH kq) H Ed Ak;have j:∀ {x y u z:Nat}{lx Z A:U},bP (I L) d=x->bP (I L) (aU L d)=z->bU (I L) (aU L d)=y->L[x]?=some lx->L[y]?=some A->L[z]?=some Z->A.kind=1->Z.kind=2->x≠y:=by
  intro x y u z lx Z A B n E hx hy hz ku kz;obtain⟨N,m,Y,y1,y2,y3,jC,y4⟩:=Q8 g T mA d3 (Dg d4) (by rw[E];exact hy) (fH ku);have hu:=(bt.1 y2).1;have yT:∀f,bP (I L) (dS (I L) N f)=N/\dS (I L) N f<2*I L:=λf=>⟨(HZ hu).1,by
   have:=wJ hu (!f);rw[<-uZ]at this;have:=uB this;rwa[uQ]at this⟩
  have QN:bP (I L) Y=N/\Y<2*I L:=by grind
  have hm:m.au≠A.au:=by rcases y4 with⟨_,e,_⟩|⟨_,e,_⟩<;>omega
  rcases two Y y1 QN.2 with e|e
  .grind
  grind [U.ay]
 rcases cs with⟨_,_,B,_,n,E⟩|⟨_,_,B,_,n,E⟩
 .exact j (u:=0) B n E D R wV kq O
 exact(j (u:=0) B n E R D X M Q).symm
def u0.dj(g:bj F L){a b p q w:Nat}(h:u0 F L a b p v q w)(D:a<I L)(A:b<I L)(M:a≠b):wB L a b:=by
 have z:=h.pq g D A M;obtain⟨⟨ea,x,B⟩,⟨eb,kq,y⟩,E,_⟩:=h;have f:=LI x y;have H:=LI kq B;rcases ea with⟨m,j⟩|⟨m,j⟩<;>rcases eb with⟨n,u⟩|⟨n,u⟩<;>subst m j n u
 .exact⟨z,f,H.symm,E⟩
 .exact⟨f,z,E,H.symm⟩
 .exact⟨H.symm,E,z,f⟩
 exact⟨E,H.symm,f,z⟩
def cK.ed(i:cK F L M r s t){e p:Nat}(H:e<I L)(h:yz L e p v):yz M (dw (I L) r s e) (s p) (s v):=by
 obtain⟨hp,f⟩:=h.lt H;obtain⟨m,j,n⟩:=h;refine⟨?_,(i.xe hp).1.trans j,(i.xe f).1.trans n⟩;rcases i.ends H with⟨_,k1,k2⟩|⟨_,k1,k2⟩<;>rw[k2,k1]<;>rcases m with⟨rfl,rfl⟩|⟨rfl,rfl⟩
 .exact .inl ⟨rfl,rfl⟩
 .exact .inr ⟨rfl,rfl⟩
 .exact .inr ⟨rfl,rfl⟩
 exact .inl ⟨rfl,rfl⟩
def cK.c3(i:cK F L M r s t){a b p q w:Nat}(j:a<I L)(n:b<I L)(h:u0 F L a b p v q w):u0 F M (dw (I L) r s a) (dw (I L) r s b) (s p) (s v) (s q) (s w):=by obtain⟨hp,m⟩:=h.ea.lt j;obtain⟨u,H⟩:=h.eb.lt n;refine⟨i.ed j h.ea,i.ed n h.eb,λe=>h.vw (i.inj m H e),(i.Eg m H h.ea.2.2 h.eb.2.2).2 h.id,?_⟩;exact i.XE (λe f=>by simp at f;rcases f with rfl|rfl<;>assumption) rfl h.cor (CW _) rfl
def cK.k3(i:cK F L M r s t){a b:Nat}(dp:a<b)(H:b<I L)(aj:rb F L a b=some X)(vX:dk (F:Int) (aY X)=0):∃A B Y,A<B/\B<I M/\rb F M A B=some Y/\eV (aY Y) (aY X):=by
 have j:a<I L:=J;obtain⟨p,v,q,w,c,rfl⟩:=adQ i.g j H aj;have O:a≠b:=J;obtain⟨hp,hv⟩:=c.ea.lt j;obtain⟨E,hw⟩:=c.eb.lt H;have T:=bY L;have x:=bY M;have f:=i.c3 j H c;have m:dw (I L) r s a<I M:=by rw[i.len];exact i.Bq j
 have n:dw (I L) r s b<I M:=by rw[i.len];exact i.Bq H
 have D:dw (I L) r s a≠dw (I L) r s b:=λe=>O (by rw[<-i.L6 j,<-i.L6 H,e]);have dj:=f.dj i.g' m n D;obtain⟨ag,ac⟩:=f.ea.lt m;obtain⟨ad,ab⟩:=f.eb.lt n;have hX:=PB i.g j H O aj;have Q:∀(Z:aW) (p q:Nat) (a b:Int),I (dY (dY Z p a) q b)=I Z:=λZ p q a b=>by rw[tf,tf]
 have base:DD L M s (dY (dY (an L) p (a8 L q).au) q (a8 L p).au) (dY (dY (an M) (s p) (a8 M (s q)).au) (s q) (a8 M (s p)).au):=by rw[(i.xe E).2.2.1,(i.xe hp).2.2.1];exact i.aeb (i.aeb i.ad9 hp _) E _
 have y:=i.aea (h:=[a,b]) (by rw[Q,T]) (by rw[Q,x]) base (λe u=>by simp only[c7,eD,or_false]at u;rcases u with rfl|rfl<;>assumption)
 have done:∀A B Y,A<B->B<I M->rb F M A B=some Y->Y=ef M (dY (dY (an M) (s p) (a8 M (s q)).au) (s q) (a8 M (s p)).au) ([a,b].map (dw (I L) r s))->∃A B Y,A<B/\B<I M/\rb F M A B=some Y/\eV (aY Y) (aY (ef L (dY (dY (an L) p (a8 L q).au) q (a8 L p).au) [a,b])):=λA B Y h1 z R N=>by refine⟨A,B,Y,h1,z,R,?_⟩;rw[<-N]at y;exact i.aft (by rw[s6,Q,T]) (by rw[N,s6,Q,x,i.len]) hX (PB i.g' J z J R) vX y
 by_cases aw:dw (I L) r s a<dw (I L) r s b
 .exact done _ _ _ aw n f.as rfl
 refine done _ _ _ J m (f.symm m n).as ?_;rw[ahv J J (Ne.symm (f.pq i.g' m n D))];refine VK (List.Perm.swap _ _ []) (by rw[Q,x]) (λe u=>?_) ?_
 .simp only[c7,eD,or_false]at u;rcases u with rfl|rfl<;>assumption
 simp only[iN,c7,eD,or_false,false_imp_iff,implies_true,and_true,forall_eq,List.Pairwise.nil];exact⟨dj.1.symm,dj.2.2.1.symm,dj.2.1.symm,dj.2.2.2.symm⟩
end
def Se{l L:cL}(h:∀x,x∈l↔x∈L):I (jY l)=I (jY L):=
 ((Lu (O3 l) (O3 L)).2 λx=>by rw[Dm,Dm,h]).length_eq
def Xj{f:Int->Int}{l:cL}(hf:∀x∈l,∀y∈l,f x=f y->x=y):I (jY (l.map f))=I (jY l):=by
 rw[show(jY l).length=I ((jY l).map f) by rw[cg]];refine((Lu (O3 _) (vO.2 ((O3 l).imp_of_mem λj H h e=>h (hf _ (Dm.1 j) _ (Dm.1 H) e)))).2 λx=>?_).length_eq
 grind [Dm]
def yu(F:Nat)(L:af)(h:aG)(E:Nat):Bool:=h.all (tk L)&&((I (jY (oJ L h))==6)&&((I (jY (rD L h))==3)&&(h.any (jx L · true)&&(h.any (jx L · false)&&oF F L 0 h E))))
section
variable {F:Nat} {L M:af} {r:Bool} {s t:Nat->Nat}
def af7{O:Nat}(m:∀e∈h,e<I L)(hp:h.Perm H)(u:h[0]?=some E)(j:H[0]?=some O)(v:yu F L h E):yu F L H O:=by
 have n:∀f:Nat->cL,I (jY (H.flatMap f))=I (jY (h.flatMap f)):=λf=>Se λx=>by grind
 grind [Fu,No,yu,oJ,rD]
def cK.bo(i:cK F L M r s t){e:Nat}(h:e<I L)(o:Bool):jx M (dw (I L) r s e) o=jx L e o/\tk M (dw (I L) r s e)=tk L e:=by
 obtain⟨k1,_,_,_,k2⟩:=i.xe h;obtain⟨n,_,_,_,m⟩:=i.xe (cT _ J);unfold jx tk;rcases i.ends h with⟨_,f,j⟩|⟨_,f,j⟩<;>rw[j,f,k1,k2,n,m]
 .exact⟨rfl,rfl⟩
 grind
def cK.tg(i:cK F L M r s t)(A:∀e∈h,e<I L)(h0:h[0]?=some E)(ab:yu F L h E):yu F M (h.map (dw (I L) r s)) (dw (I L) r s E):=by
 have Z:∀e∈h,nx L e<I L:=λe ab=>cT _ (by have:=A e ab;omega);unfold yu at ab |-;simp only[cP,c8]at ab |-;obtain⟨h1,h2,h3,h4,h5,h6⟩:=ab;have R:=λe H=>by have:=j4.1 h1 e H;unfold tk at this;rwa[cP,c8,c8]at this
 have O:∀o,h.any (jx L · o)->(h.map (dw (I L) r s)).any (jx M · o):=λo ab=>by obtain⟨e,H,Q⟩:=zr.1 ab;exact zr.2 ⟨_,ch.2 ⟨e,H,rfl⟩,by rw[(i.bo (A e H) o).1];exact Q⟩
 obtain⟨f,hf⟩:=WB (s:=s) (λu v p p' q q' hp fO X lG cp oj=>by have a1:=(bt.1 hp).1;have a2:=(bt.1 fO).1;rw[bY]at a1 a2;rw[<-gU hp]at cp |-;rw[<-gU fO]at oj |-;rw[<-gU X,<-gU lG];exact i.Eg a1 a2 (by unfold U.ak at cp;exact c8.1 cp) (by unfold U.ak at oj;exact c8.1 oj))
 have m:∀v,v<I L->(a8 L v).kind=2->(a8 M (s v)).id=f (a8 L v).id:=λv hv hk=>by obtain⟨p,hp⟩:=aP (by rw[bY];exact hv);obtain⟨q,X⟩:=aP (by rw[bY,i.len];exact i.lt v hv);have:=hf v p q hp X (by unfold U.ak;rw[<-gU hp];rw[show(dE L v).l.kind=2 from hk];rfl);rwa[<-gU hp,<-gU X]at this
 refine⟨?_,?_,?_,O true h4,O false h5,i.XE A h0 h6 (CW _) (by rw[fz,h0];rfl)⟩
 .rw[j4];intro x j;obtain⟨e,H,rfl⟩:=ch.1 j;rw[(i.bo (A e H) true).2];exact j4.1 h1 e H
 .have e1:I (jY (oJ M (h.map (dw (I L) r s))))=I (jY ((oJ L h).map λz=>((s z.toNat:Nat):Int))):=Se λx=>by
   unfold oJ;simp only[pK,ch,c7,eD,or_false];constructor
   .rintro ⟨_,⟨e,H,rfl⟩,j⟩
    rcases i.ends (A e H)with⟨_,N,B⟩|⟨_,N,B⟩<;>rw[B,N]at j<;>rcases j with rfl|rfl
    .exact⟨_,⟨e,H,.inl rfl⟩,by rw[js]⟩
    .exact⟨_,⟨e,H,.inr rfl⟩,by rw[js]⟩
    .exact⟨_,⟨e,H,.inr rfl⟩,by rw[js]⟩
    exact⟨_,⟨e,H,.inl rfl⟩,by rw[js]⟩
   rintro⟨_,⟨e,H,j⟩,rfl⟩
   refine⟨_,⟨e,H,rfl⟩,?_⟩;rcases i.ends (A e H)with⟨_,N,B⟩|⟨_,N,B⟩<;>rw[B,N]<;>rcases j with rfl|rfl<;>rw[js]
   .exact .inl rfl
   .exact .inr rfl
   .exact .inr rfl
   exact .inl rfl
  rw[e1,Xj,h2];intro x j y hy Y;have D:∀x∈oJ L h,∃n:Nat,n<I L/\x=(n:Int):=λx j=>by
   unfold oJ at j;obtain⟨e,H,j⟩:=pK.1 j;simp only[c7,eD,or_false]at j;rcases j with rfl|rfl
   .exact⟨e,A e H,rfl⟩
   exact⟨_,Z e H,rfl⟩
  obtain⟨a,T,rfl⟩:=D x j;obtain⟨b,Q,rfl⟩:=D y hy;rw[js,js]at Y;rw[i.inj T Q J]
 have e1:I (jY (rD M (h.map (dw (I L) r s))))=I (jY ((rD L h).map f)):=Se λx=>by
  unfold rD;simp only[pK,ch,c7,eD,or_false];have e2:∀x,(dE L x).l=a8 L x:=λ_=>rfl;simp only[λ_=>rfl,e2];constructor
  .rintro ⟨_,⟨e,H,rfl⟩,j⟩
   rcases i.ends (A e H)with⟨_,N,B⟩|⟨_,N,B⟩<;>rw[B,N,m e (A e H) (R e H).1,m _ (Z e H) (R e H).2]at j<;>rcases j with rfl|rfl
   .exact⟨_,⟨e,H,.inl rfl⟩,rfl⟩
   .exact⟨_,⟨e,H,.inr rfl⟩,rfl⟩
   .exact⟨_,⟨e,H,.inr rfl⟩,rfl⟩
   exact⟨_,⟨e,H,.inl rfl⟩,rfl⟩
  rintro⟨_,⟨e,H,j⟩,rfl⟩
  refine⟨_,⟨e,H,rfl⟩,?_⟩;rcases i.ends (A e H)with⟨_,N,B⟩|⟨_,N,B⟩<;>rw[B,N,m e (A e H) (R e H).1,m _ (Z e H) (R e H).2]<;>rcases j with rfl|rfl
  .exact .inl rfl
  .exact .inr rfl
  .exact .inr rfl
  exact .inl rfl
 rw[e1,Xj,h3];intro x j y hy Y;have D:∀x∈rD L h,∃v,v<I L/\(a8 L v).kind=2/\x=(a8 L v).id:=λx j=>by
  unfold rD at j;obtain⟨e,H,j⟩:=pK.1 j;simp only[c7,eD,or_false]at j;rcases j with rfl|rfl
  .exact⟨e,A e H,(R e H).1,rfl⟩
  exact⟨_,Z e H,(R e H).2,rfl⟩
 obtain⟨a,T,ka,rfl⟩:=D x j;obtain⟨b,Q,kb,rfl⟩:=D y hy;rw[<-m a T ka,<-m b Q kb]at Y;exact(i.Eg T Q ka kb).1 Y
def azl(h:x≠y):∃a b,a<b/\[x,y].Perm [a,b]:=by
 by_cases c:x<y
 .grind
 exact⟨y,x,J,List.Perm.swap _ _ _⟩
def acY{z:Nat}(m:x≠y)(j:x≠z)(h:y≠z):∃a b c,a<b/\b<c/\[x,y,z].Perm [a,b,c]:=by
 obtain⟨a,b,D,hp⟩:=azl h;have O:=hp.cons x;have H:a=y\/a=z:=by have:=hp.mem_iff.2 (show a∈[a,b] by simp);simpa using this
 have n:b=y\/b=z:=by have:=hp.mem_iff.2 (show b∈[a,b] by simp);simpa using this
 by_cases c1:x<a
 .grind
 by_cases f:x<b
 .exact⟨a,x,b,J,f,O.trans (List.Perm.swap _ _ _)⟩
 exact⟨a,b,x,D,J,O.trans ((List.Perm.swap _ _ _).trans ((List.Perm.swap _ _ _).cons a))⟩
def Zn(H:I h=3)(j:I (jY (oJ L h))=6):h.Pairwise (wB L):=by
 match h,H with
 |[a,b,c],_=>have f:=alE (by rw[j];rfl);have f:(([a,nx L a,b,nx L b,c,nx L c]:aG).map λi:Nat=>(i:Int)).Nodup:=f;simp only[eZ,m_,rR,c7,eD,or_false,A4,qK,and_true,not_false_eq_true]at f;unfold wB;simp;omega
def cK.k8(i:cK F L M r s t){a b c:Nat}(dp:a<b)(Cr:b<c)(v:c<I L)(h:sk F L a b c=some X)(R:dk (F:Int) (aY X)=0):∃A B f Y,A<B/\B<f/\f<I M/\sk F M A B f=some Y/\eV (aY Y) (aY X):=by
 have T:=OM i.g J J v h;unfold sk at h;split at h
 case isFalse=>cases h
 rename_i Q;cases h;have z:∀e∈[a,b,c],e<I L:=λe H=>by simp only[c7,eD,or_false]at H;rcases H with rfl|rfl|rfl<;>omega
 have j:=i.tg z rfl Q;have m:∀e∈[a,b,c].map (dw (I L) r s),e<I M:=λe H=>by obtain⟨x,n,rfl⟩:=ch.1 H;rw[i.len];exact i.Bq (z x n)
 have ne:∀x y,x<I L->y<I L->x≠y->dw (I L) r s x≠dw (I L) r s y:=λx y n hy h e=>h (by rw[<-i.L6 n,<-i.L6 hy,e]);obtain⟨A,B,f,Z,O,hp⟩:=acY (ne a b J J J) (ne a c J v J) (ne b c J v J);have hp:=hp;have D:=m f (hp.mem_iff.2 aE);have N:sk F M A B f=some (ef M (an M) [A,B,f]):=aD (af7 m hp rfl rfl j);refine⟨A,B,f,_,Z,O,D,N,?_⟩;have E:=OM i.g' J J D N;have u:=bY M;have dj:=Zn rfl (by unfold yu at j;simp only[cP,c8]at j;exact j.2.1)
 rw[<- (VK hp u m dj)]at E |-;exact i.aft (by rw[s6,bY]) (by rw[s6,u,i.len]) T E R (i.aea (bY L) u i.ad9 z)
end
abbrev dm(n f v:Nat):Nat:=(v+n-f)%n
def wz(h:f<n):dm n f v<n:=cT _ J
def abP(hf:f<n)(h:v<n):dm n f ((f+v)%n)=v:=by unfold dm;rw[uf (a:=f+v) J];split<;>(rw[uf J];split<;>omega)
def SD(hf:f<n)(h:v<n):(f+dm n f v)%n=v:=by rw[Dj,show f+(v+n-f)=v+n by omega,lg,eJ h]
def abK(hf:f<n)(h:v<n):dm n f ((v+1)%n)=(dm n f v+1)%n:=by
 unfold dm;rw[tU,uf (a:=v+1) J];split
 .congr 1;omega
 rw[show v+n-f+1=(v+1-n+n-f)+n by omega,lg]
theorem BY(hf:f<n)(H:u<n)(h:v<n)(e:dm n f u=dm n f v):u=v:=by rw[<-SD hf H,<-SD hf h,e]
structure tv (F:Nat) (P:aW) (X:af) (f:Nat):Prop where
 g:bj F X
 len:I X=I P
 hf:f<I P
 at_:∀v p,P[v]?=some p->X[dm (I P) f v]?=some p.l
 dn:∀v p,P[v]?=some p->p.l.ay->dn X (dm (I P) f v)=p.d
def PL{F:Nat}{P:aW}(fH:gO F P)(j:dk (F:Int) (aY P)=0):∃f,tv F P (aY P) f:=by
 obtain⟨f,hf,A,al,_,h⟩:=Hn fH;obtain⟨G,E,g⟩:=Ci j (λe=>by rw[e]at al;simp at al;omega);have:F=G:=J;subst this;refine⟨f,g,al,hf,λv p hp=>?_,λv p hp D=>?_⟩
 .rw[A _ (wz hf),SD hf ((bt.1 hp).1),hp];rfl
 exact(h _ p (wz hf) (by rw[SD hf ((bt.1 hp).1)];exact hp) D).symm
section
variable {F:Nat} {L X:af} {P:aW} {f:Nat}
def tv.back(S:tv F P X f)(g:bj F L)(O:I P=I L)(z:gO F Q)(D:I Q=I L)(h:∀v,v<I L->Q[dm (I L) f v]?=(an L)[v]?):eV (aY Q) L:=by
 obtain⟨A,n,B,N,⟨R,m,T,E⟩,_⟩:=Hn z;have hf:=S.hf;rw[O]at hf;rw[D]at n B N;have j:0<I L:=J;have get:∀x,x<I L->Q[x]?=(an L)[(f+x)%I L]? :=λx M=>by rw[<-h _ (cT _ j),abP hf M]
 have y:(f+A)%I L<I L:=cT _ j;have e:aY Q=eC L ((f+A)%I L):=by
  apply pk;intro k;by_cases u:k<I L
  .rw[B k u,get _ (cT _ j),Gf y u,Dj,<-AH,tU];obtain⟨l,hl⟩:=aP (cT _ j);rw[fX hl,hl];rfl
  rw[lS J,lS (by rw[rC];omega)]
 rw[e];refine KE J g.even ?_;rw[get A n]at m;obtain⟨l,hl⟩:=aP y;rw[fX hl]at m;have H:c9 L ((f+A)%I L):=by rw[<-kA m]at E;exact E
 unfold c9 at H;rw[hl]at H;have H:=H;rw[cP]at H;have:=H.2;unfold Go.Abs.dn at this;exact c8.1 this
def mP(n f d:Nat):Nat:=if d%2=0 then 2*dm n f (d/2)+1 else 2*dm n f (d/2)
def HE(n f d:Nat):mP n f d/2=dm n f (d/2):=by unfold mP;split<;>omega
def akL{d:Nat}(hf:f<n)(H:d<2*n):mP n f d=dS n (dm n f (bU n d)) (!cD d):=by
 unfold mP dS bU cD;rcases qL d with h|h
 .simp[h,if_true,sv,Ac,fE,if_false];rw[abK hf J,w8 (wz hf)]
 grind
def aj6{d:Nat}(hf:f<n)(H:d<2*n):mP n f d=g_ n (dm n f (bP n d)) (!cD d):=by
 unfold mP g_ bP cD;rcases qL d with h|h
 .grind
 simp[h,show _=false from rfl,E5,if_true,N7,if_false];rw[abK hf J,w8 (wz hf)]
def abj{d:Nat}(hf:f<n):mP n f d<2*n:=by have:=wz (v:=d/2) hf;unfold mP;split<;>omega
def tv.ak6(S:tv F P X f)(g:bj F L)(y:I P=I L){d:Nat}(h:d<2*I L){l m:U}{e E:Bool}(hl:L[bU (I L) d]?=some l)(j:l.ak)(z:P[bP (I L) d]?=some ⟨l,e⟩)(v:P[bU (I L) (aU L d)]?=some ⟨m,E⟩)(B:m.ak)(H:m.id=l.id)(M:bP (I L) d≠bU (I L) (aU L d)):aU X (mP (I L) f d)=mP (I L) f (aU L d):=by
 have hf:=S.hf;have u:=S.len;have A:=S.at_ _ _ z;have n:=S.at_ _ _ v;rw[y]at hf u A n;obtain⟨k1,k2,k3,_⟩:=DX g h hl j;rw[aj6 hf h,akL hf k1];have x:=w9 A j (!cD d);rw[u,uL S.g A n j B H.symm λD=>M (BY hf (Iq g h) (yH g k1) D)]at x;have N:(l.over==(l.sign==1))=(cD d==cD _):=k3
 grind [cD]
def aij(g:bj F X){p q r:Nat}(pq:p≠q)(pr:p≠r)(R:q≠r)(z:p<aT X)(j:q<aT X)(Z:r<aT X)(N:aU X p=q)(A:aU X q=r)(D:aU X r=p){pl:Nat}
  (L:I ([p,q,r].filter λx=>decide (x<2*I X))=I h) (E:ua F X p+ua F X q+ua F X r=pl)
  (O:∀e∈h,(2*e∈([p,q,r].filter λx=>decide (x<2*I X))/\2*e+1∉([p,q,r].filter λx=>decide (x<2*I X)))\/(2*e∉([p,q,r].filter λx=>decide (x<2*I X))/\2*e+1∈([p,q,r].filter λx=>decide (x<2*I X)))):sh F X pl h:=by
 have inj:=(mE g.ok).inj;obtain⟨w,H,B⟩:=RS z;have f:=uY (mE g.ok) H B;rw[N]at f;have n:=uY (mE g.ok) H f;rw[A]at n;obtain⟨T,_⟩:=Nt g H;have hp:w.Perm [p,q,r]:=(Lu T (by simp[pq,pr,R])).2 λab=>by
  simp only[c7,eD,or_false];constructor
  .intro M;refine(Lf g H (Q:=λt=>t=p\/t=q\/t=r) (λt u=>⟨?_,?_⟩) B M).1 (.inl rfl)
   .rintro (m|m|m)
    .exact .inr (.inr (inj _ _ u Z (m.trans D.symm)))
    .exact .inl (inj _ _ u z (m.trans N.symm))
    exact .inr (.inl (inj _ _ u j (m.trans A.symm)))
   rintro(m|m|m)<;>rw[m]
   .exact .inr (.inl N)
   .exact .inr (.inr A)
   exact .inl D
  rintro(rfl|rfl|rfl)<;>assumption
 unfold sh;rw[zr];refine⟨kY F X w,ch.2 ⟨w,H,rfl⟩,?_⟩;unfold ET;simp only[cP,c8,j4];rw[zM,Z8];have hf:=hp.filter λx=>decide (x<2*I X);refine⟨hf.length_eq.trans L,?_,λe Y=>?_⟩
 .rw[(hp.map _).sum_nat,<-E];simp only[eZ,m_,List.sum_cons,List.sum_nil];omega
 rw[decide_eq_decide.2 hf.mem_iff,decide_eq_decide.2 hf.mem_iff];rcases O e Y with⟨v,y⟩|⟨v,y⟩
 .rw[tV v,vg y];rfl
 rw[vg v,tV y];rfl
end
section
variable {F:Nat} {L X:af} {P:aW} {f:Nat}
def Ol:∀ {h:aG}{Z:aW},I Z=I L->(∀e∈h,e<I L)->h.Pairwise (wB L)->(∀e∈h,e≠nx L e)->(∀e∈h,(ef L Z h)[e]?=Z[nx L e]? /\(ef L Z h)[nx L e]?=Z[e]?)/\ ∀x,(∀e∈h,x≠e/\x≠nx L e)->(ef L Z h)[x]?=Z[x]? :=by
 intro h
 induction h with
 |nil=>intro Z _ _ _ _;exact⟨λe j=>(nomatch j),λx _=>rfl⟩
 |cons e h A=>
  intro Z m j u n;obtain⟨D,v⟩:=iN.1 u;obtain⟨i1,i2⟩:=A (Z:=gX L Z e) (by rw[ub,m]) (λx z=>j x (by simp[z])) v (λx z=>n x (by simp[z]));have gt:=λx=>At m (j e aE) x;have E:=n e aE;refine⟨λx H=>?_,λx H=>?_⟩
  .show(ef L (gX L Z e) h)[x]?=_/\(ef L (gX L Z e) h)[nx L x]?=_;rcases c7.1 H with rfl|H
   .rw[i2 x λy f=>⟨(D y f).1,(D y f).2.1⟩,i2 (nx L x) λy f=>⟨(D y f).2.2.1,(D y f).2.2.2⟩,gt,gt,aC E,aD rfl,aD rfl];exact⟨rfl,rfl⟩
   obtain⟨k1,k2⟩:=i1 x H;obtain⟨B,M,F,Q⟩:=D x H;rw[k1,k2,gt,gt,aC (Ne.symm Q),aC (Ne.symm M),aC (Ne.symm F),aC (Ne.symm B)];exact⟨rfl,rfl⟩
  show(ef L (gX L Z e) h)[x]?=_;rw[i2 x λy f=>H y (by simp[f]),gt,aC (H e aE).2,aC (H e aE).1]
def azb{Z:aW}(j:I Z=I L)(f:∀e∈h,e<I L)(H:h.Pairwise (wB L))(m:∀e∈h,e≠nx L e):ef L (ef L Z h) h=Z:=by
 obtain _:=Ol j f H m;obtain _:=Ol (Z:=ef L Z h) (by rw[s6,j]) f H m;apply pk;intro x;rcases Classical.em (∃e∈h,x=e\/x=nx L e)with⟨e,u,n⟩|n
 .rcases n with rfl|rfl
  .grind
  grind
 grind
def tv.nx(S:tv F P X f)(h:I P=I L)(H:v<I L):Go.Abs.nx X (dm (I L) f v)=dm (I L) f (Go.Abs.nx L v):=by have hf:=S.hf;rw[h]at hf;show _%I X=_;rw[S.len,h,<-abK hf H]
def tv.sw(S:tv F P X f)(u:I P=I L):∀ {h:aG}{Y Z:aW},I Y=I L->I Z=I L->(∀e∈h,e<I L)->(∀v,v<I L->Y[dm (I L) f v]?=Z[v]?)->∀v,v<I L->(ef X Y (h.map (dm (I L) f)))[dm (I L) f v]?=(ef L Z h)[v]? :=by
 have hf:=S.hf;have H:=S.len;rw[u]at hf H;intro h
 induction h with
 |nil=>intro Y Z _ _ _ z;exact z
 |cons e h E=>
  intro Y Z y j n z;have dR:=n e aE;have m:Go.Abs.nx L e<I L:=cT _ J;refine E (by rw[ub,y]) (by rw[ub,j]) (λx B=>n x (by simp[B])) λv D=>?_;rw[At (by rw[H,y]) (by rw[H];exact wz hf),At j dR,S.nx u dR];by_cases c1:v=Go.Abs.nx L e
  .subst c1;rw[aD rfl,aD rfl,z _ dR]
  rw[aC c1,aC λk=>c1 (BY hf D m k)];by_cases A:v=e
  .subst A;rw[aD rfl,aD rfl,z _ m]
  grind [BY]
def tv.tS(S:tv F P X f)(H:I P=I L)(m:∀p∈P,p.l.ay=false->p.d=false)(n:v<I L):(an X)[dm (I L) f v]?=P[v]? :=by
 obtain⟨p,hp⟩:=aP (h:=P) (k:=v) J;have h:=S.at_ v p hp;have j:=S.dn v p hp;rw[H]at h j;rw[fX h,hp];have:c9 X (dm (I L) f v)=p.d:=by
  unfold c9
  grind
 rw[this]
def adF(g:bj F L){a b c:Nat}(ha:a<I L)(hb:b<I L)(hc:c<I L)(h:yu F L [a,b,c] a):[a,b,c].Pairwise (wB L)/\(∀e∈[a,b,c],(a8 L e).kind=2/\(a8 L (nx L e)).kind=2)/\ ∃O A B,O<2*I L/\A<2*I L/\B<2*I L/\aU L O=A/\aU L A=B/\aU L B=O/\((O/2=a/\A/2=b/\B/2=c)\/(O/2=a/\A/2=c/\B/2=b)):=by
 unfold yu at h;simp only[cP,c8]at h;obtain⟨eS,h6,_,_,_,Ak⟩:=h;have dj:=Zn rfl h6;have kk:=λe X=>by have H:=j4.1 eS e X;unfold tk at H;rwa[cP,c8,c8]at H
 refine⟨dj,kk,?_⟩;obtain⟨j1,j2⟩:=iN.1 dj;have Z:=j1 b aE;have Y:=j1 c aE;have Q:=(iN.1 j2).1 c aE;have hn:0<I L:=J;obtain⟨w,hw,_,m,hE⟩:=QA g ha Ak;obtain⟨u,vh,rL,M⟩:=hE a aE;obtain⟨v,wA,N,R⟩:=hE b aE;obtain⟨n,G9,E,T⟩:=hE c aE;have hN:∀d,d<2*I L->d<aT L:=λd hd=>by unfold aT;omega
 have three:∀d,d∈w->d<2*I L->d=u\/d=v\/d=n:=λd H f=>by
  have j:∀d,d∈w->d<2*I L->d∈w.filter λx=>decide (x<2*I L):=λd H f=>r4.2 ⟨H,by simpa using f⟩;have q1:=j u vh rL;have q2:=j v wA N;have q3:=j n G9 E;have q4:=j d H f;generalize w.filter (λx=>decide (x<2*I L))=D at m q1 q2 q3 q4
  match D,m with
  |[x,y,z],_=>simp only[c7,eD,or_false]at q1 q2 q3 q4;have:=Z.1;have:=Y.1;have:=Q.1;omega
 have JF:∀d,d<2*I L->d/2∈[a,b,c]->∃l,L[bU (I L) d]?=some l/\l.ak:=λd hd X=>by
  obtain⟨H,f⟩:=kk _ X;obtain⟨l,hl⟩:=aP (yH g hd);refine⟨l,hl,?_⟩;have:(a8 L (bU (I L) d)).kind=2:=by
   unfold bU;split
   .exact f
   exact H
  rw[iP hl]at this;unfold U.ak;rw[this];rfl
 have step:∀d,d∈w->d<2*I L->d/2∈[a,b,c]->aU L d=u\/aU L d=v\/aU L d=n:=λd hd hl X=>by obtain⟨l,H,f⟩:=JF d hl X;exact three _ (uY (mE (g.ok)) hw hd) (DX g hl H f).1
 rcases akb g hw vh wA G9 (λe=>Z.1 (by rw[<-M,<-R,e])) (λe=>Y.1 (by rw[<-M,<-T,e])) (λe=>Q.1 (by rw[<-R,<-T,e])) (hN _ rL) (hN _ N) (hN _ E) (step u vh rL (by rw[M];simp)) (step v wA N (by rw[R];simp)) (step n G9 E (by rw[T];simp))with⟨H,f,h3⟩|⟨H,f,h3⟩
 .exact⟨u,v,n,rL,N,E,H,f,h3,.inl ⟨M,R,T⟩⟩
 exact⟨u,n,v,rL,E,N,H,f,h3,.inr ⟨M,T,R⟩⟩
theorem qH{p:aN}(h:p∈an L)(hp:p.l.ay=false):p.d=false:=by
 obtain⟨v,H⟩:=fK h;have hl:=(bt.1 H).1;rw[bY]at hl;obtain⟨l,f⟩:=aP hl;rw[fX f]at H
 grind [c9]
def ac5{p:aN}:∀ {h:aG}{Z:aW},I Z=I L->(∀e∈h,e<I L)->p∈ef L Z h->p∈Z:=by
 intro h
 induction h with
 |nil=>intro Z _ _ H;exact H
 |cons e h m=>
  intro Z j f H;obtain _:=fK (m (by rw[ub,j]) (λx n=>f x (by simp[n])) H)
  grind [At]
def aCq(g:bj F L){a b c:Nat}(ha:a<I L)(hb:b<I L)(hc:c<I L)(ac:yu F L [a,b,c] a)(S:tv F (ef L (an L) [a,b,c]) X f):sh F X 0 [dm (I L) f a,dm (I L) f b,dm (I L) f c]:=by
 obtain⟨dj,kk,n,D,j,Y,Z,R,n1,n2,n3,ab⟩:=adF g ha hb hc ac;have aX:=bY L;have fi:∀e∈[a,b,c],e<I L:=λe H=>by simp only[c7,eD,or_false]at H;rcases H with rfl|rfl|rfl<;>assumption
 have hP:I (ef L (an L) [a,b,c])=I L:=by rw[s6,aX]
 have hf:=S.hf;have hX:=S.len;rw[hP]at hf hX;obtain⟨s1,_⟩:=Ol aX fi dj λe H=>C4 g (fi e H);have ends:∀d,d/2∈[a,b,c]->(ef L (an L) [a,b,c])[bP (I L) d]?=(an L)[bU (I L) d]? /\(ef L (an L) [a,b,c])[bU (I L) d]?=(an L)[bP (I L) d]? :=λd E=>by
  obtain⟨k1,k2⟩:=s1 _ E;unfold bP bU;split
  .exact⟨k1,k2⟩
  exact⟨k2,k1⟩
 have y:∀ {e e':Nat},wB L e e'->wB L e' e:=λac=>⟨ac.1.symm,ac.2.2.1.symm,ac.2.1.symm,ac.2.2.2.symm⟩;obtain⟨j1,j2⟩:=iN.1 dj;have B:=j1 b aE;have A:=j1 c aE;have z:=(iN.1 j2).1 c aE;have step:∀d u,d<2*I L->u<2*I L->aU L d=u->d/2∈[a,b,c]->u/2∈[a,b,c]->wB L (d/2) (u/2)->aU X (mP (I L) f d)=mP (I L) f u:=by
  intro d u E ye e M T hj;subst e;obtain⟨q1,q2⟩:=kk _ M;obtain⟨l,hl⟩:=aP (yH g E);obtain⟨m,hm⟩:=aP (Iq g ye);have CF:l.ak:=by
   have:(a8 L (bU (I L) d)).kind=2:=by
    unfold bU;split
    .exact q2
    exact q1
   rw[iP hl]at this;unfold U.ak;rw[this];rfl
  obtain⟨_,k2,_⟩:=DX g E hl CF;obtain⟨_,mc,mi⟩:=xD g.ok hl CF hm k2.symm;refine S.ak6 g hP E hl CF (e:=c9 L (bU (I L) d)) (E:=c9 L (bP (I L) (aU L d))) ?_ ?_ mc mi ?_
  .rw[(ends d M).1,fX hl]
  .rw[(ends _ T).2,fX hm]
  exact(Ss hj).2.1
 have v:∀d,mP (I L) f d<2*I X:=λd=>by rw[hX];exact abj hf
 have hN:∀d,mP (I L) f d<aT X:=λd=>by have:=v d;unfold aT;omega
 have w0:∀d,ua F X (mP (I L) f d)=0:=λd=>aD (v d);have fin:∀h:aG,n/2∈[a,b,c]->D/2∈[a,b,c]->j/2∈[a,b,c]->wB L (n/2) (D/2)->wB L (D/2) (j/2)->wB L (n/2) (j/2)->sh F X 0 [dm (I L) f (n/2),dm (I L) f (D/2),dm (I L) f (j/2)]:=by
  intro h M T m3 O N Q;have ne:∀d u:Nat,d<2*I L->u<2*I L->d/2≠u/2->mP (I L) f d/2≠mP (I L) f u/2:=λd u h1 h2 h3 e=>by rw[HE,HE]at e;exact h3 (BY hf J J e)
  have Jj:=ne n D Y Z O.1;have ag:=ne D j Z R N.1;have ad:=ne n j Y R Q.1;rw[<-HE (I L) f n,<-HE (I L) f D,<-HE (I L) f j];have t1:=step n D Y Z n1 M T O;have t2:=step D j Z R n2 T m3 N;have t3:=step j n R Y n3 m3 M (y Q);have x1:=v n;have x2:=v D;have x3:=v j;have y1:=w0 n;have y2:=w0 D;have y3:=w0 j;have z1:=hN n;have z2:=hN D;have z3:=hN j;generalize mP (I L) f n=p at*;generalize mP (I L) f D=q at*;generalize mP (I L) f j=r at*;have zj:([p,q,r].filter λx=>decide (x<2*I X))=[p,q,r]:=aca.2 λx hx=>by simp only[c7,eD,or_false]at hx;rw[iJ];rcases hx with rfl|rfl|rfl<;>assumption
  refine aij S.g J J J z1 z2 z3 t1 t2 t3 (by rw[zj];rfl) (by rw[y1,y2,y3]) λe H=>?_;rw[zj];simp only[c7,eD,or_false]at H |-;omega
 rcases ab with⟨rfl,rfl,rfl⟩|⟨rfl,rfl,rfl⟩
 .exact fin [] aE aE aE B z A
 have:=fin [] aE aE aE A (y z) B;rwa[No (List.Perm.cons _ (List.Perm.swap _ _ []))]at this
end
section
variable {F:Nat} {L X:af} {P:aW} {f:Nat}
def tv.a8(S:tv F P X f)(j:I P=I L)(m:v<I L)(H:u<I L)(h:P[v]?=(an L)[u]?):Go.Abs.a8 X (dm (I L) f v)=Go.Abs.a8 L u:=by obtain⟨l,hl⟩:=aP H;rw[fX hl]at h;have:=S.at_ v _ h;rw[j]at this;rw[iP this,iP hl]
def ayh(g:bj F L){a b c:Nat}(dp:a<b)(Cr:b<c)(T:c<I L){P:aW}(h:sk F L a b c=some P)(vX:dk (F:Int) (aY P)=0):∃O M D Q,O<M/\M<D/\D<I (aY P)/\sk F (aY P) O M D=some Q/\eV (aY Q) L:=by
 have fH:=OM g J J T h;unfold sk at h;split at h
 case isFalse=>cases h
 rename_i Y;cases h;have Z:a<I L:=J;have N:b<I L:=J;have Y:yu F L [a,b,c] a:=Y;obtain⟨f,S⟩:=PL fH vX;have aX:=bY L;have m:I (ef L (an L) [a,b,c])=I L:=by rw[s6,aX]
 obtain⟨dj,kk,_⟩:=adF g Z N T Y;have B:∀e∈[a,b,c],e<I L:=λe H=>by simp only[c7,eD,or_false]at H;rcases H with rfl|rfl|rfl<;>assumption
 have ac:=aCq g Z N T Y S;have ss:=azb aX B dj λe H=>C4 g (B e H);obtain⟨s1,_⟩:=Ol aX B dj λe H=>C4 g (B e H);have vG:∀p∈ef L (an L) [a,b,c],p.l.ay=false->p.d=false:=λp hp h=>qH (ac5 aX B hp) h;generalize aY (ef L (an L) [a,b,c])=X at S vX ac |-;generalize ef L (an L) [a,b,c]=P at*;have hf:=S.hf;have hX:=S.len;rw[m]at hf hX;have yn:∀e∈[a,b,c],nx L e<I L:=λe _=>cT _ J;have q1:∀e∈[a,b,c],a8 X (dm (I L) f e)=a8 L (nx L e)/\a8 X (nx X (dm (I L) f e))=a8 L e:=λe H=>by obtain⟨k1,k2⟩:=s1 e H;rw[S.nx m (B e H)];exact⟨S.a8 m (B e H) (yn e H) k1,S.a8 m (yn e H) (B e H) k2⟩
 have ad:∀e∈[a,b,c],dm (I L) f e<I X:=λe _=>by rw[hX];exact wz hf
 have Jz:∀e∈[a,b,c],∀o,jx X (dm (I L) f e) o=jx L e o/\tk X (dm (I L) f e)=tk L e:=λe H o=>by
  obtain⟨k1,k2⟩:=q1 e H;unfold jx tk;have R:∀x,(dE X x).l=a8 X x:=λ_=>rfl;have e2:∀x,(dE L x).l=a8 L x:=λ_=>rfl;rw[R,R,e2,e2,k1,k2];constructor
  .cases ((a8 L e).kind==2)<;>cases((a8 L (nx L e)).kind==2)<;>cases((a8 L e).over==o)<;>cases((a8 L (nx L e)).over==o)<;>rfl
  exact Bool.and_comm _ _
 have Ga:yu F X ([a,b,c].map (dm (I L) f)) (dm (I L) f a):=by
  have vJ:=Y;unfold yu at vJ |-;simp only[cP,c8]at vJ |-;obtain⟨h1,h2,h3,h4,h5,h6⟩:=vJ;have E:∀o,[a,b,c].any (jx L · o)->([a,b,c].map (dm (I L) f)).any (jx X · o):=λo h=>by obtain⟨e,A,N⟩:=zr.1 h;exact zr.2 ⟨_,ch.2 ⟨e,A,rfl⟩,by rw[(Jz e A o).1];exact N⟩
  have na:=S.nx m Z;have nb:=S.nx m N;have nc:=S.nx m T;refine⟨?_,?_,?_,E _ h4,E _ h5,?_⟩
  .rw[j4]at h1 |-;intro x j;obtain⟨e,A,rfl⟩:=ch.1 j;rw[(Jz e A true).2];exact h1 e A
  .let q:Int->Int:=λz=>((dm (I L) f z.toNat:Nat):Int)
   have R:oJ X ([a,b,c].map (dm (I L) f))=(oJ L [a,b,c]).map q:=by show [((dm (I L) f a:Nat):Int),(nx X (dm (I L) f a):Int),((dm (I L) f b:Nat):Int),(nx X (dm (I L) f b):Int),((dm (I L) f c:Nat):Int),(nx X (dm (I L) f c):Int)]=_;rw[na,nb,nc];rfl
   rw[R,Xj,h2];intro x j y hy iO;have ab:∀x∈oJ L [a,b,c],∃n:Nat,n<I L/\x=(n:Int):=λx j=>by
    unfold oJ at j;obtain⟨e,A,j⟩:=pK.1 j;simp only[c7,eD,or_false]at j;rcases j with rfl|rfl
    .exact⟨e,B e A,rfl⟩
    exact⟨_,yn e A,rfl⟩
   obtain⟨u,hu,rfl⟩:=ab x j;obtain⟨v,hv,rfl⟩:=ab y hy;have iO:((dm (I L) f u:Nat):Int)=((dm (I L) f v:Nat):Int):=iO;rw[BY hf hu hv J]
  .rw[<-h3];refine Se λx=>?_;unfold rD;simp only[pK,ch,c7,eD,or_false];have R:∀x,(dE X x).l=a8 X x:=λ_=>rfl;have e2:∀x,(dE L x).l=a8 L x:=λ_=>rfl;simp only[R,e2];have A:∀e,(e=a\/e=b\/e=c)->e∈[a,b,c]:=λe h=>by simpa using h
   constructor
   .rintro ⟨_,⟨e,H,rfl⟩,j⟩
    obtain⟨k1,k2⟩:=q1 e (A e H);rw[k1,k2]at j;exact⟨e,H,j.symm⟩
   rintro⟨e,H,j⟩
   obtain⟨k1,k2⟩:=q1 e (A e H);refine⟨_,⟨e,H,rfl⟩,?_⟩;rw[k1,k2];exact j.symm
  rw[Fu rfl (ad a aE)];exact ac
 have JH:∀e∈[a,b,c].map (dm (I L) f),e<I X:=λe H=>by obtain⟨x,j,rfl⟩:=ch.1 H;exact ad x j
 have ne:∀x y,x<I L->y<I L->x≠y->dm (I L) f x≠dm (I L) f y:=λx y j hy h e=>h (BY hf j hy e);obtain⟨O,M,D,h1,h2,hp⟩:=acY (ne a b Z N J) (ne a c Z T J) (ne b c N T J);have hp:([a,b,c].map (dm (I L) f)).Perm [O,M,D]:=hp;have vJ:=af7 JH hp rfl rfl Ga;have mT:=JH D (hp.mem_iff.2 aE);have hY:sk F X O M D=some (ef X (an X) [O,M,D]):=aD vJ;refine⟨O,M,D,_,h1,h2,mT,hY,?_⟩;have cY:=OM S.g J J mT hY;have LY:=Zn rfl (by unfold yu at Ga;simp only[cP,c8]at Ga;exact Ga.2.1)
 have wN:=bY X;have wZ:=VK hp wN JH LY;rw[<-wZ]at cY |-;refine S.back g m cY (by rw[s6,wN,hX]) λv hv=>?_;rw[S.sw m (by rw[wN,hX]) m B (λv hv=>S.tS m vG hv) v hv,ss]
end
def N_{L:af}{l:U}(h:L[v]?=some l)(hp:l.ay):c9 L v=dn L v:=by grind [c9]
section
variable {F:Nat} {L X:af} {P:aW} {f:Nat}
def tv.aq(S:tv F P X f)(q:U->Bool):Go.Abs.aq q X=Go.Abs.aq q (P.map aN.l):=by
 have hf:=S.hf;have H:=S.len;have e:X=eC (P.map aN.l) f:=by
  apply pk;intro k;have hl:I (P.map aN.l)=I P:=cg ..;by_cases h:k<I P
  .have j:(f+k)%I P<I P:=cT _ J;obtain⟨p,hp⟩:=aP j;have:=S.at_ _ p hp;rw[abP hf h]at this;rw[this,Gf J J,hl,fz,hp];rfl
  rw[lS J,lS (by rw[rC];omega)]
 rw[e,LK]
def aio(g:bj F L)(S:tv F P X f)(hP:I P=I L)(uH:∀q:U->Bool,(∀(l:U) (r:Int),q {l with au:=r}=q l)->Go.Abs.aq q (P.map aN.l)=Go.Abs.aq q L)
  {d p v q w:Nat} (hd:d<2*I L) (ye:aU L d<2*I L) (t1:bP (I L) d=p) (t2:bU (I L) d=v) (t3:bP (I L) (aU L d)=w) (t4:bU (I L) (aU L d)=q) (zq:p≠q) (DM:d/2≠aU L d/2)
  {O:U} (pP:L[p]?=some z) (kr:L[v]?=some O) (yl:L[q]?=some j) (wW:L[w]?=some D) (N:z.ay) (cv:O.ak) (pq:j.ay) (cw:D.ak) (ab:D.id=O.id)
  {e1 e2:Bool} (P1:P[p]?=some ⟨O,e1⟩) (P2:P[q]?=some ⟨D,e2⟩) (P3:P[v]?=some ⟨{z with au:=j.au},c9 L p⟩) (P4:P[w]?=some ⟨{j with au:=z.au},c9 L q⟩)
  (E:z.gate=j.gate) (ac:(dn L q=cD (aU L d)/\z.au=j.au+1/\cD d= !dn L p)\/(dn L q=(!cD (aU L d))/\j.au=z.au+1/\cD d=dn L p)):sh F X 1 [dm (I L) f (d/2),dm (I L) f (aU L d/2)]:=by
 have hf:=S.hf;have A:=S.len;rw[hP]at hf A;have Q:=S.at_ _ _ P3;have x4:=S.at_ _ _ P4;have y:=S.dn _ _ P3 N;have Y:=S.dn _ _ P4 pq;rw[hP]at Q x4 y Y;rw[N_ pP N]at y;rw[N_ yl pq]at Y;have y:=y;have Y:dn X (dm (I L) f w)=dn L q:=Y;have kE:=g.ok.ax.fA z (a7 pP) N;have gQ:=g.ok.ax.fA j (a7 yl) pq;have Qf:∀k,dr X k=dr L k:=λk=>by unfold dr;congr 1;refine lq λam _=>?_;show Go.Abs.aq (jq am) X=Go.Abs.aq (jq am) L;rw[S.aq,uH _ λl r=>rfl]
 have jt:I (aA X)=I (aA L):=by rw[Ba,Ba];show Go.Abs.aq U.ay X=Go.Abs.aq U.ay L;rw[S.aq,uH _ λl r=>rfl]
 have ad:dQ X {z with au:=j.au}=dQ L j:=by unfold dQ;show dr X z.gate.toNat+j.au.toNat-1=_;rw[Qf,E]
 have ag:dQ X {j with au:=z.au}=dQ L z:=by unfold dQ;show dr X j.gate.toNat+z.au.toNat-1=_;rw[Qf,E]
 have a3:=IK S.g.ok.ax Q N;have T:=IK S.g.ok.ax x4 pq;have i4:=Gn S.g.ok.ax x4 pq;rw[ad]at a3;rw[ag]at T i4;have k3:=(bt.1 a3).1;have k4:=(bt.1 T).1;have B:(aA X).getD (dQ L j) 0=dm (I L) f v:=by rw[dD,a3];rfl
 have Z:(aA X).getD (dQ L z) 0=dm (I L) f w:=by rw[dD,T];rfl
 have n1:=S.ak6 g hP hd (by rw[t2];exact kr) cv (by rw[t1];exact P1) (by rw[t4];exact P2) cw ab (by rw[t1,t4];exact zq);have n:=Cn x4 pq (!cD (aU L d));rw[A,Y,i4,<-t3,<-aj6 hf ye]at n;have R:=akL hf hd;rw[t2]at R;have hD:=abj (d:=d) hf;have aj:=abj (d:=aU L d) hf;have H:=HE (I L) f d;have M:=HE (I L) f (aU L d);have aO:dm (I L) f (d/2)≠dm (I L) f (aU L d/2):=λe=>DM (BY hf J J e);obtain⟨l1,l2,l3,l4⟩:=kE;obtain⟨m1,m2,m3,m4⟩:=gQ;have h:∀x,2*I L<=x->x<aT X->aU X (mP (I L) f (aU L d))=x->aU X x=mP (I L) f d->ua F X x=1->sh F X 1 [dm (I L) f (d/2),dm (I L) f (aU L d/2)]:=by
  intro x pB Ay q1 q2 q3;rw[<-H,<-M];rw[<-H,<-M]at aO;have z1:ua F X (mP (I L) f d)=0:=aD J;have z2:ua F X (mP (I L) f (aU L d))=0:=aD J;have jJ:mP (I L) f d<aT X:=by unfold aT;omega
  have lE:mP (I L) f (aU L d)<aT X:=by unfold aT;omega
  generalize mP (I L) f d=r at*;generalize mP (I L) f (aU L d)=t at*;have zj:([r,t,x].filter λx=>decide (x<2*I X))=[r,t]:=by grind
  refine aij S.g J J J jJ lE Ay n1 q1 q2 (by rw[zj];rfl) (by rw[z1,z2,q3]) λe he=>?_;rw[zj];simp only[c7,eD,or_false]at he |-;omega
 have wt:∀k x u u',k+1<I (aA X)->(x=2*I L+2*k\/x=2*I L+2*k+1)->(aA X).getD k 0=u->(aA X).getD (k+1) 0=u'->se X u=se X u'->ua F X x=1:=by intro k x u u' m hx hu MN he;unfold ua;rw[aC J,A,show(x-2*I L)/2=k by omega];unfold mL;simp only;rw[aD m,Bh,eJ m,hu,MN,he];omega
 have gg:se X (dm (I L) f v)=se X (dm (I L) f w):=by rw[vU Q,vU x4];show z.gate.toNat=j.gate.toNat;rw[E]
 rcases ac with⟨c1,c2,c3⟩|⟨c1,c2,c3⟩
 .have m:dQ L z=dQ L j+1:=by
   unfold dQ;rw[E];omega
  rw[m]at Z k4 n;rw[c1,aC (by cases cD (aU L d)<;>decide),show dQ L j+1+I (aA X)-1=dQ L j+I (aA X) by omega,lg,eJ k3]at n;refine h _ J (by unfold aT;omega) n ?_ (wt _ _ _ _ k4 (.inr rfl) B Z gg);have:=A_ (f:=X) (dQ L j);rw[A,B,y]at this;rw[this,R,c3];cases dn L p<;>rfl
 have m:dQ L j=dQ L z+1:=by unfold dQ;rw[E];omega
 rw[m]at B k3;rw[c1,aD (by cases cD (aU L d)<;>decide)]at n;refine h _ J (by unfold aT;omega) n ?_ (wt _ _ _ _ k3 (.inl rfl) Z B gg.symm);have:=AN (f:=X) (dQ L z);rw[A,eJ k3,B,y]at this;rw[this,R,c3]
end
section
variable {F:Nat} {L X:af} {P:aW} {f:Nat}
def aeE(g:bj F L){f:aG}(n:f∈gW (aU L) (aT L))(M:(kY F L f).places.length=1){d:Nat}(v:aU L d<2*I L)(x:aU L d∈f)(two:∀y,y∈f->y<2*I L->y=d\/y=aU L d)
  {p q w:Nat} (E:bP (I L) d=p) (B:bP (I L) (aU L d)=w) (T:bU (I L) (aU L d)=q)  (X:L[p]?=some z) (Y:L[q]?=some j) (Z:L[w]?=some D) (pq:j.ay) (N:D.ak):
  z.gate=j.gate/\((dn L q=cD (aU L d)/\z.au=j.au+1/\cD d= !dn L p)\/(dn L q=(!cD (aU L d))/\j.au=z.au+1/\cD d=dn L p)):=by
 obtain⟨u,m,y,O,A,R,Q,y5⟩:=Q8 g n M x (by rw[<-T];exact Dg v) Y pq;have H:=(bt.1 A).1;have al:∀h,bP (I L) (dS (I L) u h)=u/\dS (I L) u h<2*I L/\cD _=h:=λh=>⟨(HZ H).1,by
  have:=wJ H (!h);rw[<-uZ]at this;have:=uB this;rwa[uQ]at this,(HZ H).2⟩
 grind [kJ]
def yz.two{e p:Nat}(h:yz L e p v){Q:Nat->Nat->Prop}(ae:∀x y,Q x y->Q y x):Q e (nx L e)↔Q p v:=by
 rcases h.1 with⟨rfl,rfl⟩|⟨rfl,rfl⟩
 .exact Iff.rfl
 grind
def aoq(g:bj F L){a b:Nat}(dp:a<b)(n:b<I L){P:aW}(h:rb F L a b=some P)(vX:dk (F:Int) (aY P)=0):∃A B Q,A<B/\B<I (aY P)/\rb F (aY P) A B=some Q/\eV (aY Q) L:=by
 have u:a<I L:=J;have aO:a≠b:=J;have fH:=PB g u n aO h;obtain⟨p,v,q,w,c,rfl⟩:=adQ g u n h;have zq:=c.pq g u n aO;obtain⟨hp,hv⟩:=c.ea.lt u;obtain⟨hq,hw⟩:=c.eb.lt n;obtain⟨z,M⟩:=aP hp;obtain⟨lv,T⟩:=aP hv;obtain⟨j,E⟩:=aP hq;obtain⟨D,N⟩:=aP hw;have kP:∀ {l:U},l.kind=1->l.ay:=λh=>by unfold U.ay;rw[h];rfl
 have kC:∀ {l:U},l.kind=2->l.ak:=λh=>by unfold U.ak;rw[h];rfl
 have pp:z.ay:=kP (by rw[<-iP M];exact c.ea.2.1);have pq:j.ay:=kP (by rw[<-iP E];exact c.eb.2.1);have cv:lv.ak:=kC (by rw[<-iP T];exact c.ea.2.2);have cw:D.ak:=kC (by rw[<-iP N];exact c.eb.2.2);have R:lv.id=D.id:=by rw[<-iP T,<-iP N];exact c.id
 have Ed:=c.vw;have pv:=LI c.ea.2.1 c.ea.2.2;have pw:=LI c.ea.2.1 c.eb.2.2;have qv:=LI c.eb.2.1 c.ea.2.2;have qw:=LI c.eb.2.1 c.eb.2.2;rw[iP E,iP M]at fH vX |-;have fi:∀e∈[a,b],e<I L:=λe m=>by simp only[c7,eD,or_false]at m;rcases m with rfl|rfl<;>assumption
 have aF:[a,b].Pairwise (wB L):=by simp only[iN,c7,eD,or_false,false_imp_iff,implies_true,and_true,forall_eq,List.Pairwise.nil];exact c.dj g u n aO
 have az:∀ {Z:aW},I Z=I L->(ef L Z [a,b])[p]?=Z[v]? /\(ef L Z [a,b])[v]?=Z[p]? /\(ef L Z [a,b])[q]?=Z[w]? /\(ef L Z [a,b])[w]?=Z[q]? /\ ∀x,x≠p->x≠v->x≠q->x≠w->(ef L Z [a,b])[x]?=Z[x]? :=λ{Z} hZ=>by
  obtain⟨k1,k2⟩:=Ol hZ fi aF (λe m=>C4 g (fi e m));have ka:=(c.ea.two (Q:=λx y=>(ef L Z [a,b])[x]?=Z[y]? /\(ef L Z [a,b])[y]?=Z[x]?) λ_ _ h=>⟨h.2,h.1⟩).1 (k1 a aE);have kb:=(c.eb.two (Q:=λx y=>(ef L Z [a,b])[x]?=Z[y]? /\(ef L Z [a,b])[y]?=Z[x]?) λ_ _ h=>⟨h.2,h.1⟩).1 (k1 b aE);refine⟨ka.1,ka.2,kb.1,kb.2,λx n1 n2 n3 n4=>k2 x λe m=>?_⟩;simp only[c7,eD,or_false]at m;rcases m with rfl|rfl
  .exact(c.ea.two (Q:=λy aM=>x≠y/\x≠aM) λ_ _ h=>⟨h.2,h.1⟩).2 ⟨n1,n2⟩
  exact(c.eb.two (Q:=λy aM=>x≠y/\x≠aM) λ_ _ h=>⟨h.2,h.1⟩).2 ⟨n3,n4⟩
 have ac:=fX M;have am:(dY (an L) p j.au)[q]?=some ⟨j,c9 L q⟩:=by rw[pI ac,aC (Ne.symm zq)];exact fX E
 have zg:∀x,(dY (dY (an L) p j.au) q z.au)[x]?=if x=q then some ⟨{j with au:=z.au},c9 L q⟩else if x=p then some ⟨{z with au:=j.au},c9 L p⟩else(an L)[x]? :=λx=>by rw[pI am,pI ac]
 have Jw:I (dY (dY (an L) p j.au) q z.au)=I L:=by rw[tf,tf,bY L]
 obtain⟨P1,P3,P2,P4,P5⟩:=az Jw;rw[zg,aC (Ne.symm qv),aC (Ne.symm pv),fX T]at P1;rw[zg,aC zq,aD rfl]at P3;rw[zg,aC (Ne.symm qw),aC (Ne.symm pw),fX N]at P2;rw[zg,aD rfl]at P4;have P5:∀x,x≠p->x≠v->x≠q->x≠w->(ef L (dY (dY (an L) p j.au) q z.au) [a,b])[x]?=(an L)[x]? :=λx n1 n2 n3 n4=>by rw[P5 x n1 n2 n3 n4,zg,aC n3,aC n1]
 have O:I (ef L (dY (dY (an L) p j.au) q z.au) [a,b])=I L:=by rw[s6,Jw]
 have uH:∀q':U->Bool,(∀(l:U) (r:Int),q' {l with au:=r}=q' l)->aq q' ((ef L (dY (dY (an L) p j.au) q z.au) [a,b]).map aN.l)=aq q' L:=λq' lG=>by rw[<-Dl (f:=L) q'];show List.countP _ _=List.countP _ _;rw[qg,qg];show(gX L (gX L (dY (dY (an L) p j.au) q z.au) a) b).countP _=_;rw[Gg (by rw[ub,Jw]) n (C4 g n),Gg Jw u (C4 g u),O5 am (λp=>lG _ _),O5 ac (λp=>lG _ _)]
 have vG:∀aM∈ef L (dY (dY (an L) p j.au) q z.au) [a,b],aM.l.ay=false->aM.d=false:=λaM hz h=>by
  obtain⟨x,H⟩:=fK (ac5 Jw fi hz);rw[zg]at H;split at H
  .cases H;have:j.ay=false:=h;rw[pq]at this;cases this
  split at H
  .cases H;have:z.ay=false:=h;rw[pp]at this;cases this
  exact qH (a7 H) h
 obtain⟨f,S⟩:=PL fH vX;generalize ef L (dY (dY (an L) p j.au) q z.au) [a,b]=P at*;generalize aY P=X at*;have hf:=S.hf;have hX:=S.len;rw[O]at hf hX
 have av:sh F X 1 [dm (I L) f a,dm (I L) f b]:=by
  obtain⟨wk,aj,mA,d,d1,d2,d3,d4,two,cs⟩:=abq g u n aO c.ea.1 c.eb.1 T N M E cv cw pp pq R Ed c.cor;rcases cs with⟨e1,e2,t1,t2,t3,t4⟩|⟨e1,e2,t1,t2,t3,t4⟩
  .obtain⟨hg,hc⟩:=aeE g aj mA d4 d3 two t1 t3 t4 M E N pq cw;have:=aio g S O uH d2 d4 t1 t2 t3 t4 zq J M T E N pp cv pq cw R.symm P1 P2 P3 P4 hg hc;rwa[e1,e2]at this
  obtain⟨hg,hc⟩:=aeE g aj mA d4 d3 two t1 t3 t4 E M T pp cv;have:=aio g S O uH d2 d4 t1 t2 t3 t4 zq.symm J E N M T pq cw pp cv R P2 P1 P4 P3 hg hc;rw[e1,e2]at this;rw[No (List.Perm.swap _ _ [])];exact this
 have x1:=S.at_ _ _ P1;have x2:=S.at_ _ _ P2;have x3:=S.at_ _ _ P3;have x4:=S.at_ _ _ P4;rw[O]at x1 x2 x3 x4;have kq:j.kind=1:=by rw[<-iP E];exact c.eb.2.1
 have kv:lv.kind=2:=by rw[<-iP T];exact c.ea.2.2
 have kw:D.kind=2:=by rw[<-iP N];exact c.eb.2.2
 have ed:∀ {e p v:Nat},e<I L->yz L e p v->(a8 X (dm (I L) f v)).kind=1->(a8 X (dm (I L) f p)).kind=2->yz X (dm (I L) f e) (dm (I L) f v) (dm (I L) f p):=by
  intro e p v m h h1 h2;refine⟨?_,h1,h2⟩;rw[S.nx O m];rcases h.1 with⟨rfl,rfl⟩|⟨rfl,rfl⟩
  .exact .inr ⟨rfl,rfl⟩
  exact .inl ⟨rfl,rfl⟩
 have C':u0 F X (dm (I L) f a) (dm (I L) f b) (dm (I L) f v) (dm (I L) f p) (dm (I L) f w) (dm (I L) f q):=by refine⟨ed u c.ea (by rw[iP x3];exact by rw[<-iP M];exact c.ea.2.1) (by rw[iP x1];exact kv),ed n c.eb (by rw[iP x4];exact kq) (by rw[iP x2];exact kw),λe=>zq (BY hf hp hq e),by rw[iP x1,iP x2];exact R,?_⟩;rw[Fu rfl (by rw[hX];exact wz hf)];exact av
 have la:dm (I L) f a<I X:=by rw[hX];exact wz hf
 have lb:dm (I L) f b<I X:=by rw[hX];exact wz hf
 have Qs:dm (I L) f a≠dm (I L) f b:=λe=>aO (BY hf u n e);have LY:=C'.dj S.g la lb Qs;have ap:=C'.pq S.g la lb Qs;have wN:=bY X;have r1:(a8 X (dm (I L) f w)).au=z.au:=by rw[iP x4]
 have r2:(a8 X (dm (I L) f v)).au=j.au:=by rw[iP x3]
 have ab:=P3;have ao:(dY P v z.au)[w]?=some ⟨{j with au:=z.au},c9 L q⟩:=by rw[pI ab,aC (Ne.symm Ed)];exact P4
 have tS:=λ{x:Nat} (H:x<I L)=>S.tS O vG H;have ar:=(tS hv).trans P3;have aH:∀x,x<I L->(dY (dY (an X) (dm (I L) f v) z.au) (dm (I L) f w) j.au)[dm (I L) f x]?=(dY (dY P v z.au) w j.au)[x]? :=λx H=>by
  rw[pI (by rw[pI ar,aC (Ne.symm ap)];exact(tS hw).trans P4),pI ao,pI ar,pI ab];by_cases c1:x=w
  .subst c1;rw[aD rfl,aD rfl]
  rw[aC c1,aC λk=>c1 (BY hf H hw k)];by_cases c2:x=v
  .subst c2;rw[aD rfl,aD rfl]
  rw[aC c2,aC λk=>c2 (BY hf H hv k),tS H]
 have ag:I (dY (dY P v z.au) w j.au)=I L:=by rw[tf,tf,O]
 have back:ef L (dY (dY P v z.au) w j.au) [a,b]=an L:=by
  obtain⟨b1,b2,b3,b4,b5⟩:=az ag;have we:∀x,(dY (dY P v z.au) w j.au)[x]?=if x=w then some ⟨j,c9 L q⟩else if x=v then some ⟨z,c9 L p⟩else P[x]? :=λx=>by rw[pI ao,pI ab]
  rw[we,aC Ed,aD rfl]at b1;rw[we,aC pw,aC pv,P1]at b2;rw[we,aD rfl]at b3;rw[we,aC qw,aC qv,P2]at b4;apply pk;intro x;by_cases c1:x=p
  .subst c1;rw[b1,fX M]
  by_cases c2:x=v
  .subst c2;rw[b2,fX T]
  by_cases c3:x=q
  .subst c3;rw[b3,fX E]
  by_cases c4:x=w
  .subst c4;rw[b4,fX N]
  rw[b5 x c1 c2 c3 c4,we,aC c4,aC c2,P5 x c1 c2 c3 c4]
 have done:∀A B Y,A<B->B<I X->rb F X A B=some Y->Y=ef X (dY (dY (an X) (dm (I L) f v) z.au) (dm (I L) f w) j.au) ([a,b].map (dm (I L) f))->∃A B Q,A<B/\B<I X/\rb F X A B=some Q/\eV (aY Q) L:=λA B Y h1 h2 h3 h4=>by
  refine⟨A,B,Y,h1,h2,h3,?_⟩;have ad:I (dY (dY (an X) (dm (I L) f v) z.au) (dm (I L) f w) j.au)=I L:=by rw[tf,tf,wN,hX]
  refine S.back g O (PB S.g J h2 J h3) (by rw[h4,s6,ad]) λx H=>?_;rw[h4,S.sw O ad ag fi aH x H,back]
 by_cases aw:dm (I L) f a<dm (I L) f b
 .refine done _ _ _ aw lb C'.as ?_;rw[r1,r2];rfl
 refine done _ _ _ J la (C'.symm la lb).as ?_;rw[r1,r2,ahv (by rw[wN,hX];exact wz hf) (by rw[wN,hX];exact wz hf) (Ne.symm ap)];refine VK (List.Perm.swap _ _ []) (by rw[tf,tf,wN]) (λe m=>?_) ?_
 .simp only[c7,eD,or_false]at m;rcases m with rfl|rfl<;>assumption
 simp only[iN,c7,eD,or_false,false_imp_iff,implies_true,and_true,forall_eq,List.Pairwise.nil];exact⟨LY.1.symm,LY.2.2.1.symm,LY.2.1.symm,LY.2.2.2.symm⟩
end
def c_{B:Type}(a b:List B):Prop:= ∃u v,a=u++v/\b=v++u
section
variable {B N:Type} {a b c:List B}
def c_.refl(a:List B):c_ a a:=⟨[],a,rfl,(ic a).symm⟩
def c_.symm(h:c_ a b):c_ b a:=by obtain⟨u,v,H,f⟩:=h;exact⟨v,u,f,H⟩
def c_.trans(h:c_ a b)(k:c_ b c):c_ a c:=by
 obtain⟨u,v,rfl,rfl⟩:=h;obtain⟨j,f,e,rfl⟩:=k;rcases aaW.1 e with⟨w,rfl,rfl⟩|⟨w,rfl,rfl⟩
 .exact⟨w,f++v,aE,aE⟩
 exact⟨u++j,w,aE,aE⟩
def c_.map(f:B->N)(h:c_ a b):c_ (a.map f) (b.map f):=by obtain⟨u,v,rfl,rfl⟩:=h;exact⟨u.map f,v.map f,fL,fL⟩
def c_.filter(p:B->Bool)(h:c_ a b):c_ (a.filter p) (b.filter p):=by obtain⟨u,v,rfl,rfl⟩:=h;exact⟨u.filter p,v.filter p,xK ..,xK ..⟩
def c_.perm(h:c_ a b):a.Perm b:=by obtain⟨u,v,rfl,rfl⟩:=h;exact G4
def c_.len(h:c_ a b):I a=I b:=h.perm.length_eq
def c_.at2{x y:B}{s l:List B}(h:c_ (x::y::s) l):∃a,a<I l/\l[a]?=some x/\l[(a+1)%I l]?=some y/\l.drop a++l.take a=x::y::s:=by
 have hl:2<=I l:=by rw[<-h.len];simp
 obtain⟨a,ha,e⟩:∃a,a<I l/\l.drop a++l.take a=x::y::s:=by
  obtain⟨u,v,e,rfl⟩:=h;by_cases H:u=[]
  .subst H;exact⟨0,J,by simp[e]⟩
  have:=gy.2 H;exact⟨I v,by rw[gb];omega,by simp[e]⟩
 obtain _:=ad5 ha hl
 grind
end
def T5{B:Type}{X Y:List B}(h:X≠[]):(X++Y).head?=X.head?:=by
 cases X with
 |nil=>exact absurd rfl h
 |cons a X=>rfl
def ES{B:Type}{X Y:List B}(h:Y≠[]):(X++Y).getLast?=Y.getLast?:=by
 have:=gy.2 h
 grind
def B_(u v x:aW)(h:u≠[]):dK (u++v) x (I u-1)=u++x++v:=by grind
def Hc{B:Type}{u v:List B}(h:u≠[]):(u++v)[I u-1]?=u.getLast?:=by
 have:=gy.2 h
 grind
def c_.ins{r l:aW}(h:c_ r l)(f:r≠[]):∃k,k<I l/\l[k]?=r.getLast?/\l[(k+1)%I l]?=r.head?/\ ∀x,c_ (x++r) (dK l x k):=by
 obtain⟨u,v,rfl,rfl⟩:=h;by_cases H:v=[]
 .subst H;rw[ic]at f |-;have n:=B_ u [];have m:=Hc (v:=[]) f;have:=gy.2 f;rw[ic]at n m;refine⟨I u-1,by rw[fB];omega,m,?_,λx=>?_⟩
  .rw[fB,show I u-1+1=I u by omega,w_,D4]
  rw[fB,n x f,ic];exact⟨x,u,rfl,rfl⟩
 have:=gy.2 H;refine⟨I v-1,by rw[gb];omega,?_,?_,λx=>?_⟩
 .rw[Hc H,ES H]
 .rw[show I v-1+1=I v by omega];by_cases j:u=[]
  .subst j;simp[D4]
  have B:=gy.2 j;rw[eJ (by grind),qQ (cJ _),xt,T5 j,D4]
 rw[B_ v u x H];exact⟨x++u,v,aE,aE⟩
def Uw{A B bd:aW}(h:A≠[])(f:B≠[]):∃i j,i<j/\j<I (A++B++bd)/\(A++B++bd)[i]?=A.getLast?/\(A++B++bd)[j]?=B.getLast?/\(A++B++bd)[(i+1)%I (A++B++bd)]?=B.head?/\(A++B++bd)[(j+1)%I (A++B++bd)]?=(bd++A).head?/\ ∀p q,dK (dK (A++B++bd) q j) p i=A++p++B++q++bd:=by
 have L:=gy.2 h;have n:=gy.2 f;have m:A++B≠[]:=by simp[h]
 have E:I (A++B)=I A+I B:=gb;refine⟨I A-1,I (A++B)-1,J,by rw[@List.length_append _ (A++B) _];omega,?_,?_,?_,?_,λp q=>?_⟩
 .rw[lf,Hc h]
 .rw[Hc m,ES f]
 .rw[show I A-1+1=I A by omega,eJ (by rw[gb];omega),lf,qQ (cJ _),xt,s8 n,D4]
 .rw[show(A++B).length-1+1=I (A++B) by omega];by_cases H:bd=[]
  .subst H;rw[ic,w_,fB,s8 L,D4]
  have u:=gy.2 H;rw[eJ (by rw[@List.length_append _ (A++B) _];omega),qQ (cJ _),xt,T5 H,D4]
 rw[B_ (A++B) bd q m,show A++B++q++bd=A++(B++q++bd) by simp,B_ A _ p h];simp
def c_.ahl{r1 R l:aW}(h:c_ (r1++R) l)(f:r1≠[])(H:R≠[]):∃a b,a<I l/\b<I l/\a≠b/\l[a]?=R.getLast?/\l[b]?=r1.getLast?/\l[(a+1)%I l]?=r1.head?/\l[(b+1)%I l]?=R.head?/\ ∀x y,c_ (x++r1++y++R) (if a<b then dK (dK l y b) x a else dK (dK l x a) y b):=by
 obtain⟨u,v,e,rfl⟩:=h;have z:∀(X Y:aW),X≠[]->(X++Y).head?=X.head?:=λX Y h=>T5 h;rcases aaW.1 e with⟨w,rfl,rfl⟩|⟨w,rfl,rfl⟩
 .by_cases n:v=[]
  .subst n;rw[ic]at H |-;obtain⟨i,j,k1,k2,k3,k4,k5,k6,k7⟩:=Uw (A:=r1) (B:=w) (bd:=[]) f H;rw[ic]at k2 k3 k4 k5 k6 k7;rw[fB]at k6;rw[fB];refine⟨j,i,k2,J,J,k4,k3,k6,k5,λx y=>?_⟩;rw[aC J,k7 y x,ic];exact⟨x,r1++y++w,aE,aE⟩
  obtain⟨i,j,k1,k2,k3,k4,k5,k6,k7⟩:=Uw (A:=v) (B:=r1) (bd:=w) n f;rw[lf]at k2 k3 k4 k5 k6 k7;refine⟨i,j,J,k2,J,?_,k4,k5,k6,λx y=>?_⟩
  .rw[k3,ES n]
  rw[aD k1,k7 x y];exact⟨x++r1++y++w,v,aE,aE⟩
 by_cases m:w=[]
 .subst m;rw[ic]at f |-;rw[fB];obtain⟨i,j,k1,k2,k3,k4,k5,k6,k7⟩:=Uw (A:=R) (B:=u) (bd:=[]) H f;rw[ic]at k2 k3 k4 k5 k6 k7;rw[fB]at k6;refine⟨i,j,J,k2,J,k3,k4,k5,k6,λx y=>?_⟩;rw[aD k1,k7 x y,ic];exact⟨x++u++y,R,aE,aE⟩
 obtain⟨i,j,k1,k2,k3,k4,k5,k6,k7⟩:=Uw (A:=w) (B:=R) (bd:=u) m H;refine⟨j,i,k2,J,J,k4,?_,?_,k5,λx y=>?_⟩
 .rw[k3,ES m]
 .rw[k6]
 rw[aC J,k7 y x];exact⟨x++u,w++y++R,aE,aE⟩
section
variable {F:Nat} {L X:af} {P Q:aW} {f:Nat}
def cN(h:Int->Int)(p:aN):aN:=⟨dd h p.l,p.d⟩
def SE(g:bj F L){h:Int->Int}(hf:inj h L)(X:gO F Q)(r:c_ ((an L).map (cN h)) Q):eV (aY Q) L:=by
 obtain⟨A,D,B,T,⟨q0,z,RP,R⟩,_⟩:=Hn X;have H:=r.len;rw[cg,bY]at H;rw[<-H]at D B T;have n:0<I L:=J;obtain⟨i,hi,get⟩:∃i,i<I L/\ ∀x,x<I L->Q[x]?=((an L)[(i+x)%I L]?).map (cN h):=by
  obtain⟨u,v,Z,rfl⟩:=r;have hl:I u+I v=I L:=by grind
  have M:∀j,((an L)[j]?).map (cN h)=(u++v)[j]? :=λj=>by rw[<-Z,fz]
  by_cases N:v=[]
  .subst N;refine⟨0,n,λx m=>?_⟩;rw[M,jN,eJ m,ic,fB]
  have:=gy.2 N;refine⟨I u,J,λx m=>?_⟩;rw[M];by_cases c:x<I v
  .rw[s8 c,eJ J,qQ J];congr 1;omega
  rw[qQ J,Nj J,eJ J,s8 J];congr 1;omega
 have O:(i+A)%I L<I L:=cT _ n;have e:aY Q=(eC L ((i+A)%I L)).map (dd h):=by
  apply pk;intro k;by_cases E:k<I L
  .rw[B k E,get _ (cT _ n),fz,Gf O E,Dj,<-AH,tU];obtain⟨l,hl⟩:=aP (cT _ n);rw[fX hl,hl];rfl
  rw[lS J,lS (by rw[cg,rC];omega)]
 rw[e];refine(MZ λx m y Y=>hf x (Be.1 m) y (Be.1 Y)).trans (KE J g.even ?_);rw[get A D]at z;obtain⟨l,hl⟩:=aP O;rw[fX hl]at z;have f:c9 L ((i+A)%I L):=by rw[<-kA z]at R;exact R
 unfold c9 at f;rw[hl]at f;have f:=f;rw[cP]at f;have:=f.2;unfold Go.Abs.dn at this;exact c8.1 this
theorem aoL(p:aN):cN id p=p:=by obtain _:=p;unfold cN dd;split<;>rfl
def UQ(g:bj F L)(f:gO F Q)(r:c_ (an L) Q):eV (aY Q) L:=by
 refine SE g (h:=id) (λx _ y _ _ _ e=>e) f ?_
 grind [an,lq,aoL]
def Iw(fH:gO F P)(m:dk (F:Int) (aY P)=0)(j:∀p∈P,p.l.ay=false->p.d=false):bj F (aY P)/\c_ P (an (aY P)):=by
 obtain⟨f,S⟩:=PL fH m;refine⟨S.g,P.take f,P.drop f,(jS f P).symm,?_⟩;have hf:=S.hf;have u:=S.len;apply pk;intro k;have H:I P=I (P.map aN.l):=(cg ..).symm;by_cases h:k<I P
 .have n:(f+k)%I P<I P:=cT _ J;have:=S.tS H j (v:=(f+k)%I P) J;rw[<-H,abP hf h]at this;rw[Je hf h,this]
 rw[lS (by rw[bY];omega),lS (by grind)]
end
section
variable {F:Nat} {L X:af} {P Q:aW} {f:Nat}
def t_{k a b c sg:Int}{l o:Bool}(h:k=1\/k=4\/k=9\/k=10):fC F L k a b c l o sg↔ ∃A:Nat,A<I L/\a=A/\b=0/\c=0/\l=false/\o=false/\sg=0:=by
 unfold fC
 grind [jK,l_]
def akr(g:bj F L)(h:gi F L m=some X):dk (F:Int) X=0/\fC F L m.k m.a m.b m.c m.l m.o m.s/\ ∃P,mg F L m.k m.a.toNat m.b.toNat m.c.toNat m.l m.o m.s=some P/\X=aY P/\(I L:Int)+(gL m.k).1<=400/\((aq U.ak L/2:Nat):Int)+(gL m.k).2<=100:=by
 unfold gi at h;rw[aC g.ne]at h;split at h
 .rename_i j;cases H:mg F L m.k m.a.toNat m.b.toNat m.c.toNat m.l m.o m.s with
  |none=>rw[H]at h;cases h
  |some P=>
   rw[H]at h;simp only at h;split at h
   .cases h
   rename_i ae;cases h;refine⟨?_,j,P,rfl,rfl,J,J⟩;rcases am9 g m.k m.a m.b m.c m.l m.o m.s with _|⟨M,_,n,_,u,f,rfl⟩
   .grind [sE,ui]
   grind
 cases h
def Om(g:bj F X)(H:fC F X m.k m.a m.b m.c m.l m.o m.s)(h:mg F X m.k m.a.toNat m.b.toNat m.c.toNat m.l m.o m.s=some Q)(f:(I X:Int)+(gL m.k).1<=400)(j:((aq U.ak X/2:Nat):Int)+(gL m.k).2<=100):gi F X m=some (aY Q):=by
 unfold gi;rw[aC g.ne,aD H,h]
 grind
theorem Cq{g A b:Int}{p:aN}:(cW g A b p).l.ay=p.l.ay/\(cW g A b p).d=p.d:=by unfold cW U.ay;split<;>exact⟨rfl,rfl⟩
def rz{p:aN}(h:(an L)[v]?=some p):L[v]?=some p.l/\p.d=c9 L v:=by have H:=(bt.1 h).1;rw[bY]at H;obtain⟨l,hl⟩:=aP H;rw[fX hl]at h;cases h;exact⟨hl,rfl⟩
def ais(g:bj F L){a:Nat}{j:aN->aN}{p q Q:aN}(n:(an L)[a]?=some p)(S:tv F (((an L).map A).set a q) X f)(B:∀z∈((an L).map A).set a q,z.l.ay=false->z.d=false)(D:∀v p,v≠a->(an L)[v]?=some p->j (A p)=p)(x:Q=p)(u:gO F (((an X).map j).set (dm (I L) f a) Q)):eV (aY (((an X).map j).set (dm (I L) f a) Q)) L:=by
 subst x;have y:a<I L:=by have:=(bt.1 n).1;rwa[bY]at this
 have m:I (((an L).map A).set a q)=I L:=by rw[j7,cg,bY]
 have hf:=S.hf;have h:=S.len;rw[m]at hf h;refine S.back g m u (by rw[j7,cg,bY];exact h) λv H=>?_;obtain⟨l,hl⟩:=aP H;have M:=fX hl;by_cases c:v=a
 .subst c;rw[NN (by rw[cg,bY,h];exact wz hf),n]
 rw[Rd (λe=>c (BY hf y H e).symm),fz,S.tS m B H,Rd (Ne.symm c),fz,M]
 grind
def V4{a:Nat}{q:aN}(hf:∀p,(A p).l.ay=p.l.ay/\(A p).d=p.d)(H:q.l.ay):∀z∈((an L).map A).set a q,z.l.ay=false->z.d=false:=by
 intro z h hp;rcases List.mem_or_eq_of_mem_set h with h|rfl
 .obtain _:=ch.1 h
  grind [qH]
 grind
def agA{a k:Nat}{p q:aN}(f:(an L)[a]?=some p)(hf:∀p,jq k (A p).l=jq k p.l):aV ((((an L).map A).set a q).map aN.l) k+(if jq k p.l=true then 1 else 0)=aV L k+(if jq k q.l=true then 1 else 0):=by
 have e:aV L k=aV _ k:=(Dl _).symm;rw[e,S2 f]
 conv=>rhs;rw[Po f]
 show aq _ _+_=aq _ _+_;unfold aq;have h:∀l:aW,(l.map A).countP (jq k ∘ aN.l)=l.countP (jq k ∘ aN.l):=λl=>by grind [qg,A5]
 rw[qg,qg,uu,uu,Di,Di,h,h]
 grind
def aiC(g A b:Int)(k:Nat)(p:aN):jq k (cW g A b p).l=jq k p.l:=by rw[Fz];exact NG _ _ _ _ _
def RX{l:U}(hp:l.ay)(k:Nat):jq k l↔l.gate=(k:Int):=by unfold jq;rw[hp];simp
def atE(g:bj F L){a:Nat}(H:a<I L)(h:th F L a=some P)(y:dk (F:Int) (aY P)=0):∃B Q,B<I (aY P)/\te (aY P) B=some Q/\bj F (aY P)/\eV (aY Q) L:=by
 have fH:=Og g H h;obtain⟨l,hl⟩:=aP H;have j:=fX hl;unfold th at h;rw[gU j]at h;split at h
 case isFalse=>cases h
 rename_i O;cases h;simp only[cP,c8,iJ]at O;obtain⟨z,ab,Z⟩:=O;have hp:l.ay:=by unfold U.ay;rw[z];rfl
 obtain⟨G,n⟩:=ns (g.ok.ax.fA l (a7 hl) hp).g0;have iE:pF (dO (an L) (l.gate+1) 0 1) a (l.gate+1) 1=((an L).map (cW (l.gate+1) 0 1)).set a ⟨{l with gate:=l.gate+1,au:=1},c9 L a⟩:=by
  unfold pF dO;have:((an L).map (cW (l.gate+1) 0 1)).getD a ⟨ij,false⟩=⟨l,c9 L a⟩:=by rw[dD,fz,j];show cW (l.gate+1) 0 1 ⟨l,c9 L a⟩=_;unfold cW;rw[aC];simp only[cP,c8];intro h;omega
  rw[this]
 rw[iE]at y fH |-;obtain⟨f,S⟩:=PL fH y;have N:I (((an L).map (cW (l.gate+1) 0 1)).set a ⟨{l with gate:=l.gate+1,au:=1},c9 L a⟩)=I L:=by rw[j7,cg,bY]
 have E:=V4 (L:=L) (a:=a) (A:=cW (l.gate+1) 0 1) (q:=⟨{l with gate:=l.gate+1,au:=1},c9 L a⟩) (λp=>Cq) hp;have Y:=agA (q:=⟨{l with gate:=l.gate+1,au:=1},c9 L a⟩) j (aiC (l.gate+1) 0 1 G);rw[aD ((RX hp G).2 n),aC (λh=>by have:l.gate+1=(G:Int):=(RX (l:={l with gate:=l.gate+1,au:=1}) hp G).1 h;omega)]at Y;have m:=S.tS N E H;rw[NN (by rw[cg,bY];exact H)]at m;have hf:=S.hf;have x:=S.len;rw[N]at hf x;generalize aY (((an L).map (cW (l.gate+1) 0 1)).set a ⟨{l with gate:=l.gate+1,au:=1},c9 L a⟩)=X at*;have R:((aV X G+1:Nat):Int)=l.au:=by have:aV X G=aV ((((an L).map (cW (l.gate+1) 0 1)).set a ⟨{l with gate:=l.gate+1,au:=1},c9 L a⟩).map aN.l) G:=S.aq (jq G);rw[Z,n,this,js];omega
 have u:dm (I L) f a<I X:=by rw[x];exact wz hf
 have CH:(⟨{{l with gate:=l.gate+1,au:=1}with gate:=l.gate+1-1,au:=((aV X (l.gate+1-1).toNat+1:Nat):Int)},c9 L a⟩:aN)=⟨l,c9 L a⟩:=by
  rw[show l.gate+1-1=l.gate by omega];have:((aV X l.gate.toNat+1:Nat):Int)=l.au:=by rw[<-R,n,js]
  rw[this]
 have M:te X (dm (I L) f a)=some (((an X).map (cW (l.gate+1) 1 (-1))).set (dm (I L) f a) ⟨l,c9 L a⟩):=by
  unfold te;rw[gU m];rw[aD (by simp only[cP,c8,iJ];exact⟨z,J,trivial⟩)];unfold pF dO;have:((an X).map (cW (l.gate+1) 1 (-1))).getD (dm (I L) f a) ⟨ij,false⟩=⟨{l with gate:=l.gate+1,au:=1},c9 L a⟩:=by
   rw[dD,fz,m]
   grind [cW]
  rw[this,<-CH]
 refine⟨dm (I L) f a,_,u,M,S.g,?_⟩;refine ais g j S E (λv p hv T=>?_) rfl (Nz S.g u M);obtain⟨h1,_⟩:=rz T;unfold cW;cases D:p.l.kind==1 with
 |false=>simp[D]
 |true=>
  have:=(g.ok.ax.fA p.l (a7 h1) D).r0;by_cases c:p.l.gate=l.gate+1
  .have c1:(p.l.gate==l.gate+1):=by rw[c8];exact c
   have c2:decide (0<p.l.au)=true:=by rw[iJ];omega
   have c3:decide (1<p.l.au+1)=true:=by rw[iJ];omega
   simp only[c1,c2,c3,D,zK,if_true];rw[show p.l.au+1+ -1=p.l.au by omega]
  have c1:(p.l.gate==l.gate+1)=false:=by rw[mM];exact c
  simp only[c1,Q6,IM,fE,if_false]
def arG(g:bj F L){a:Nat}(H:a<I L)(h:te L a=some P)(M:dk (F:Int) (aY P)=0):∃u Q,u<I (aY P)/\th F (aY P) u=some Q/\bj F (aY P)/\eV (aY Q) L:=by
 have fH:=Nz g H h;obtain⟨l,hl⟩:=aP H;have j:=fX hl;unfold te at h;rw[gU j]at h;split at h
 case isFalse=>cases h
 rename_i B;cases h;simp only[cP,c8,iJ]at B;obtain⟨N,JN,jX⟩:=B;have hp:l.ay:=by unfold U.ay;rw[N];rfl
 have gd:=g.ok.ax.fA l (a7 hl) hp;obtain⟨G,x⟩:=ns (show 0<=l.gate-1 by omega);have ab:=gd.g1;generalize hR:((aV L (l.gate-1).toNat+1:Nat):Int)=R at*;have iE:pF (dO (an L) l.gate 1 (-1)) a (l.gate-1) R=((an L).map (cW l.gate 1 (-1))).set a ⟨{l with gate:=l.gate-1,au:=R},c9 L a⟩:=by
  unfold pF dO;have:((an L).map (cW l.gate 1 (-1))).getD a ⟨ij,false⟩=⟨l,c9 L a⟩:=by rw[dD,fz,j];show cW l.gate 1 (-1) ⟨l,c9 L a⟩=_;unfold cW;rw[aC];simp only[cP,c8,iJ];intro h;omega
  rw[this]
 rw[iE]at M fH |-;obtain⟨f,S⟩:=PL fH M;have y:I (((an L).map (cW l.gate 1 (-1))).set a ⟨{l with gate:=l.gate-1,au:=R},c9 L a⟩)=I L:=by rw[j7,cg,bY]
 have T:=V4 (L:=L) (a:=a) (A:=cW l.gate 1 (-1)) (q:=⟨{l with gate:=l.gate-1,au:=R},c9 L a⟩) (λp=>Cq) hp;have Z:=agA (q:=⟨{l with gate:=l.gate-1,au:=R},c9 L a⟩) j (aiC l.gate 1 (-1) G);rw[aC (λh=>by have:=(RX hp G).1 h;omega),aD ((RX (l:={l with gate:=l.gate-1,au:=R}) hp G).2 x)]at Z;have m:=S.tS y T H;rw[NN (by rw[cg,bY];exact H)]at m;have hf:=S.hf;have n:=S.len;rw[y]at hf n;generalize aY (((an L).map (cW l.gate 1 (-1))).set a ⟨{l with gate:=l.gate-1,au:=R},c9 L a⟩)=X at*;have QD:R=((aV X (l.gate-1).toNat:Nat):Int):=by have:aV X G=aV ((((an L).map (cW l.gate 1 (-1))).set a ⟨{l with gate:=l.gate-1,au:=R},c9 L a⟩).map aN.l) G:=S.aq (jq G);rw[<-hR,x,js,this];omega
 have z:dm (I L) f a<I X:=by rw[n];exact wz hf
 have CH:(⟨{{l with gate:=l.gate-1,au:=R}with gate:=l.gate-1+1,au:=1},c9 L a⟩:aN)=⟨l,c9 L a⟩:=by rw[show l.gate-1+1=l.gate by omega,<-jX]
 have E:th F X (dm (I L) f a)=some (((an X).map (cW l.gate 0 1)).set (dm (I L) f a) ⟨l,c9 L a⟩):=by
  unfold th;rw[gU m];rw[aD (by simp only[cP,c8,iJ];exact⟨N,J,QD⟩)];have e1:l.gate-1+1=l.gate:=J;unfold pF dO;have:((an X).map (cW (l.gate-1+1) 0 1)).getD (dm (I L) f a) ⟨ij,false⟩=⟨{l with gate:=l.gate-1,au:=R},c9 L a⟩:=by rw[dD,fz,m];show cW (l.gate-1+1) 0 1 ⟨{l with gate:=l.gate-1,au:=R},c9 L a⟩=_;unfold cW;rw[aC];simp only[cP,c8,iJ];intro h;omega
  rw[this,CH,e1]
 refine⟨dm (I L) f a,_,z,E,S.g,?_⟩;refine ais g j S T (λv p hv Y=>?_) rfl (Og S.g z E);obtain⟨O,_⟩:=rz Y;unfold cW;cases D:p.l.kind==1 with
 |false=>simp[D]
 |true=>
  have gp:=g.ok.ax.fA p.l (a7 O) D;have:=gp.r0;by_cases c:p.l.gate=l.gate
  .have aO:p.l.au≠1:=λe=>hv (g.ok.ax.inj v a p.l l O hl D hp ((Db gp gd).2 ⟨c,J⟩));have c1:(p.l.gate==l.gate):=by rw[c8];exact c
   have c2:decide (1<p.l.au)=true:=by rw[iJ];omega
   have c3:decide (0<p.l.au+ -1)=true:=by rw[iJ];omega
   simp only[c1,c2,c3,D,zK,if_true];rw[show p.l.au+ -1+1=p.l.au by omega]
  have c1:(p.l.gate==l.gate)=false:=by rw[mM];exact c
  simp only[c1,Q6,IM,fE,if_false]
end
end
end Go.Abs
