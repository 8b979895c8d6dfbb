/- A part. -/
import Derived.Test.YtenindeoffokoaaGreatDoorWj
set_option linter.all false
open List renaming length->I
set_option maxHeartbeats 16000000
namespace Go.Abs
variable{m:af}{z O:fG}{j F u:Nat}{f T B:Nat->Nat->Nat}{n:Nat->Nat}{h:U->U}{L N:aG}{E D:Int}
section
variable{x y:aQ}{v:Nat}
def atj(x:aq U.ak m%2=0)(n:aaU m)(hp:HV m):nN m:=by
 rw[Y7 x (Hq.2 ⟨n,hp⟩)];have Z:=Y8 m;have H:∀id∈gE m (I m),aq (pE id) m<=2:=λid _=>by grind [VH,EU]
 have L:=akK _ H;have z:I (gE m (I m))<=aq U.ak m/2:=by
  have A:∀id∈gE m (I m),1<=id/\id<=((aq U.ak m/2:Nat):Int):=λid f=>by obtain⟨j,o,F,u⟩:=(GQ (cJ _)).1 f;obtain⟨B,v,y,M,_⟩:=C6 u;rw[<-M];exact n B (a7 v) y
  have:=I5 ((gE m (I m)).map Int.toNat) (List.range' 1 (aq U.ak m/2)) ?_ ?_
  .grind
  .refine vO.2 (RA (λ{a b} E D h e=>h ?_) (Vg m (I m)))
   grind
  grind
 grind
theorem Kj{s t:eN}(h:iR s z t)(H:z[0]?=some x):x.i=s:=by
 cases z with
 |nil=>cases H
 |cons y z=>cases H;exact h.1
def ajR:∀ {z:fG}{s t:eN}{i:Nat}{x y:aQ},iR s z t->z[i]?=some x->z[i+1]?=some y->x.o=y.i:=by
 intro z
 induction z with
 |nil=>intro s t i x y _ H;cases H
 |cons a z j=>
  intro s t i x y h H f;cases i with
  |zero=>cases H;exact(Kj h.2 f).symm
  |succ i=>exact j h.2 H f
theorem Mv:∀ {z:fG}{s t:eN}{x:aQ},iR s z t->z[I z-1]?=some x->x.o=t:=by
 intro z
 induction z with
 |nil=>intro s t x _ H;cases H
 |cons a z f=>
  intro s t x h H;cases z with
  |nil=>cases H;exact h.2
  |cons b z=>exact f h.2 H
def al1{s:eN}(h:iR s z s)(f:z[j]?=some x)(H:z[(j+1)%I z]?=some y):x.o=y.i:=by
 by_cases c:j+1<I z
 .rw[eJ c]at H;exact ajR h f H
 grind [w_,Mv,Kj]
def Aa{i:Nat}(h:z[i]?=some x):(aK z)[i]?=some x.k:=by rw[fz,h];rfl
def CK{i:Nat}{l:U}(h:(aK z)[i]?=some l):∃x,z[i]?=some x/\x.k=l:=by grind
def Lm{s t:eN}(ok:∀x∈z,yW F x)(h:iR s z t)(ae:s.b=false):∀i x,z[i]?=some x->x.i.b= !dn (aK z) i/\x.o.b= !dn (aK z) (i+1):=by
 have step:∀i x,z[i]?=some x->x.i.b=(!dn (aK z) i)->x.o.b= !dn _ _:=λi x H n=>by
  have O:=ok x (a7 H);rcases zB O.bad with hp|f
  .rw[Ez (Aa H) hp,yI,(O.pb hp).1];have:=(O.pb hp).2
   grind
  rw[Jc (Aa H) (by
   cases hp:x.k.ay
   .rfl
   rw[nL hp]at f;cases f),<-n,O.cb f]
 intro i
 induction i with
 |zero=>
  intro x H;have:x.i.b= !dn (aK z) 0:=by rw[Kj h H,ae];rfl
  grind
 |succ i u=>
  intro y j;obtain⟨x,H⟩:=aP (h:=z) (k:=i) (by grind);have e:=(u x H).2;rw[ajR h H j]at e
  grind
def ajN(hf:∀g,g<F->f g (aV m g)=f (g+1) 0):∀(d g k g' j:Nat),g'=g+d->g'<=F->k<=aV m g->j<=aV m g'->dr m g+k=dr m g'+j->f g k=f g' j:=by
 intro d
 induction d with
 |zero=>simp_all
 |succ d u=>
  intro g k g' j e v n R h;have H:=yR (h:=m) (show g+1<=g' by omega);have ae:=pX m g
  grind
def Kf(hf:∀g,g<F->f g (aV m g)=f (g+1) 0){g k g' j:Nat}(u:g<=F)(n:g'<=F)(H:k<=aV m g)(R:j<=aV m g')(h:dr m g+k=dr m g'+j):f g k=f g' j:=by
 rcases Nat.le_total g g' with c|c
 .exact ajN hf (g'-g) g k g' j J n H R h
 exact(ajN hf (g-g') g' j g k J u R H h.symm).symm
def Ny:aQ:=⟨⟨ij,false⟩,⟨0,0,false⟩,⟨0,0,false⟩⟩
def ja(z:fG)(x:Nat):Nat:=
 if x<2*I z then(if x%2=0 then(z.getD (x/2) Ny).o.l else(z.getD (x/2) Ny).o.r)
 else if x%2=0 then(z.getD ((aA (aK z)).getD ((x-2*I z)/2) 0) Ny).up.l else(z.getD ((aA (aK z)).getD ((x-2*I z)/2) 0) Ny).lo.l
def agJ{i:Nat}(h:z[i]?=some x):z.getD i Ny=x:=by rw[dD,h];rfl
section
variable {F:Nat} {z:fG} {s:eN}
def aaY(h:iR s z s)(H:z[v]?=some x)(g:Bool):ja z (dS (I z) v g)=if g then x.o.l else x.i.r:=by
 have f:=(bt.1 H).1;cases g with
 |true=>
  show ja z (2*v)=_;unfold ja
  grind
 |false=>
  show ja z (2*((v+I z-1)%I z)+1)=_;obtain⟨y,j⟩:=aP (h:=z) (cT (v+I z-1) (show 0<I z by omega));have e:=al1 h j (by rw[wx f];exact H);unfold ja
  grind
def aqI(h:iR s z s)(H:z[v]?=some x)(g:Bool):ja z (g_ (I z) v g)=if g then x.i.l else x.o.r:=by
 have f:=(bt.1 H).1;cases g with
 |false=>
  show ja z (2*v+1)=_;unfold ja
  grind
 |true=>
  show ja z (2*((v+I z-1)%I z))=_;obtain⟨y,j⟩:=aP (h:=z) (cT (v+I z-1) (show 0<I z by omega));have e:=al1 h j (by rw[wx f];exact H);unfold ja
  grind
def aaL{k:Nat}(h:(aA (aK z)).getD k 0=v)(H:z[v]?=some x):ja z (2*I z+2*k)=x.up.l:=by
 unfold ja
 grind
def VS{k:Nat}(h:(aA (aK z)).getD k 0=v)(H:z[v]?=some x):ja z (2*I z+2*k+1)=x.lo.l:=by
 unfold ja
 grind
def fT.KB{S:aG}(c:fT F z T B S){i:Nat}(v:z[i]?=some x)(m:z[j]?=some y)(u:i≠j):nk x y/\zH x y:=by
 obtain⟨f,E⟩:=bt.1 v;obtain⟨H,n⟩:=bt.1 m;subst E n;rcases FI u with h|h
 .exact⟨LA.1 c.cr i j f H h,LA.1 c.rk i j f H h⟩
 exact⟨(LA.1 c.cr j i H f h).symm,(LA.1 c.rk j i H f h).symm⟩
def fT.fA{S:aG}(c:fT F z T B S)(h:x∈z)(hp:x.k.ay):tZ F (aK z) x.k:=by obtain⟨⟨⟨⟨g0,g1⟩,_⟩,_⟩,_⟩:=(lQ hp).1 (c.ok x h).bad;obtain⟨r0,r1⟩:=c.rr x h hp;exact⟨g0,g1,r0,r1⟩
def fT.dg{S:aG}(c:fT F z T B S)(hl:I z<=1000000):gN F (aK z):=by
 refine⟨by rw[cg];exact hl,⟨λl hl hp=>?_,λi j l m f n pl v e=>?_⟩,atj c.ev (λl hl M=>?_) (λi j l m f n D E e u=>?_),λl hl=>?_⟩
 .obtain⟨x,h,rfl⟩:=ch.1 hl;exact c.fA h hp
 .obtain⟨x,h,rfl⟩:=CK f;obtain⟨y,H,rfl⟩:=CK n;refine Decidable.byContradiction λu=>?_;obtain⟨L,A⟩:=(Db (c.fA (a7 h) pl) (c.fA (a7 H) v)).1 e;exact(c.KB h H u).2 pl v L A
 .obtain⟨x,h,rfl⟩:=ch.1 hl;exact c.ids x h M
 .obtain⟨x,h,rfl⟩:=CK f;obtain⟨y,H,rfl⟩:=CK n;have:=(c.KB h H u).1 D E e;refine⟨?_,this.sg⟩;rw[this.ov];cases y.k.over<;>simp
 obtain⟨x,h,rfl⟩:=ch.1 hl;exact zB (c.ok x h).bad
def fT.uC{S:aG}(c:fT F z T B S):uC F (aK z):=λl hl hp=>by obtain⟨x,h,rfl⟩:=ch.1 hl;exact((lQ hp).1 (c.ok x h).bad).1.1.1
def fT.SS{S:aG}(c:fT F z T B S)(hl:I z<=1000000){k:Nat}(E:(aA (aK z))[k]?=some u)(hv:(aA (aK z))[(k+1)%I (aA (aK z))]?=some v)(n:z[u]?=some x)(j:z[v]?=some y):x.up.l=y.up.r/\x.lo.l=y.lo.r:=by
 have ok:=c.dg hl;have hk:=(bt.1 E).1;obtain⟨l,N,O,X⟩:=v7 ok.ax E;obtain⟨m,L,D,M⟩:=v7 ok.ax hv;rw[Aa n]at N;cases N;rw[Aa j]at L;cases L;have Z:=c.fA (a7 n) O;have R:=c.fA (a7 j) D;have A:=c.pl x (a7 n) O;have Q:=c.pl y (a7 j) D;obtain⟨x1,x2,x3,x4⟩:=Z;obtain⟨y1,y2,y3,y4⟩:=R;have h:∀f:Nat->Nat->Nat,(∀g,g<F->f g (aV (aK z) g)=f (g+1) 0)->f F (aV (aK z) F)=f 0 0->f x.k.gate.toNat x.k.au.toNat=f y.k.gate.toNat (y.k.au.toNat-1):=by
  intro f hf Y;unfold dQ at X M;by_cases c1:k+1<I (aA (aK z))
  .rw[eJ c1]at M;exact Kf hf J J J J J
  have hT:=Bw c.uC;have ae:=pX (aK z) F;have:k+1=I (aA (aK z)):=J;rw[this,w_]at M;rw[Kf hf (g:=x.k.gate.toNat) (k:=x.k.au.toNat) (g':=F) (j:=aV (aK z) F) J (cJ _) J (cJ _) J,Y];exact Kf hf (bZ _) J (bZ _) J (by show 0+0=_;omega)
 exact⟨by rw[A.et,Q.wt];exact h T (λg H=>(c.gt g H).1) c.gz.1,by rw[A.eb,Q.wb];exact h B (λg H=>(c.gt g H).2) c.gz.2⟩
def fT.walk{S:aG}(c:fT F z T B S)(hl:I z<=1000000)(h:iR s z s)(ae:s.b=false){x:Nat}(hx:x<aT (aK z)):ja z (aU (aK z) x)=ja z x:=by
 have ok:=c.dg hl;have M:I (aK z)=I z:=cg ..;have hN:aT (aK z)=2*I z+2*I (aA (aK z)):=by unfold aT;rw[M]
 have gH:=Lm c.ok h ae;by_cases c1:x<2*I z
 .obtain⟨v,D,hv,rfl⟩:∃v D,v<I z/\x=g_ (I z) v D:=⟨_,_,by
   split
   .exact cT _ J
   omega,Nx c1⟩
  obtain⟨e,H⟩:=aP (h:=z) hv;have f:=Aa H;have oe:=c.ok e (a7 H);rw[aqI h H];rcases zB oe.bad with hp|Z
  .have E:dn (aK z) v=e.p.d:=by
    have:=(gH v e H).1;rw[(oe.pb hp).2]at this;revert this;cases e.p.d<;>cases dn (aK z) v<;>simp
   obtain⟨a1,a2⟩:=Iu ok f hp;have t:=Cn f hp D;rw[M]at t;rw[t,E];by_cases N:(e.p.d==D)
   .rw[aD N,aaL a2 H];unfold aQ.up;have:=eq_of_beq N;subst this;cases e.p.d<;>rfl
   rw[aC N];have A:=cT ((aA (aK z)).idxOf v+I (aA (aK z))-1) (show 0<I (aA (aK z)) by omega);obtain⟨u,n⟩:=aP A;obtain⟨l,u1,u2⟩:=sB.1 (a7 n);obtain⟨y,j,rfl⟩:=CK u1;have R:(aA (aK z))[(aA (aK z)).idxOf v]?=some v:=by obtain⟨q,hq⟩:=aP a1;rw[dD,hq]at a2;rw[hq];exact congrArg some a2
   have:=(c.SS hl n (by rw[wx a1];exact R) j H).2;rw[VS (by rw[dD,n];rfl) j,this];unfold aQ.lo;revert N;cases e.p.d<;>cases D<;>simp[jE]
  obtain⟨b1,ac,A,mc,mi,mo,ms⟩:=qN ok.cr f Z;obtain⟨y,j,rfl⟩:=CK A;have aO:v≠iI (aK z) v:=by intro ee;rw[<-ee,f]at A;have:=kA A;rw[<-this]at mo;revert mo;cases e.k.over<;>simp
  obtain⟨_,_,X,xb,xc,xd⟩:=(c.KB H j aO).1 Z mc mi.symm;have t:=w9 f Z D;rw[M]at t;rw[t,aaY h j];unfold cM at X xb;cases hg:(e.k.over==(e.k.sign==1))<;>rw[hg]at X xb<;>simp only[fE,if_false,if_true]at X xb<;>cases D<;>simp_all
 have hk:(x-2*I z)/2<I (aA (aK z)):=J;obtain⟨u,n⟩:=aP hk;obtain⟨l,u1,u2⟩:=sB.1 (a7 n);obtain⟨e,H,rfl⟩:=CK u1;have Y:(aA (aK z)).getD ((x-2*I z)/2) 0=u:=by rw[dD,n];rfl
 rcases qL x with Ay|Ay
 .have L:x=2*I z+2*((x-2*I z)/2):=J;have A:=cT ((x-2*I z)/2+1) (show 0<I (aA (aK z)) by omega);obtain⟨w,hw⟩:=aP A;obtain⟨l,w1,w2⟩:=sB.1 (a7 hw);obtain⟨y,j,rfl⟩:=CK w1;have Q:(aA (aK z)).getD (((x-2*I z)/2+1)%I (aA (aK z))) 0=w:=by rw[dD,hw];rfl
  have O:=c.ok y (a7 j);have E:dn (aK z) w=y.p.d:=by have:=(gH w y j).1;rw[(O.pb w2).2]at this;revert this;cases y.p.d<;>cases dn (aK z) w<;>simp
  have t:=AN (f:=aK z) ((x-2*I z)/2);rw[M,<-L]at t;rw[t,Q,aaY h j,E];have a:=(c.SS hl n hw H j).1;have r:=aaL Y H;rw[<-L]at r;rw[r,a];unfold aQ.up;cases y.p.d<;>simp[jE]
 have L:x=2*I z+2*((x-2*I z)/2)+1:=J;have O:=c.ok e (a7 H);have E:dn (aK z) u=e.p.d:=by have:=(gH u e H).1;rw[(O.pb u2).2]at this;revert this;cases e.p.d<;>cases dn (aK z) u<;>simp
 have t:=A_ (f:=aK z) ((x-2*I z)/2);rw[M,<-L]at t;rw[t,Y,aaY h H,E];have r:=VS Y H;rw[<-L]at r;rw[r];unfold aQ.lo;cases e.p.d<;>simp[jE]
def fT.check{S:aG}(c:fT F z T B S){r:fG}(D:z=x::r)(hp:x.k.ay)(u:x.p.d)(hl:I z<=400)(eS:aq U.ak (aK z)<=200)(hF:F<=40):dk F (aK z)=0:=by
 have ok:=c.dg J;have n:I (aK z)=I z:=cg ..;obtain⟨s,h⟩:=c.path;have Q:z[0]?=some x:=by rw[D];rfl
 have ae:s.b=false:=by rw[<-Kj h Q,((c.ok x (a7 Q)).pb hp).2,u];rfl
 have jD:0<I z:=by rw[D];simp
 have gH:=Lm c.ok h ae;have Y:aq U.ay (aK z)%2=0:=by
  obtain⟨y,H⟩:=aP (h:=z) (k:=I z-1) J;have:=(gH _ y H).2;rw[Mv h H,ae,show I z-1+1=I (aK z) by rw[n];omega]at this;unfold dn at this;rw[jZ]at this
  simpa using this
 have O:fW (aK z)=aq U.ay (aK z)+aq U.ak (aK z)/2+2:=by
  obtain⟨b1,b2⟩:=ayv ok;have v:∀a∈S,∃d,ja z d=a/\d<2*I z:=λa ha=>by
   obtain⟨y,H,e⟩:=c.wit a ha;obtain⟨j,A⟩:=fK H;have sP:=(bt.1 A).1;rcases e with e|e
   .exact⟨2*j,by unfold ja;rw[aD J,aD J,show 2*j/2=j by omega,agJ A,e],J⟩
   exact⟨2*j+1,by unfold ja;rw[aD J,aC J,show(2*j+1)/2=j by omega,agJ A,e],J⟩
  obtain⟨M,E,N⟩:=ZM (P:=λa d=>ja z d=a/\d<2*I z) (f:=ja z) (λa d h=>h.1) v;have hN:aT (aK z)=2*I z+2*I (aA (aK z)):=by unfold aT;rw[n]
  have:=ajG (mE ok) (φ:=ja z) (λy H=>c.walk J h ae H) (h:=M) (λd u=>by obtain⟨_,_,h⟩:=N d u;omega) (by rw[E];exact c.nd)
  have hM:I M=I S:=by rw[<-E,cg]
  have L:=c.num;have:I M<=fW (aK z):=this;omega
 have Z:aK z≠[]:=by intro e;rw[e]at n;simp at n;omega
 unfold dk;rw[aC (by rw[n];omega),aC J,aC Z,aD];unfold oa;have R:=(GB c.uC).2 ⟨ok.ax.fA,ok.ax.inj⟩;have ya:(aK z).any (eo F)=false:=FM.2 λl hl=>by obtain⟨y,H,rfl⟩:=ch.1 hl;rw[(c.ok y H).bad];decide
 rw[Aa Q,Nn.2 ⟨ya,R,ok.cr⟩,O,Y];have X:(x.k.kind==1):=hp;simp only[X,sv,zK]
def gO.check{l:aW}(c:gO F l)(hl:I l<=400)(E:aq U.ak (l.map aN.l)<=200)(n:F<=40):dk F (aY l)=0:=by
 obtain⟨w,T,B,S,x,r,u,hp,m,j,H,cz⟩:=c.fin;have v:aq U.ak (aK w)=aq U.ak (l.map aN.l):=by
  rw[j];have hf:(ue l).getD 0<=I l:=by
   cases h:ue l with
   |none=>exact bZ _
   |some f=>
    have:=CU h
    grind
  unfold aY;rw[Rg hf];show List.countP _ _=List.countP _ _;rw[fL,uu,QW,<-uu,<-fL,jS]
 rw[<-j];exact cz.check u hp m J J n
end
def ep(m:af)(x:Nat):Nat:=AX (gW (aU m) (aT m)) x
def j8(m:af)(i:Nat):eN:=⟨ep m (2*i),ep m (2*i+1),!dn m (i+1)⟩
def e_(m:af)(i:Nat):aQ:=⟨⟨m.getD i ij,c9 m i⟩,j8 m ((i+I m-1)%I m),j8 m i⟩
def fc (m:af):fG:=(List.range (I m)).map (e_ m)
def fp (m:af)(g k:Nat):Nat:=ep m (2*I m+2*((dr m g+k+I (aA m)-1)%I (aA m)))
def fm (m:af)(g k:Nat):Nat:=ep m (2*I m+2*((dr m g+k+I (aA m)-1)%I (aA m))+1)
def vA(m:af):(fc m).map aQ.p=an m:=by unfold fc an;rw[h_];rfl
def iX(m:af):aK (fc m)=m:=by
 have h:aK (fc m)=(an m).map aN.l:=by rw[<-vA,h_];rfl
 rw[h];apply pk;intro i;rw[fz];by_cases H:i<I m
 .obtain⟨l,hl⟩:=aP H;rw[fX hl,hl];rfl
 rw[lS (by rw[bY];omega),lS J];rfl
def yy(m:af):I (fc m)=I m:=by simp[fc]
def y_{i:Nat}(h:i<I m):(fc m)[i]?=some (e_ m i):=by simp[fc,h]
theorem fU{i:Nat}{l:U}(h:m[i]?=some l):(e_ m i).k=l:=by
 show m.getD i ij=l
 grind
def ail(f:Nat->aQ)(e:Nat->eN):∀k a,(∀i,a<=i->i<a+k->(f i).i=e i/\(f i).o=e (i+1))->iR (e a) ((List.range' a k).map f) (e (a+k)):=by
 intro k
 induction k with
 |zero=>intro a _;rfl
 |succ k j=>intro a h;obtain⟨m,H⟩:=h a (cJ _) J;refine⟨m,?_⟩;rw[H,show a+(k+1)=a+1+k by omega];exact j _ λi u n=>h i J J
def R_{R:aQ->aQ->Prop}{f:Nat->aQ}{n:Nat}(h:∀i j,i<n->j<n->i≠j->R (f i) (f j)):((List.range n).map f).Pairwise R:=vO.2 (RA (λ{a b} H m D=>h a b (gA.1 H) (gA.1 m) D) (D8))
section
variable {F:Nat} {m:af}
def BU(g:bj F m){i x:Nat}{w:aG}(h:(gW (aU m) (aT m))[i]?=some w)(H:x∈w):ep m x=i:=Kp (Bd _ _).1 h H
def zo(g:bj F m){x:Nat}(j:x<aT m):∃w,(gW (aU m) (aT m))[ep m x]?=some w/\x∈w:=by obtain⟨u,H,f⟩:=DS.1 ((Bd _ _).2 x j);obtain⟨i,h⟩:=fK H;rw[BU g h f];exact⟨u,h,f⟩
def DH(g:bj F m){x:Nat}(H:x<aT m):ep m (aU m x)=ep m x:=by obtain⟨w,h,f⟩:=zo g H;exact BU g h (uY (mE g.ok) (a7 h) f)
def WG(g:bj F m)(h:v<I m)(f:Bool):ep m (g_ (I m) v f)=if f then(e_ m v).i.l else(e_ m v).o.r:=by cases f<;>rfl
def Rp(f:Bool):ep m (dS (I m) v f)=if f then(e_ m v).o.l else(e_ m v).i.r:=by cases f<;>rfl
theorem al9(g:bj F m):dn m (I m):=by unfold dn;have:=g.even;simp[this]
def Vm(g:bj F m){i:Nat}(H:i<I m):(e_ m i).i.b= !dn m i:=by
 show(!dn m _)=_;by_cases h:i=0
 .subst h;rw[jN,eJ J,show I m-1+1=I m by omega,al9 g];rfl
 rw[show i+I m-1=(i-1)+I m by omega,lg,eJ J,show i-1+1=i by omega]
def I1(h:v<I m)(f:Bool):g_ (I m) v f<aT m:=by have:=wJ h f;unfold aT;omega
def UL(g:bj F m){l:U}(hl:m[v]?=some l)(hp:l.ay):(e_ m v).p.d=dn m v:=by show c9 m v=_;simp[c9,hl,hp]
def EF(g:bj F m){i:Nat}(H:i<I m):yW F (e_ m i):=by
 obtain⟨l,hl⟩:=aP H;have h:=fU hl;refine⟨by rw[h];exact g.bad l (a7 hl),λf=>?_,λhp=>?_⟩
 .rw[h]at f;rw[Vm g H];show _= !dn m _
  grind [Jc,nL]
 rw[h]at hp;rw[Vm g H,UL g hl hp];refine⟨?_,rfl⟩;show(!dn m _)=_;rw[Ez hl hp,yI]
def Ps(g:bj F m){i:Nat}(v:i<I m)(x:j<I m)(R:i≠j):nk (e_ m i) (e_ m j):=by
 obtain⟨l,hl⟩:=aP v;obtain⟨z,H⟩:=aP x;intro y M e;rw[fU hl]at y e;rw[fU H]at M e;obtain⟨_,hp⟩:=g.ids;obtain⟨d1,D⟩:=hp i j l z hl H y M e R;obtain⟨E,w,A,O,B,Z,ws⟩:=qN g.ok.cr hl y;have h:iI m i=j:=by
  refine Classical.byContradiction λX=>?_;have Y:=(hp _ _ w z A H O M (by rw[B,e]) X).1
  grind
 refine⟨?_,by rw[fU hl,fU H];exact D,?_⟩
 .grind [fU]
 rw[fU hl];have n:=DH g (I1 v true);have T:=DH g (I1 v false);have f:=DH g (I1 x true);have u:=DH g (I1 x false);rw[w9 hl y,h,Rp,WG g v]at n T;rw[w9 H M,<-h,E,h,Rp,WG g x]at f u;have N:(z.over==(z.sign==1))= !cM l:=by grind [cM]
 rw[N]at f u;have Q:(l.over==(l.sign==1))=cM l:=rfl;rw[Q]at n T;cases L:cM l<;>rw[L]at n T f u<;>simp at n T f u<;>constructor<;>simp[n,T,f,u]
def R5(g:bj F m){l:U}(hl:m[v]?=some l)(hp:l.ay):B1 (fp m) (fm m) (e_ m v):=by
 have j:=(bt.1 hl).1;have ok:=g.ok;obtain⟨g0,g1,r0,r1⟩:=ok.ax.fA l (a7 hl) hp;obtain⟨A,z⟩:=Iu ok hl hp;have B:dr m l.gate.toNat+l.au.toNat=(aA m).idxOf v+1:=by rw[Gn ok.ax hl hp];unfold dQ;omega
 have y:dr m l.gate.toNat+(l.au.toNat-1)=(aA m).idxOf v:=J;have E:(dr m l.gate.toNat+l.au.toNat+I (aA m)-1)%I (aA m)=(aA m).idxOf v:=by rw[B,show(aA m).idxOf v+1+I (aA m)-1=(aA m).idxOf v+I (aA m) by omega,lg,eJ A]
 have h:=fU hl;have H:=UL g hl hp;have N:∀k,k<I (aA m)->2*I m+2*k<aT m/\2*I m+2*k+1<aT m:=λk h=>by unfold aT;omega
 have n:=DH g (I1 j (dn m v));have x:=DH g (I1 j (!dn m v));have u:=DH g (N _ A).2;have Q:=DH g (N _ (cT ((aA m).idxOf v+I (aA m)-1) J)).1;rw[Cn hl hp,WG g j]at n x;rw[A_,z,Rp]at u;rw[AN,wx A,z,Rp]at Q;constructor
 .rw[h];unfold fp;rw[y];unfold aQ.up;rw[H];cases f:dn m v<;>rw[f]at Q<;>exact Q
 .rw[h];unfold fp;rw[E];unfold aQ.up;rw[H];cases f:dn m v<;>rw[f]at n<;>exact n.symm
 .rw[h];unfold fm;rw[y];unfold aQ.lo;rw[H];cases f:dn m v<;>rw[f]at x<;>exact x.symm
 rw[h];unfold fm;rw[E];unfold aQ.lo;rw[H];cases f:dn m v<;>rw[f]at u<;>exact u
def bj.cz(g:bj F m):fT F (fc m) (fp m) (fm m) (List.range (fW m)):=by
 have Q:=gy.2 g.ne;have M:∀x∈fc m,∃i,i<I m/\x=e_ m i:=λx f=>by obtain⟨i,H,rfl⟩:=ch.1 f;exact⟨i,gA.1 H,rfl⟩
 have Y:=Bw λl hl hp=>((lQ hp).1 (g.bad l hl)).1.1.1;have ae:=pX m F;have n:0<I (aA m):=by obtain⟨l,A,v⟩:=g.first;exact Ns (sB.2 ⟨l,A,v⟩)
 have y:=g.ok.cr;unfold nN at y;simp only[cP,c8]at y;refine⟨⟨j8 m (I m-1),?_⟩,λx f=>?_,R_ λi j H D z=>Ps g H D z,by rw[iX];exact y.1.1,λx f N=>?_,R_ λi j H D z=>?_,λx f hp=>?_,λx f hp=>?_,
  λk X=>?_,?_,?_,D8,λs ae=>?_,?_⟩
 .have:=ail (e_ m) (λi=>j8 m ((i+I m-1)%I m)) (I m) 0 λi _ H=>⟨rfl,?_⟩
  .simp only[jN]at this;rwa[eJ J,show I m+I m-1=(I m-1)+I m by omega,lg,eJ J,<-abz]at this
  show j8 m i=j8 m ((i+1+I m-1)%I m)
  grind [lg,eJ]
 .obtain⟨i,H,rfl⟩:=M x f;exact EF g H
 .obtain⟨i,H,rfl⟩:=M x f;obtain⟨l,hl⟩:=aP H;rw[fU hl]at N |-;rw[iX];exact g.ids.1 l (a7 hl) N
 .obtain⟨l,hl⟩:=aP H;obtain⟨R,n⟩:=aP D;intro pl u E B;rw[fU hl]at pl E B;rw[fU n]at u E B;exact z (g.ok.ax.inj i j l R hl n pl u ((Db (g.ok.ax.fA l (a7 hl) pl) (g.ok.ax.fA R (a7 n) u)).2 ⟨E,B⟩))
 .obtain⟨i,H,rfl⟩:=M x f;obtain⟨l,hl⟩:=aP H;rw[fU hl]at hp |-;rw[iX];obtain⟨_,_,r0,r1⟩:=g.ok.ax.fA l (a7 hl) hp;exact⟨r0,r1⟩
 .obtain⟨i,H,rfl⟩:=M x f;obtain⟨l,hl⟩:=aP H;rw[fU hl]at hp;exact R5 g hl hp
 .rw[iX];unfold fp fm;rw[pX m k,uz];exact⟨rfl,rfl⟩
 .rw[iX];unfold fp fm;have E:dr m F+aV m F=I (aA m):=J;have O:dr m 0=0:=rfl;rw[E,O,jN,show(aA m).length+I (aA m)-1=(I (aA m)-1)+I (aA m) by omega,lg];exact⟨rfl,rfl⟩
 .obtain⟨l,A,v⟩:=g.first;exact⟨e_ m 0,a7 (y_ Q),by rw[fU A];exact v⟩
 .obtain⟨w,L⟩:=aP (gA.1 ae);obtain⟨⟨d,t,e,T⟩,_⟩:=AY g.ok w (a7 L);have hp:ep m d=s:=BU g L (by rw[e];simp);refine⟨e_ m (d/2),a7 (y_ J),?_⟩;rcases qL d with h|h
  .refine .inl ?_;show s=ep m (2*(d/2));rw[show 2*(d/2)=d by omega,hp]
  refine .inr ?_;show s=ep m (2*(d/2)+1);rw[show 2*(d/2)+1=d by omega,hp]
 rw[iX,wI,g.nw];omega
end
structure j_ (F:Nat) (z:fG) (T B:Nat->Nat->Nat):Prop where
 ok:∀x∈z,yW F x
 cr:z.Pairwise nk
 ev:aq U.ak (aK z)%2=0
 ids:∀x∈z,x.k.ak->1<=x.k.id/\x.k.id<=((aq U.ak (aK z)/2:Nat):Int)
 rk:z.Pairwise zH
 rr:∀x∈z,x.k.ay->1<=x.k.au/\x.k.au<=(aV (aK z) x.k.gate.toNat:Int)
 pl:∀x∈z,x.k.ay->B1 T B x
 gt:∀g,g<F->T g (aV (aK z) g)=T (g+1) 0/\B g (aV (aK z) g)=B (g+1) 0
 gz:T F (aV (aK z) F)=T 0 0/\B F (aV (aK z) F)=B 0 0
def eN.mp(n:Nat->Nat)(s:eN):eN:=⟨n s.l,n s.r,s.b⟩
def aQ.mp(n:Nat->Nat)(h:U->U)(x:aQ):aQ:=⟨⟨h x.p.l,x.p.d⟩,x.i.mp n,x.o.mp n⟩
def sD.mp{g:Bool}{i o j q:eN}(h:sD g i o j q)(n:Nat->Nat):sD g (i.mp n) (o.mp n) (j.mp n) (q.mp n):=by obtain⟨a,b,c,d⟩:=h;cases g<;>simp at a b c d<;>constructor<;>simp[eN.mp,a,b,c,d]
def aek(n:Nat->Nat)(h:U->U)(x:aQ):(x.mp n h).up=x.up.mp n:=by unfold aQ.up aQ.mp;cases x.p.d<;>rfl
def afy(n:Nat->Nat)(h:U->U)(x:aQ):(x.mp n h).lo=x.lo.mp n:=by unfold aQ.lo aQ.mp;cases x.p.d<;>rfl
def Gk:∀ {z:fG}{s t:eN},iR s z t->iR (s.mp n) (z.map (aQ.mp n h)) (t.mp n):=by
 intro z
 induction z with
 |nil=>intro s t e;cases e;rfl
 |cons x z f=>intro s t e;obtain⟨rfl,e⟩:=e;exact⟨rfl,f e⟩
def ab7{S:aG}(H:S.Nodup):I S<=I (S.filter λs=> !L.contains s)+I L:=by
 have f:I S=I (S.filter λs=> !L.contains s)+I (S.filter λs=>L.contains s):=by
  have:=List.length_eq_countP_add_countP (λs=> !L.contains s) (l:=S);rw[UM,UM]at this
  grind
 have j:=I5 (S.filter λs=>L.contains s) L (H.filter _) λx h=>by simpa using(r4.1 h).2
 omega
structure zA (h:U->U):Prop where
 kind:∀l,(h l).kind=l.kind
 over:∀l,(h l).over=l.over
 sign:∀l,(h l).sign=l.sign
def zA.ay(s:zA h)(l:U):(h l).ay=l.ay:=by unfold U.ay;rw[s.kind]
def zA.ak(s:zA h)(l:U):(h l).ak=l.ak:=by unfold U.ak;rw[s.kind]
def zA.id:zA id:=⟨λ_=>rfl,λ_=>rfl,λ_=>rfl⟩
section
variable {F:Nat} {X r A:fG} {T B M H:Nat->Nat->Nat} {S:aG} {n:Nat->Nat} {h:U->U}
def fT.q(c:fT F z T B S):j_ F z T B:=⟨c.ok,c.cr,c.ev,c.ids,c.rk,c.rr,c.pl,c.gt,c.gz⟩
def j_.perm(c:j_ F z T B)(f:z.Perm O):j_ F O T B:=by
 have H:∀ {x},x∈O↔x∈z:=λ{x}=>f.symm.mem_iff;have e:∀p,aq p _=aq p _:=λp=>(vQ f).symm;have E:∀g,aV _ g=aV _ g:=λg=>e _;exact⟨λx h=>c.ok x (H.1 h),(f.pairwise_iff λ{x y}=>nk.symm).1 c.cr,by rw[e];exact c.ev,λx h=>by rw[e];exact c.ids x (H.1 h),(f.pairwise_iff λ{x y}=>zH.symm).1 c.rk,
  λx h=>by rw[E];exact c.rr x (H.1 h),λx h=>c.pl x (H.1 h),λg j=>by rw[E];exact c.gt g j,by rw[E];exact c.gz⟩
def yW.mp{x:aQ}(o:yW F x)(s:zA h)(H:eo F (h x.k)=false):yW F (x.mp n h):=by
 refine⟨H,λf=>?_,λhp=>?_⟩
 .exact o.cb (by rw[<-s.ak];exact f)
 exact o.pb (by rw[<-s.ay];exact hp)
def j_.edit(q:j_ F (X++r) T B)(s:zA h)(hb:∀x∈r,eo F (h x.k)=false)
  (L:∀x∈r,∀y∈r,x.k.ak->y.k.ak->(h x.k).id=(h y.k).id->x.k.id=y.k.id)
  (jX:∀x∈r,∀y∈r,x.k.ay->y.k.ay->(h x.k).gate=(h y.k).gate->(h x.k).au=(h y.k).au->x.k.gate=y.k.gate/\x.k.au=y.k.au)
  (n1:∀x∈A,yW F x) (n2:A.Pairwise nk) (n3:A.Pairwise zH) (n4:∀x∈A,∀y∈r,nk x (y.mp n h)) (Y:∀x∈A,∀y∈r,zH x (y.mp n h))
  (ev:aq U.ak (aK (A++r.map (aQ.mp n h)))%2=0)
  (ids:∀x∈A,x.k.ak->1<=x.k.id/\x.k.id<=((aq U.ak (aK (A++r.map (aQ.mp n h)))/2:Nat):Int))
  (vL:∀x∈r,x.k.ak->1<=(h x.k).id/\(h x.k).id<=((aq U.ak (aK (A++r.map (aQ.mp n h)))/2:Nat):Int))
  (rr:∀x∈A,x.k.ay->1<=x.k.au/\x.k.au<=(aV (aK (A++r.map (aQ.mp n h))) x.k.gate.toNat:Int))
  (R:∀x∈r,x.k.ay->1<=(h x.k).au/\(h x.k).au<=(aV (aK (A++r.map (aQ.mp n h))) (h x.k).gate.toNat:Int))
  (pl:∀x∈A,x.k.ay->B1 M H x)
  (Q:∀x∈r,x.k.ay->(n (T x.k.gate.toNat (x.k.au.toNat-1))=M (h x.k).gate.toNat ((h x.k).au.toNat-1)/\n (B x.k.gate.toNat (x.k.au.toNat-1))=H (h x.k).gate.toNat ((h x.k).au.toNat-1))/\n (T x.k.gate.toNat x.k.au.toNat)=M (h x.k).gate.toNat (h x.k).au.toNat/\n (B x.k.gate.toNat x.k.au.toNat)=H (h x.k).gate.toNat (h x.k).au.toNat)
  (gt:∀g,g<F->M g (aV (aK (A++r.map (aQ.mp n h))) g)=M (g+1) 0/\H g (aV (aK (A++r.map (aQ.mp n h))) g)=H (g+1) 0)
  (gz:M F (aV (aK (A++r.map (aQ.mp n h))) F)=M 0 0/\H F (aV (aK (A++r.map (aQ.mp n h))) F)=H 0 0):j_ F (A++r.map (aQ.mp n h)) M H:=by
 have v:∀x∈A++r.map (aQ.mp n h),x∈A\/ ∃y∈r,x=y.mp n h:=λx f=>by
  rcases gn.1 f with f|f
  .exact .inl f
  obtain⟨y,j,rfl⟩:=ch.1 f;exact .inr ⟨y,j,rfl⟩
 have z:∀y∈r,y∈X++r:=λy j=>uX _ j;refine⟨λx f=>?_,?_,ev,λx f m=>?_,?_,λx f hp=>?_,λx f hp=>?_,gt,gz⟩
 .rcases v x f with f|⟨y,j,rfl⟩
  .exact n1 x f
  exact(q.ok y (z y j)).mp s (hb y j)
 .refine He.2 ⟨n2,vO.2 (((He.1 q.cr).2.1).imp_of_mem λ{x y} f j D m u e=>?_),λx f y j=>?_⟩
  .have m:x.k.ak:=by rw[<-s.ak];exact m
   have u:y.k.ak:=by rw[<-s.ak];exact u
   obtain⟨h1,Z,h3⟩:=D m u (L x f y j m u e);refine⟨?_,?_,?_⟩
   .show(h x.k).over= !(h y.k).over;rw[s.over,s.over];exact h1
   .show(h x.k).sign=(h y.k).sign;rw[s.sign,s.sign];exact Z
   have:cM (x.mp n h).k=cM x.k:=by show((h x.k).over==((h x.k).sign==1))=_;rw[s.over,s.sign];rfl
   rw[this];exact h3.mp n
  obtain⟨w,E,rfl⟩:=ch.1 j;exact n4 x f w E
 .rcases v x f with f|⟨y,j,rfl⟩
  .exact ids x f m
  exact vL y j (by rw[<-s.ak];exact m)
 .refine He.2 ⟨n3,vO.2 (((He.1 q.rk).2.1).imp_of_mem λ{x y} f j D m u e1 e2=>?_),λx f y j=>?_⟩
  .have m:x.k.ay:=by rw[<-s.ay];exact m
   have u:y.k.ay:=by rw[<-s.ay];exact u
   obtain⟨f1,f2⟩:=jX x f y j m u e1 e2;exact D m u f1 f2
  obtain⟨w,E,rfl⟩:=ch.1 j;exact Y x f w E
 .rcases v x f with f|⟨y,j,rfl⟩
  .exact rr x f hp
  exact R y j (by rw[<-s.ay];exact hp)
 rcases v x f with f|⟨y,j,rfl⟩
 .exact pl x f hp
 have hp:y.k.ay:=by rw[<-s.ay];exact hp
 obtain⟨p1,p2,N,O⟩:=q.pl y (z y j) hp;obtain⟨⟨a1,a2⟩,a3,a4⟩:=Q y j hp;constructor
 .rw[aek];show n y.up.r=_;rw[p1];exact a1
 .rw[aek];show n y.up.l=_;rw[p2];exact a3
 .rw[afy];show n y.lo.r=_;rw[N];exact a2
 rw[afy];show n y.lo.l=_;rw[O];exact a4
def j_.XV{V:Nat}(q:j_ F (A++r.map (aQ.mp n h)) M H)(B:S.Nodup)(wit:∀s∈S,∃x∈X++r,s=x.o.l\/s=x.o.r)
  (m:O.Perm (A++r.map (aQ.mp n h))) (R:∃s,iR s O s) (one:∃x∈A++r.map (aQ.mp n h),x.k.ay)
  (z:∀s∈S,s∉L->n s=s) (D:∀x∈X,∀s∈S,(s=x.o.l\/s=x.o.r)->s∉L->∃y∈A++r.map (aQ.mp n h),s=y.o.l\/s=y.o.r)
  (hN:N.Nodup) (E:∀s∈N,s∉S) (v:∀s∈N,∃y∈A++r.map (aQ.mp n h),s=y.o.l\/s=y.o.r)
  (Z:V<=I S) (num:aq U.ay (aK (A++r.map (aQ.mp n h)))+aq U.ak (aK (A++r.map (aQ.mp n h)))/2+1+I L<=V+I N):fT F O M H (N++S.filter λs=> !L.contains s)/\V+I N<=I (N++S.filter λs=> !L.contains s)+I L:=by
 have Q:=q.perm m.symm;have Y:∀ {x},x∈O↔x∈A++r.map (aQ.mp n h):=λ{x}=>m.mem_iff;refine⟨⟨R,Q.ok,Q.cr,Q.ev,Q.ids,Q.rk,Q.rr,Q.pl,Q.gt,Q.gz,?_,?_,λs ae=>?_,?_⟩,by rw[gb];have:=ab7 (L:=L) B;omega⟩
 .grind
 .grind
 .have T:∃y∈A++r.map (aQ.mp n h),s=y.o.l\/s=y.o.r:=by
   rcases gn.1 ae with ae|ae
   .exact v s ae
   obtain⟨u,j⟩:=r4.1 ae;have j:s∉L:=by simpa using j
   obtain⟨x,f,e⟩:=wit s u;rcases gn.1 f with f|f
   .exact D x f s u e j
   refine⟨x.mp n h,uX _ (ch.2 ⟨x,f,rfl⟩),?_⟩;have hp:=z s u j;rcases e with e|e
   .left;show s=n x.o.l;rw[<-e,hp]
   right;show s=n x.o.r;rw[<-e,hp]
  grind
 have e:∀p,aq p (aK O)=aq p (aK (A++r.map (aQ.mp n h))):=λp=>vQ m;rw[e,e,gb];have:=ab7 (L:=L) B;omega
def j_.done{l:aW}{V:Nat}(q:j_ F (A++r.map (aQ.mp n h)) M H)(B:S.Nodup)(wit:∀s∈S,∃x∈X++r,s=x.o.l\/s=x.o.r)
  (u:O.Perm (A++r.map (aQ.mp n h))) (D:∃s,iR s O s) (hl:O.map aQ.p=l) (one:∃x∈A++r.map (aQ.mp n h),x.k.ay)
  (f:∀s∈S,s∉L->n s=s) (v:∀x∈X,∀s∈S,(s=x.o.l\/s=x.o.r)->s∉L->∃y∈A++r.map (aQ.mp n h),s=y.o.l\/s=y.o.r)
  (z:N.Nodup) (j:∀s∈N,s∉S) (m:∀s∈N,∃y∈A++r.map (aQ.mp n h),s=y.o.l\/s=y.o.r)
  (E:V<=I S) (num:aq U.ay (aK (A++r.map (aQ.mp n h)))+aq U.ak (aK (A++r.map (aQ.mp n h)))/2+1+I L<=V+I N):gO F l:=by
 obtain⟨c,_⟩:=j_.XV q B wit u D one f v z j m E num;exact⟨O,M,H,_,hl,c⟩
end
def asb(x:aQ):x.mp id id=x:=rfl
def Cj(r:fG):r.map (aQ.mp id id)=r:=by rw[show _=id from funext λx=>asb x,List.map_id]
def qj(p:U->Bool)(a b:fG):aq p (aK (a++b))=aq p (aK a)+aq p (aK b):=by grind
def fh(p:U->Bool)(x:aQ)(b:fG):aq p (aK (x::b))=(if p x.k then 1 else 0)+aq p (aK b):=by grind
def tq(p:U->Bool):aq p (aK [])=0:=rfl
def rB{p:U->Bool}(hp:∀l,p (h l)=p l)(r:fG):aq p (aK (r.map (aQ.mp n h)))=aq p (aK r):=by
 induction r with
 |nil=>rfl
 |cons x r f=>rw[eZ,fh,fh,f];show(if p (h x.k)then 1 else 0)+_=_;rw[hp]
def Ab{l:U}(g:Nat)(h:l.ak):jq g l=false:=by grind [jq,nL]
theorem kJ{l:U}(h:l.ak):l.ay=false:=by
 cases hp:l.ay
 .rfl
 rw[nL hp]at h;cases h
def abE(h:x.k.ak=false):nk x y:=λH=>by rw[h]at H;cases H
def H0(h:x.k.ak):zH x y:=λhp=>by rw[kJ h]at hp;cases hp
def ad5{α:Type}{z:List α}{a:Nat}(u:a<I z)(A:2<=I z):∃x y r,z.drop a++z.take a=x::y::r/\z[a]?=some x/\z[(a+1)%I z]?=some y:=by
 obtain⟨x,n⟩:=aP u;obtain⟨hl,e⟩:=bt.1 n;have v:z.drop a=x::z.drop (a+1):=by rw[<-e,ux]
 by_cases c:a+1<I z
 .obtain⟨y,H⟩:=aP c;obtain⟨M,F⟩:=bt.1 H
  grind [ux,eJ]
 have ea:a+1=I z:=J;obtain⟨y,H⟩:=aP (h:=z) (k:=0) J;have D:z.drop (a+1)=[]:=List.drop_eq_nil_of_le J;have B:z.take a=y::(z.take a).drop 1:=by
  have j:(z.take a)[0]?=some y:=by rw[p_,aD J];exact H
  obtain⟨f,E⟩:=bt.1 j;have:=ux (h:=f);rw[E,NJ]at this;exact this.symm
 grind [w_]
section
variable {F:Nat} {m:af}
def kW{l:U}(h:l.ak):(if U.ak l=true then 1 else 0)=1/\(if U.ay l=true then 1 else 0)=0:=by simp[h,kJ h]
def u4{l:U}(h:l.ay):(if U.ak l=true then 1 else 0)=0/\(if U.ay l=true then 1 else 0)=1:=by simp[h,nL h]
def L5(g:bj F m){a:Nat}(ha:a<I m){sg:Int}{o:Bool}(ae:sg=1\/sg= -1):gO F (oo m a sg o):=by
 have c:=g.cz;have j:=iX m;obtain⟨s,hp⟩:=c.path;have T:fc m=(fc m).take (a+1)++(fc m).drop (a+1):=(jS ..).symm;rw[T]at hp;obtain⟨M,mA,oz⟩:=zm.1 hp
 let N:Int:=((aq U.ak m/2+1:Nat):Int)
 let k:eN:=if o==(sg==1)then⟨M.r,fW m,M.b⟩else⟨fW m,M.l,M.b⟩
 let x:aQ:=⟨⟨⟨2,0,0,N,sg,o⟩,false⟩,M,k⟩
 let y:aQ:=⟨⟨⟨2,0,0,N,sg,!o⟩,false⟩,k,M⟩
 have Z:k.b=M.b:=by show(if _ then _ else _:eN).b=_;split<;>rfl
 have n:x.k.ak:=rfl;have z:y.k.ak:=rfl;have Q:∀ov,eo F ⟨2,0,0,N,sg,ov⟩=false:=λov=>by simp[eo];simpa using(by rcases ae with rfl|rfl<;>decide)
 have B:aq U.ak (aK ([x,y]++(fc m).map (aQ.mp id id)))=aq U.ak m+2:=by rw[Cj,qj,fh,fh,tq,j,(kW n).1,(kW z).1];omega
 have fH:aq U.ay (aK ([x,y]++(fc m).map (aQ.mp id id)))=aq U.ay m:=by rw[Cj,qj,fh,fh,tq,j,(kW n).2,(kW z).2];omega
 have E:∀q,aV (aK ([x,y]++(fc m).map (aQ.mp id id))) q=aV m q:=λq=>by show aq _ _=aq _ _;rw[Cj,qj,fh,fh,tq,j,Ab q n,Ab q z];simp
 have ev:=c.ev;rw[j]at ev;have Ee:zW x y:=by
  refine⟨by show o= !!o;simp,rfl,?_⟩;show sD (o==(sg==1)) M k k M;cases A:(o==(sg==1))
  .have:k=⟨fW m,M.l,M.b⟩:=by show(if _ then _ else _:eN)=_;rw[A];rfl
   rw[this];constructor<;>rfl
  have:k=⟨M.r,fW m,M.b⟩:=by show(if _ then _ else _:eN)=_;rw[A];rfl
  rw[this];constructor<;>rfl
 have Y:=λw H D=>by have:=c.ids w H D;rwa[j]at this
 have q:j_ F ([x,y]++(fc m).map (aQ.mp id id)) (fp m) (fm m):=by
  refine j_.edit (X:=[]) c.q zA.id (λw H=>(c.ok w H).bad) (λ_ _ _ _ _ _ e=>e) (λ_ _ _ _ _ _ e f=>⟨e,f⟩) (λw H=>?_) ?_ ?_ (λu v w H=>?_) (λu v w H=>?_) (by rw[B];omega) (λw H D=>?_) (λw H D=>?_) (λw H hp=>?_) (λw H hp=>?_) (λw H hp=>?_) (λw H hp=>⟨⟨rfl,rfl⟩,rfl,rfl⟩) (λg' A=>?_) ?_
  .simp only[c7,eD,or_false]at H;rcases H with rfl|rfl
   .exact⟨Q o,λ_=>Z.symm,λh=>by cases h⟩
   exact⟨Q (!o),λ_=>Z,λh=>by cases h⟩
  .exact iN.2 ⟨λw H=>by simp only[c7,eD,or_false]at H;subst H;exactλ_ _ _=>Ee,Ex ..⟩
  .exact iN.2 ⟨λw H=>H0 n,Ex ..⟩
  .intro R h2 e;have qW:=Y w H h2;simp only[c7,eD,or_false]at v;have:u.k.id=N:=by rcases v with rfl|rfl<;>rfl
   have e:u.k.id=w.k.id:=e;exfalso;omega
  .simp only[c7,eD,or_false]at v;rcases v with rfl|rfl
   .exact H0 n
   exact H0 z
  .rw[B];simp only[c7,eD,or_false]at H;have:w.k.id=N:=by rcases H with rfl|rfl<;>rfl
   omega
  .rw[B];have qW:=Y w H D;simp only[id];omega
  .simp only[c7,eD,or_false]at H;rcases H with rfl|rfl<;>cases hp
  .rw[E];have:=c.rr w H hp;rwa[j]at this
  .simp only[c7,eD,or_false]at H;rcases H with rfl|rfl<;>cases hp
  .have:=c.gt g' A;rw[j]at this;rw[E];exact this
  have:=c.gz;rw[j]at this;rw[E];exact this
 refine j_.done (X:=[]) (L:=[]) (N:=[fW m]) (O:=(fc m).take (a+1)++[x,y]++(fc m).drop (a+1)) q c.nd (λs ae=>c.wit s ae) ?_ ⟨s,?_⟩ ?_ ?_ (λ_ _ _=>rfl) (λx hx=>by cases hx) (rR.2 ⟨eD,qK⟩) (λs ae=>?_) (λs ae=>?_) (by rw[wI];exact cJ _) ?_
 .rw[Cj];have R:((fc m).take (a+1)++[x,y]++(fc m).drop (a+1)).Perm ([x,y]++(fc m).take (a+1)++(fc m).drop (a+1)):=Ug _ G4;rwa[lf [x,y],<-T]at R
 .exact zm.2 ⟨M,zm.2 ⟨M,mA,rfl,rfl,rfl⟩,oz⟩
 .rw[fL,fL,sC,vv,vA];rfl
 .obtain⟨w,H,e⟩:=c.one;rw[Cj];exact⟨w,uX _ H,e⟩
 .simp only[c7,eD,or_false]at ae;subst ae;simp
 .simp only[c7,eD,or_false]at ae;subst ae;refine⟨x,aE,?_⟩;show fW m=k.l\/fW m=k.r;show fW m=(if _ then _ else _:eN).l\/fW m=(if _ then _ else _:eN).r;split
  .exact .inr rfl
  exact .inl rfl
 rw[B,fH];have:=g.nw;simp only[ga,fP];omega
end
def gq(ids:cL)(l:U):U:=if l.kind==2 then{l with id:=l.id-((ids.take (I ids)).countP (λi=>decide (i<l.id)):Nat)}else l
def yY(ids:cL):zA (gq ids):=by refine⟨λl=>?_,λl=>?_,λl=>?_⟩<;>unfold gq<;>split<;>rfl
def Wp(ids:cL)(p:aN):jn ids p=⟨gq ids p.l,p.d⟩:=by unfold jn gq kh;split<;>rfl
def Ca{ids:cL}{l:U}(h:l.ay):gq ids l=l:=by
 unfold gq;have:=nL h;unfold U.ak at this
 grind
def aeA{ids:cL}{l:U}(h:eo F l=false):eo F (gq ids l)=false:=by
 rcases zB h with hp|H
 .rw[Ca hp];exact h
 rw[J2 H]at h;rw[J2 (by rw[(yY ids).ak];exact H)];unfold gq;split<;>exact h
def afW(ids:cL)(g:Nat)(l:U):jq g (gq ids l)=jq g l:=by
 cases hp:l.ay
 .unfold jq;rw[(yY ids).ay,hp];rfl
 rw[Ca hp]
theorem ahV{ids:cL}{l:U}(h:l.ak):(gq ids l).id=l.id-((ids.countP λi=>decide (i<l.id):Nat):Int):=by grind [gq,U.ak]
def abp{l:aW}{drop:Nat->aN->Bool}{d:aN->Bool}(h:∀i p,drop i p=d p):oc l drop=l.filter λp=> !d p:=by
 have f:∀k,k<=I l->wc l drop k=(l.take k).filter λp=> !d p:=by
  intro k
  induction k with
  |zero=>intro _;rfl
  |succ k j=>
   intro H;obtain⟨p,hp⟩:=aP (h:=l) (k:=k) J;rw[k_,hp,xK,<-j J]
   grind [Nw,EK]
 unfold oc
 grind
def Sb:∀ {z:fG}{s t:eN},iR s z t->z≠[]->∃w∈z,w.o=t:=by
 intro z
 induction z with
 |nil=>intro s t _ h;exact absurd rfl h
 |cons x z f=>
  intro s t h _;obtain⟨_,h⟩:=h;cases z with
  |nil=>cases h;exact⟨x,aE,rfl⟩
  |cons y z=>grind
section
variable {F:Nat} {m:af}
def Xe{r:fG}(q:j_ F (x::y::r) T B)(j:x.k.ak)(n:y.k.ak)(e:x.k.id=y.k.id):∀w∈r,w.k.ak->w.k.id≠x.k.id:=by
 intro w h m E;obtain⟨f,v⟩:=iN.1 q.cr;obtain⟨u,_⟩:=iN.1 v;have a:=(f y aE j n e).ov;rw[(f w (by simp[h]) j m E.symm).ov]at a;rw[(u w h n m J).ov]at a
 grind
def GF(g:bj F m){a:Nat}(j:a<I m):∃x y r s,(fc m).drop a++(fc m).take a=x::y::r/\(an m)[a]?=some x.p/\(an m)[nx m a]?=some y.p/\
  fT F (x::y::r) (fp m) (fm m) (List.range (fW m))/\iR s (x::y::r) s/\(an m).drop a++(an m).take a=(x::y::r).map aQ.p/\(fc m)[a]?=some x/\(fc m)[nx m a]?=some y/\(x::y::r).Perm (fc m):=by
 have f:2<=I m:=by
  obtain _:=g.first;have:=g.even
  grind
 have hl:=yy m;obtain⟨x,y,r,e,H,h⟩:=ad5 (z:=fc m) (a:=a) J J;rw[hl]at h;have c:fT F ((fc m).drop a++(fc m).take a) (fp m) (fm m) (List.range (fW m)):=by refine fT.mJ ?_;rw[jS];exact g.cz
 rw[e]at c;obtain⟨s,ae⟩:=c.path;refine⟨x,y,r,s,e,?_,?_,c,ae,?_,H,h,?_⟩
 .rw[<-vA,fz,H];rfl
 .rw[<-vA,fz,h];rfl
 .rw[<-e,fL,vv,sC,vA]
 rw[<-e];exact G4.trans aE
def adN{a:Nat}{d:aN->Bool}{f:aN->aN}(c:gO F ((((an m).drop a++(an m).take a).filter d).map f)):gO F (((an m).filter d).map f):=by rw[xK,fL]at c;have:=c.mJ;rwa[<-fL,<-xK,jS]at this
def A9{l:U}:l.ak=(l.kind==2):=rfl
def Ge{α:Type}{l:List α}{p:α->Bool}(h:∀x∈l,p x):l.filter p=l:=aca.2 h
def O7(g:bj F m){a:Nat}(ha:a<I m){L:aW}(h:qh m a=some L):gO F L:=by
 obtain⟨x,y,r,s,e,hx,hy,c,hp,mZ,_,_,iU⟩:=GF g ha;have q:=c.q;unfold qh at h;have e1:(an m).getD a ⟨ij,false⟩=x.p:=by rw[dD,hx];rfl
 have e2:(an m).getD ((a+1)%I m) ⟨ij,false⟩=y.p:=by rw[dD,hy];rfl
 simp only[e1,e2]at h;split at h
 case isFalse=>cases h
 rename_i R;simp only[cP,c8]at R;obtain⟨ib,jB,Z⟩:=R;have B:x.k.ak:=by rw[A9];simp[ib]
 have D:y.k.ak:=by rw[A9];simp[jB]
 have qm:=Z;cases h;have Gb:=Xe q B D qm;obtain⟨jj,iK,Av⟩:=hp
 have ix:=(q.ok x aE).cb B;have iy:=(q.ok y aE).cb D;have E:=((iN.1 q.cr).1 y aE B D qm).x4;rw[jj,iK]at E;rw[jj]at ix;rw[iK]at iy;have Y:y.o=s:=by
  obtain⟨k1,k2,k3,k4⟩:=E;have hb:y.o.b=s.b:=by rw[<-iy,<-ix]
  cases y with
  |mk yp yi yo=>
  cases yo with
  |mk l r b=>
  cases s with
  |mk sl sr sb=>
  cases hg:cM x.k<;>rw[hg]at k1 k2 k3 k4<;>simp only[fE,if_false,if_true]at k1 k2 k3 k4 hb<;>simp_all
 rw[Y]at Av;have Zh:∃b,(s.r=b\/s.l=b)/\ ∀t,(t=x.o.l\/t=x.o.r)->t=s.l\/t=s.r\/t=(if cM x.k then x.o.r else x.o.l):=by
  obtain⟨k1,k2,k3,k4⟩:=E;refine⟨s.r,.inl rfl,?_⟩
  grind [cM]
 obtain⟨_,_,Zh⟩:=Zh;have ff:=q.ev;have Cs:∀z:fG,aq U.ak (aK (x::y::z))=aq U.ak (aK z)+2:=λz=>by rw[fh,fh,(kW B).1,(kW D).1];omega
 have JA:∀z:fG,aq U.ay (aK (x::y::z))=aq U.ay (aK z):=λz=>by rw[fh,fh,(kW B).2,(kW D).2];omega
 have Aj:∀(z:fG) k,aV (aK (x::y::z)) k=aV (aK z) k:=λz k=>by show aq _ _=aq _ _;rw[fh,fh,Ab k B,Ab k D];simp
 have mC:aq U.ak (aK (r.map (aQ.mp id (gq [x.k.id]))))=aq U.ak (aK r):=rB (λl=>(yY _).ak l) r;have mG:∀k,aV (aK (r.map (aQ.mp id (gq [x.k.id])))) k=aV (aK r) k:=λk=>rB (λl=>afW _ k l) r;have f:∀w∈r,w.k.ak->(gq [x.k.id] w.k).id=if x.k.id<w.k.id then w.k.id-1 else w.k.id:=λw H R=>by
  rw[ahV R];by_cases c:x.k.id<w.k.id
  .simp[c]
  simp[c]
 have Ms:=λw H R=>by have:=q.ids w H R;rw[Cs]at this;omega
 have hr:r≠[]:=by
  obtain⟨w,H,j⟩:=c.one;rintro rfl
  simp only[c7,eD,or_false]at H;rcases H with rfl|rfl
  .rw[kJ B]at j;cases j
  rw[kJ D]at j;cases j
 have inr:∀w∈r,w∈x::y::r:=λw H=>by simp[H]
 have qn:j_ F ([]++r.map (aQ.mp id (gq [x.k.id]))) (fp m) (fm m):=by
  refine j_.edit (X:=[x,y]) q (yY _) (λw H=>aeA (q.ok w (inr w H)).bad) (λu A v T N cv e=>?_) (λu A v T Q pv e1 e2=>?_) (λ_ h=>by cases h) List.Pairwise.nil List.Pairwise.nil (λ_ h=>by cases h) (λ_ h=>by cases h) ?_ (λ_ h=>by cases h) (λu A N=>?_) (λ_ h=>by cases h) (λu A Q=>?_) (λ_ h=>by cases h) (λu A Q=>?_) (λk E=>?_) ?_
  .have h1:=Gb u A N;have h2:=Gb v T cv;rw[f u A N,f v T cv]at e;split at e<;>split at e<;>omega
  .rw[Ca Q,Ca pv]at e1 e2;exact⟨e1,e2⟩
  .rw[fB,mC];rw[Cs]at ff;omega
  .rw[fB,mC,f u A N];have h1:=Ms u (inr u A) N;have h2:=Gb u A N;have h3:=Ms x aE B;split<;>omega
  .rw[fB,Ca Q,mG,<-Aj r];exact q.rr u (inr u A) Q
  .rw[Ca Q];exact⟨⟨rfl,rfl⟩,rfl,rfl⟩
  .rw[fB,mG,<-Aj r];exact q.gt k E
  rw[fB,mG,<-Aj r];exact q.gz
 have Hl:gO F (r.map λw=>jn [x.k.id] w.p):=by
  refine j_.done (X:=[x,y]) (L:=[if cM x.k then x.o.r else x.o.l]) (O:=r.map (aQ.mp id (gq [x.k.id]))) qn c.nd (λt M=>c.wit t M) (CW _) ⟨s,Gk (n:=id) Av⟩ ?_ ?_ (λ_ _ _=>rfl) (λw H t M ew hL=>?_) qK (λt M=>by cases M) (λt M=>by cases M) (by rw[wI];exact cJ _) ?_
  .rw[h_];refine lq λw _=>?_;rw[Wp];rfl
  .obtain⟨w,H,j⟩:=c.one;simp only[c7]at H;rcases H with rfl|rfl|H
   .rw[kJ B]at j;cases j
   .rw[kJ D]at j;cases j
   refine⟨w.mp id (gq [x.k.id]),?_,?_⟩
   .rw[fB];exact ch.2 ⟨w,H,rfl⟩
   show(gq [x.k.id] w.k).ay=true;rw[(yY _).ay];exact j
  .obtain⟨v,T,MO⟩:=Sb Av hr;have ac:t=s.l\/t=s.r:=by
    simp only[c7,eD,or_false]at H hL;rcases H with rfl|rfl
    .rcases Zh t ew with h|h|h
     .exact .inl h
     .exact .inr h
     exact absurd h hL
    rw[Y]at ew;exact ew
   refine⟨v.mp id (gq [x.k.id]),by rw[fB];exact ch.2 ⟨v,T,rfl⟩,?_⟩;show t=id v.o.l\/t=id v.o.r;rw[MO];exact ac
  rw[fB,mC,rB (λl=>(yY _).ay l) r];have h1:=g.nw;have h2:aq U.ak (aK (x::y::r))=aq U.ak m:=by rw[vQ iU,iX]
  have h3:aq U.ay (aK (x::y::r))=aq U.ay m:=by rw[vQ iU,iX]
  rw[Cs]at h2;rw[JA]at h3;simp only[ga,fP];omega
 show gO F ((oc (an m) (uR [x.k.id])).map (jn [x.k.id]));rw[abp (drop:=uR [x.k.id]) λ_ _=>rfl];refine adN (a:=a) ?_;rw[mZ];have hf:((x::y::r).map aQ.p).filter (λp=> !((p.l.kind==2)&&[x.k.id].contains p.l.id))=r.map aQ.p:=by
  rw[eZ,eZ,Dd (by simp[ib]),Dd (by simp[jB,Z])];refine Ge λp hp=>?_;obtain⟨w,H,rfl⟩:=ch.1 hp;cases E:(w.p.l.kind==2)
  .rfl
  have:=Gb w H E;simp[this]
 rw[hf,h_];exact Hl
end
def ig(c e a:Nat):Nat:=if a=c then e else a
def tA(c e:Nat):ig c e c=e:=aD rfl
def tz(c e:Nat):ig c e e=e:=by unfold ig;split<;>rfl
def PI{c e a:Nat}(h:a≠c):ig c e a=a:=aC h
def iZ(g E D:Int)(l:U):U:=if(l.kind==1)&&((l.gate==g)&&decide (E<l.au))then{l with au:=l.au+D}else l
def Fz(g E D:Int)(p:aN):cW g E D p=⟨iZ g E D p.l,p.d⟩:=by unfold cW iZ;split<;>rfl
def sn(g E D:Int):zA (iZ g E D):=by refine⟨λl=>?_,λl=>?_,λl=>?_⟩<;>unfold iZ<;>split<;>rfl
def u7(g E D:Int)(l:U):(iZ g E D l).gate=l.gate:=by unfold iZ;split<;>rfl
def Bj(g E D:Int)(l:U):(iZ g E D l).id=l.id:=by unfold iZ;split<;>rfl
def avh{g:Int}{l:U}(h:l.ak):iZ g E D l=l:=by unfold iZ;have:=kJ h;unfold U.ay at this;rw[this];simp
def NG(g E D:Int)(k:Nat)(l:U):jq k (iZ g E D l)=jq k l:=by unfold jq;rw[(sn g E D).ay,u7]
def UR{g:Int}{l:U}(h:l.ay):(iZ g E D l).au=if l.gate=g/\E<l.au then l.au+D else l.au:=by grind [iZ,U.ay]
def ZW{g:Int}{l:U}(h:eo F l=false):eo F (iZ g E D l)=false:=by
 rcases zB h with hp|H
 .rw[lQ hp]at h;rw[lQ (by rw[(sn g E D).ay];exact hp),u7,Bj,(sn g E D).sign,(sn g E D).over];exact h
 rw[avh H];exact h
def aaM{l:aW}{drop:Nat->aN->Bool}:∀d j,j+d<=I l->(∀i p,j<=i->i<j+d->drop i p=false)->wc l drop (j+d)=wc l drop j++(l.drop j).take d:=by
 intro d
 induction d with
 |zero=>intro j _ _;simp
 |succ d f=>intro j n h;obtain⟨p,hp⟩:=aP (h:=l) (k:=j+d) J;rw[show j+(d+1)=(j+d)+1 by omega,Nw hp (h _ _ J J),f j J λi p H u=>h i p H J,k_,Fw,hp,lf];rfl
def IN{l:aW}{a:Nat}(L:a<I l)(A:2<=I l){p q:aN}{r:aW}(e:l.drop a++l.take a=p::q::r):∃u v,(oc l λk _=>decide (k=a)||decide (k=(a+1)%I l))=u++v/\r=v++u:=by
 have j:∀i (p:aN),i≠a->i≠(a+1)%I l->(λ(k:Nat) (_:aN)=>decide (k=a)||decide (k=(a+1)%I l)) i p=false:=λi p n A=>by simp[n,A]
 have f:∀i (p:aN),i=a\/i=(a+1)%I l->(λ(k:Nat) (_:aN)=>decide (k=a)||decide (k=(a+1)%I l)) i p=true:=λi p h=>by simpa using h
 obtain⟨x,z⟩:=aP L;by_cases c:a+1<I l
 .obtain⟨y,H⟩:=aP c;rw[eJ c]at j f |-;have B:=aaM (l:=l) a 0 J λi p _ h=>j i p J J;have k3:=aaM (l:=l) (I l-(a+2)) (a+1+1) J λi p h _=>j i p J J;refine⟨l.take a,l.drop (a+2),?_,?_⟩
  .unfold oc;rw[show a+1+1+(I l-(a+2))=I l by omega,EK H (f (a+1) y (.inr rfl)),EK z (f a x (.inl rfl))]at k3;rw[jN]at B;rw[k3,B];have:wc l (λk _=>decide (k=a)||decide (k=a+1)) 0=[]:=rfl;rw[this,NJ,fB,f_ (l:=l.drop (a+1+1)) (by rw[rG];omega)]
  have E:l.drop a=x::y::l.drop (a+2):=by
   obtain⟨n,E⟩:=bt.1 z;obtain⟨A,D⟩:=bt.1 H
   grind [ux]
  rw[E]at e;simp only[qz,OY]at e;exact e.2.2.symm
 have ea:a+1=I l:=J;have F:(a+1)%I l=0:=by rw[ea,w_]
 rw[F]at j f |-;obtain⟨y,H⟩:=aP (h:=l) (k:=0) J;have k2:=aaM (l:=l) (a-1) 1 J λi p h M=>j i p J J;refine⟨[],(l.drop 1).take (a-1),?_,?_⟩
 .unfold oc;rw[<-ea,EK z (f a x (.inl rfl))];rw[show 1+(a-1)=a by omega]at k2;rw[k2];rw[show(1:Nat)=0+1 from rfl,EK H (f 0 y (.inr rfl))];rfl
 have E:l.drop a=[x]:=by
  obtain⟨n,E⟩:=bt.1 z
  grind [ux]
 have D:l.take a=y::(l.drop 1).take (a-1):=by
  obtain⟨n,E⟩:=bt.1 H;have:l=y::l.drop 1:=by have:=ux n;rw[E,NJ]at this;exact this.symm
  conv=>lhs;rw[this]
  rw[show a=(a-1)+1 by omega,RZ];rfl
 rw[E,D]at e;simp only[qz,fB,OY]at e;rw[ic];exact e.2.2.symm
section
variable {F:Nat} {m:af}
def eN.ext'{s t:eN}(h:s.l=t.l)(f:s.r=t.r)(H:s.b=t.b):s=t:=by cases s;cases t;simp_all
def aAc(g:bj F m){i:Nat}(E:i<I m)(B:j<I m)(h:(j8 m i).b≠(j8 m j).b)(y:u/2=i)(n:v/2=j):ep m u≠ep m v:=λe=>by
 have f:∀d,d<2*I m->d<aT m:=λd A=>by unfold aT;omega
 obtain⟨w,H,z⟩:=zo g (f u J);obtain⟨D,L,x⟩:=zo g (f v J);rw[<-e,H]at L;cases L;have:=Xl g (a7 H) z x J J;rw[y,n]at this;exact h (by show(!dn m _)= !dn m _;rw[this])
def agQ(g:bj F m){a:Nat}(ha:a<I m){L:aW}(h:n_ m a=some L):L=[]\/ ∃(x y:aQ) (r:fG) (lo:Nat) (n:Nat->Nat) (s:eN) (T B:Nat->Nat->Nat) (S:aG),L=dO (oc (an m) λk _=>decide (k=a)||decide (k=(a+1)%I m)) x.k.gate ((lo:Int)+1) (-2)/\(an m).drop a++(an m).take a=(x::y::r).map aQ.p/\(x.k.ay/\y.k.ay)/\(y.k.gate=x.k.gate/\0<=x.k.gate/\x.k.gate<=(F:Int))/\1<=lo/\((x.k.au=lo/\y.k.au=lo+1)\/(x.k.au=lo+1/\y.k.au=lo))/\(y.p.d=(!x.p.d)/\s.b= !x.p.d)/\r≠[]/\lo<=aV (aK r) x.k.gate.toNat+1/\iR (s.mp n) (r.map (aQ.mp n (iZ x.k.gate ((lo:Int)+1) (-2)))) (s.mp n)/\fT F (r.map (aQ.mp n (iZ x.k.gate ((lo:Int)+1) (-2)))) T B S/\fW m<=I S+3/\
  (if(x.p.d==(x.k.au==(lo:Int)))=true then(s.mp n).r else(s.mp n).l)=(if x.p.d=true then T x.k.gate.toNat (lo-1)else B x.k.gate.toNat (lo-1))/\(if x.p.d=true then B x.k.gate.toNat (lo-1)else T x.k.gate.toNat (lo-1))∉S:=by
 obtain⟨x,y,r,s,e,hx,hy,c,hp,mZ,MU,MV,iU⟩:=GF g ha;have q:=c.q;unfold n_ at h;have e1:(an m).getD a ⟨ij,false⟩=x.p:=by rw[dD,hx];rfl
 have e2:(an m).getD ((a+1)%I m) ⟨ij,false⟩=y.p:=by rw[dD,hy];rfl
 simp only[e1,e2]at h;split at h
 case isFalse=>cases h
 rename_i hc;simp only[cP,c8,ke,Bool.and_eq_false_iff,decide_eq_false_iff_not]at hc;obtain⟨ib,jB,jC,jX,Ux⟩:=hc;cases h;have px:x.k.ay:=by show(x.k.kind==1)=true;simp[ib]
 have py:y.k.ay:=by show(y.k.kind==1)=true;simp[jB]
 obtain⟨jj,iK,Av⟩:=hp;have ox:=(q.ok x aE).pb px;have oy:=(q.ok y aE).pb py;have aF:=q.pl y aE py;have gx:=((lQ px).1 (q.ok x aE).bad).1.1.1;have rx:=q.rr x aE px;have ry:=q.rr y aE py;have wT:y.k.gate=x.k.gate:=jC.symm;rw[wT]at ry
 have Cs:∀z:fG,aq U.ak (aK (x::y::z))=aq U.ak (aK z):=λz=>by rw[fh,fh,(u4 px).1,(u4 py).1];omega
 have JA:∀z:fG,aq U.ay (aK (x::y::z))=aq U.ay (aK z)+2:=λz=>by rw[fh,fh,(u4 px).2,(u4 py).2];omega
 have Aj:∀(z:fG) k,aV (aK (x::y::z)) k=aV (aK z) k+if k=x.k.gate.toNat then 2 else 0:=λz k=>by
  show aq _ _=aq _ _+_;rw[fh,fh];have:∀w:aQ,w.k.ay->w.k.gate=x.k.gate->(if jq k w.k=true then 1 else 0)=if k=x.k.gate.toNat then 1 else 0:=λw O av=>by
   unfold jq;rw[O,av];by_cases ck:k=x.k.gate.toNat
   .subst ck;simp[Qn gx.1]
   have:(x.k.gate==(k:Int))=false:=by rw[mM];omega
   simp[this,ck]
  rw[this x px rfl,this y py wT];split<;>omega
 have h2:aq U.ak (aK (x::y::r))=aq U.ak m:=by rw[vQ iU,iX]
 have h3:aq U.ay (aK (x::y::r))=aq U.ay m:=by rw[vQ iU,iX]
 have aM:I m=I r+2:=by have:=iU.length_eq;rw[yy]at this;simpa using this.symm
 obtain⟨lo,arh,UB,qT⟩:∃lo:Nat,1<=lo/\((x.k.au=lo/\y.k.au=lo+1)\/(x.k.au=lo+1/\y.k.au=lo))/\j6 x.k.au y.k.au=lo+1:=by
  have MJ:j6 x.k.au y.k.au-rN x.k.au y.k.au=1:=jX;unfold j6 rN at MJ;unfold j6;by_cases c1:x.k.au<y.k.au
  .rw[aD c1]at MJ |-;rw[aC J]at MJ;exact⟨x.k.au.toNat,J,.inl ⟨J,J⟩,J⟩
  rw[aC c1]at MJ |-;by_cases c2:y.k.au<x.k.au
  .rw[aD c2]at MJ;exact⟨y.k.au.toNat,J,.inr ⟨J,J⟩,J⟩
  rw[aC c2]at MJ;omega
 have ar:lo+1<=aV (aK (x::y::r)) x.k.gate.toNat:=by rcases UB with⟨Q,h2⟩|⟨Q,h2⟩<;>omega
 have Mo:y.p.d= !x.p.d:=by have Q:=oy.2;rw[iK,ox.1]at Q;revert Q;cases x.p.d<;>cases y.p.d<;>simp
 have ao:(((lo:Int)+1)==(lo:Int))=false:=by rw[mM];omega
 obtain⟨j,N,m1,m2,m3,m4,m6,m7,m8⟩:∃j N:Nat,(y.o.mp (ig j N)=s.mp (ig j N))/\ig j N (fp m x.k.gate.toNat (lo+1))=ig j N (fp m x.k.gate.toNat (lo-1))/\ig j N (fm m x.k.gate.toNat (lo+1))=ig j N (fm m x.k.gate.toNat (lo-1))/\
   (∀t,(t=y.o.l\/t=y.o.r)->t=j\/t=s.l\/t=s.r)/\((if(x.p.d==(x.k.au==(lo:Int)))=true then ig j N s.r else ig j N s.l)=(if x.p.d=true then ig j N (fp m x.k.gate.toNat (lo-1))else ig j N (fm m x.k.gate.toNat (lo-1))))/\((if x.p.d=true then fm m x.k.gate.toNat (lo-1)else fp m x.k.gate.toNat (lo-1))=x.o.l\/(if x.p.d=true then fm m x.k.gate.toNat (lo-1)else fp m x.k.gate.toNat (lo-1))=x.o.r)/\(j=y.o.l\/j=y.o.r):=by
  have hb:y.o.b=s.b:=by rw[oy.1,Mo,<-jj,ox.2]
  obtain⟨p1,p2,p3,p4⟩:=q.pl x aE px;obtain⟨R,p6,Y,p8⟩:=aF;rw[wT]at R p6 Y p8;unfold aQ.up at p1 p2 R p6;unfold aQ.lo at p3 p4 Y p8;rw[Mo]at R p6 Y p8;rw[jj]at p1 p2 p3 p4;rw[iK]at R p6 Y p8;have done:∀j N,(ig j N y.o.l=ig j N s.l)->(ig j N y.o.r=ig j N s.r)->y.o.mp (ig j N)=s.mp (ig j N):=λj N Q h2=>eN.ext' Q h2 hb;rcases UB with⟨r1,r2⟩|⟨r1,r2⟩
  .have n1:x.k.au.toNat=lo:=J;have n2:y.k.au.toNat=lo+1:=J;rw[n1]at p1 p2 p3 p4;rw[n2]at R p6 Y p8;rw[Is]at R Y;cases hd:x.p.d<;>rw[hd]at p1 p2 p3 p4 R p6 Y p8<;>simp only[E5,Ac,fE,if_false,if_true,jE]at p1 p2 p3 p4 R p6 Y p8
   .have ee:y.o.r=s.r:=by rw[Y,p4]
    refine⟨y.o.l,s.l,done _ _ ?_ (by rw[ee]),by rw[<-p6,p1],by rw[<-p8,<-p3,tA,tz],?_,by rw[r1,sv];exact congrArg (ig y.o.l s.l) p3,.inl p1.symm,.inl rfl⟩
    .rw[tA,tz]
    rintro t (rfl|rfl)
    .exact .inl rfl
    exact .inr (.inr ee)
   have ee:y.o.l=s.l:=by rw[R,p2]
   refine⟨y.o.r,s.r,done _ _ (by rw[ee]) ?_,by rw[<-p6,<-p1,tA,tz],by rw[<-p8,p3],?_,by rw[r1,sv];exact congrArg (ig y.o.r s.r) p1,.inr p3.symm,.inr rfl⟩
   .rw[tA,tz]
   rintro t (rfl|rfl)
   .exact .inr (.inl ee)
   exact .inl rfl
  have n1:x.k.au.toNat=lo+1:=J;have n2:y.k.au.toNat=lo:=J;rw[n1]at p1 p2 p3 p4;rw[n2]at R p6 Y p8;rw[Is]at p1 p3;cases hd:x.p.d<;>rw[hd]at p1 p2 p3 p4 R p6 Y p8<;>simp only[E5,Ac,fE,if_false,if_true,jE]at p1 p2 p3 p4 R p6 Y p8
  .have ee:y.o.l=s.l:=by rw[p8,p3]
   refine⟨y.o.r,s.r,done _ _ (by rw[ee]) ?_,by rw[<-p2,R],by rw[<-p4,<-Y,tA,tz],?_,by rw[r1,ao];exact(congrArg (ig y.o.r s.r) p4).trans (by rw[<-p4,<-Y,tA,tz];rfl),.inr R.symm,.inr rfl⟩
   .rw[tA,tz]
   rintro t (rfl|rfl)
   .exact .inr (.inl ee)
   exact .inl rfl
  have ee:y.o.r=s.r:=by rw[p6,p1]
  refine⟨y.o.l,s.l,done _ _ ?_ (by rw[ee]),by rw[<-p2,<-R,tA,tz],by rw[<-p4,Y],?_,by rw[r1,ao];exact(congrArg (ig y.o.l s.l) p2).trans (by rw[<-p2,<-R,tA,tz];rfl),.inl Y.symm,.inl rfl⟩
  .rw[tA,tz]
  rintro t (rfl|rfl)
  .exact .inl rfl
  exact .inr (.inr ee)
 by_cases hr:∃w∈r,w.k.ay
 case neg=>
  left;have Hh:aq U.ay (aK r)=0:=IW.2 λl hl pP=>by obtain⟨w,O,rfl⟩:=ch.1 hl;exact hr ⟨w,O,pP⟩
  have aO:aq U.ak m=0:=by have ff:=q.ev;rw[h2]at ff;rw[JA]at h3;rcases Ux with h|h<;>omega
  have:I m=2:=by have:=acd g.ok;rw[JA]at h3;omega
  have DQ:r=[]:=G5.1 J;obtain⟨u,v,k1,k2⟩:=IN (by rw[bY];exact ha) (by rw[bY];omega) (by rw[mZ];rfl);rw[bY]at k1;rw[DQ]at k2;have k2:=k2.symm;simp only[m_,List.append_eq_nil_iff]at k2;unfold dO;rw[k1,k2.1,k2.2];rfl
 right;obtain⟨w0,HL,aw⟩:=hr;have JZ:=List.ne_nil_of_mem HL
 let n:=ig j N
 let Z:=iZ x.k.gate (lo+1) (-2)
 let M:Nat->Nat->Nat:=λG k=>if G=x.k.gate.toNat then(if k<=lo-1 then n (fp m G k)else n (fp m G (k+2)))else n (fp m G k)
 let H:Nat->Nat->Nat:=λG k=>if G=x.k.gate.toNat then(if k<=lo-1 then n (fm m G k)else n (fm m G (k+2)))else n (fm m G k)
 have mC:aq U.ak (aK (r.map (aQ.mp n Z)))=aq U.ak (aK r):=rB (λl=>(sn _ _ _).ak l) r;have mG:∀k,aV (aK (r.map (aQ.mp n Z))) k=aV (aK r) k:=λk=>rB (λl=>NG _ _ _ k l) r;have inr:∀w∈r,w∈x::y::r:=λw O=>by simp[O]
 have ac:∀w∈r,w.k.ay->w.k.gate=x.k.gate->w.k.au<lo\/(lo:Int)+1<w.k.au:=λw O pw gw=>by obtain⟨d1,d2⟩:=iN.1 q.rk;obtain⟨d3,_⟩:=iN.1 d2;have n1:=d1 w (by simp[O]) px pw gw.symm;have n2:=d3 w O py pw (by rw[wT,gw]);rcases UB with⟨r1,r2⟩|⟨r1,r2⟩<;>omega
 have rA:∀w∈r,w.k.ay->(Z w.k).au=if w.k.gate=x.k.gate/\(lo:Int)+1<w.k.au then w.k.au-2 else w.k.au:=λw O pw=>by have:=UR (g:=x.k.gate) (E:=(lo:Int)+1) (D:= -2) pw;rw[show w.k.au+ -2=w.k.au-2 by omega]at this;exact this
 have ad:∀f:Nat->Nat->Nat,n (f x.k.gate.toNat (lo+1))=n (f x.k.gate.toNat (lo-1))->∀w∈r,w.k.ay->
   (n (f w.k.gate.toNat (w.k.au.toNat-1))=(λG k=>if G=x.k.gate.toNat then(if k<=lo-1 then n (f G k)else n (f G (k+2)))else n (f G k)) (Z w.k).gate.toNat ((Z w.k).au.toNat-1))/\
   n (f w.k.gate.toNat w.k.au.toNat)=(λG k=>if G=x.k.gate.toNat then(if k<=lo-1 then n (f G k)else n (f G (k+2)))else n (f G k)) (Z w.k).gate.toNat (Z w.k).au.toNat:=by
  intro f hf w O pw;have gw:=((lQ pw).1 (q.ok w (inr w O)).bad).1.1.1;have aX:=(q.rr w (inr w O) pw).1;rw[rA w O pw,u7 _ _ _ _];by_cases uk:w.k.gate=x.k.gate
  .have ho:=ac w O pw uk;simp only[uk,if_true,true_and];by_cases cr:(lo:Int)+1<w.k.au
   .rw[aD cr];constructor
    .by_cases c3:(w.k.au-2).toNat-1<=lo-1
     .rw[aD c3];have e3:w.k.au.toNat-1=lo+1:=J;have e4:(w.k.au-2).toNat-1=lo-1:=J;rw[e3,e4];exact hf
     rw[aC c3];congr 2;omega
    rw[aC J];congr 2;omega
   rw[aC cr];constructor
   .rw[aD J]
   rw[aD J]
  have:¬(w.k.gate.toNat=x.k.gate.toNat):=J;simp only[uk,false_and,if_false,aC this];exact⟨trivial,trivial⟩
 have A:∀f:Nat->Nat->Nat,n (f x.k.gate.toNat (lo+1))=n (f x.k.gate.toNat (lo-1))->∀k,
   ((λG k=>if G=x.k.gate.toNat then(if k<=lo-1 then n (f G k)else n (f G (k+2)))else n (f G k)) k (aV (aK r) k)=n (f k (aV (aK (x::y::r)) k)))/\
   (λG k=>if G=x.k.gate.toNat then(if k<=lo-1 then n (f G k)else n (f G (k+2)))else n (f G k)) k 0=n (f k 0):=by
  intro f hf k;rw[Aj r k];by_cases ck:k=x.k.gate.toNat
  .subst ck;simp only[if_true];rw[aD (bZ _)];refine⟨?_,rfl⟩;rw[Aj r x.k.gate.toNat,aD rfl]at ar;by_cases c3:aV (aK r) x.k.gate.toNat<=lo-1
   .rw[aD c3];have e3:aV (aK r) x.k.gate.toNat=lo-1:=J;rw[e3,show lo-1+2=lo+1 by omega];exact hf.symm
   rw[aC c3]
  simp only[aC ck,uz];exact⟨trivial,trivial⟩
 have qn:j_ F ([]++r.map (aQ.mp n Z)) M H:=by
  refine j_.edit (X:=[x,y]) q (sn _ _ _) (λw O=>ZW (q.ok w (inr w O)).bad) (λu hu v hv cu cv e=>?_) (λu hu v hv pu pv e1 e2=>?_) (λ_ h=>by cases h) List.Pairwise.nil List.Pairwise.nil (λ_ h=>by cases h) (λ_ h=>by cases h) ?_ (λ_ h=>by cases h) (λu hu cu=>?_) (λ_ h=>by cases h) (λu hu pu=>?_) (λ_ h=>by cases h) (λu hu pu=>?_) (λk hk=>?_) ?_
  .rw[Bj,Bj]at e;exact e
  .have Fx:u.k.gate=v.k.gate:=by rw[u7,u7]at e1;exact e1
   refine⟨Fx,?_⟩;have e2:=e2;rw[rA u hu pu,rA v hv pv]at e2;by_cases uk:u.k.gate=x.k.gate
   .have o1:=ac u hu pu uk;have o2:=ac v hv pv (Fx▸uk);simp only[uk,Fx▸uk,true_and]at e2;split at e2<;>split at e2<;>omega
   simp only[uk,Fx▸uk,false_and,if_false]at e2;exact e2
  .rw[fB,mC,<-Cs r];exact q.ev
  .rw[fB,mC,Bj,<-Cs r];exact q.ids u (inr u hu) cu
  .rw[fB,u7,mG];show 1<=(Z u.k).au/\(Z u.k).au<=_;rw[rA u hu pu];have Q:=q.rr u (inr u hu) pu;rw[Aj r]at Q;have gu:=((lQ pu).1 (q.ok u (inr u hu)).bad).1.1.1;by_cases uk:u.k.gate=x.k.gate
   .have o1:=ac u hu pu uk;rw[uk]at Q |-;rw[aD rfl]at Q;rw[Aj r,aD rfl]at ar;simp only[true_and];split<;>omega
   simp only[uk,false_and,if_false];rw[aC J]at Q;exact Q
  .obtain⟨t1,t2⟩:=ad (fp m) m2 u hu pu;obtain⟨b1,b2⟩:=ad (fm m) m3 u hu pu;exact⟨⟨t1,b1⟩,t2,b2⟩
  .rw[fB,mG];obtain⟨t1,t2⟩:=A (fp m) m2 k;obtain⟨b1,b2⟩:=A (fm m) m3 k;obtain⟨_,t3⟩:=A (fp m) m2 (k+1);obtain⟨_,b3⟩:=A (fm m) m3 (k+1);have:=q.gt k hk;exact⟨by rw[show M k _=_ from t1,this.1];exact t3.symm,by rw[show H k _=_ from b1,this.2];exact b3.symm⟩
  rw[fB,mG];obtain⟨t1,t2⟩:=A (fp m) m2 F;obtain⟨b1,b2⟩:=A (fm m) m3 F;obtain⟨_,t3⟩:=A (fp m) m2 0;obtain⟨_,b3⟩:=A (fm m) m3 0;have:=q.gz;exact⟨by rw[show M F _=_ from t1,this.1];exact t3.symm,by rw[show H F _=_ from b1,this.2];exact b3.symm⟩
 have Hl:fT F (r.map (aQ.mp n Z)) M H ([]++(List.range (fW m)).filter λs=> ![j,x.o.l,x.o.r].contains s)/\fW m+I ([]:aG)<=I ([]++(List.range (fW m)).filter λs=> ![j,x.o.l,x.o.r].contains s)+[j,x.o.l,x.o.r].length:=by
  refine j_.XV (X:=[x,y]) qn c.nd (λt ht=>c.wit t ht) (CW _) ⟨s.mp n,?_⟩ ?_ (λt _ ht=>PI λe=>ht (by simp[e])) (λw O t ht ew DK=>?_) qK (λt ht=>by cases ht) (λt ht=>by cases ht) (by rw[wI];exact cJ _) ?_
  .have:=Gk (n:=n) (h:=Z) Av;rwa[show y.o.mp n=s.mp n from m1]at this
  .refine⟨w0.mp n Z,?_,?_⟩
   .rw[fB];exact ch.2 ⟨w0,HL,rfl⟩
   show(Z w0.k).ay=true;rw[(sn _ _ _).ay];exact aw
  .obtain⟨v,hv,MO⟩:=Sb Av JZ;simp only[c7,eD,or_false,A4]at O DK;have ad:t=s.l\/t=s.r:=by
    rcases O with rfl|rfl
    .rcases ew with ew|ew
     .exact absurd ew DK.2.1
     exact absurd ew DK.2.2
    rcases m4 t ew with h|h
    .exact absurd h DK.1
    exact h
   refine⟨v.mp n Z,by rw[fB];exact ch.2 ⟨v,hv,rfl⟩,?_⟩;show t=n v.o.l\/t=n v.o.r;rw[MO];have:n t=t:=PI DK.1;rcases ad with h|h
   .left;rw[<-h,this]
   right;rw[<-h,this]
  rw[fB,mC,rB (λl=>(sn _ _ _).ay l) r];have Q:=g.nw;rw[Cs]at h2;rw[JA]at h3;simp only[ga,fP];omega
 have ap:=Gk (n:=n) (h:=Z) Av;rw[show y.o.mp n=s.mp n from m1]at ap;have tT:M x.k.gate.toNat (lo-1)=n (fp m x.k.gate.toNat (lo-1)):=by show(if _ then(if _ then _ else _)else _)=_;rw[aD rfl,aD (cJ _)]
 have tB:H x.k.gate.toNat (lo-1)=n (fm m x.k.gate.toNat (lo-1)):=by show(if _ then(if _ then _ else _)else _)=_;rw[aD rfl,aD (cJ _)]
 have aj:x=e_ m a:=by rw[y_ ha]at MU;exact(kA MU).symm
 have JU:nx m a<I m:=cT _ J;have ag:y=e_ m (nx m a):=by rw[y_ JU]at MV;exact(kA MV).symm
 have aH:(j8 m a).b≠(j8 m (nx m a)).b:=by
  have e1:x.o.b=(j8 m a).b:=by rw[aj];rfl
  have e2:y.o.b=(j8 m (nx m a)).b:=by rw[ag];rfl
  rw[<-e1,<-e2,ox.1,oy.1,Mo];cases x.p.d<;>decide
 have az:∀am,(am=x.o.l\/am=x.o.r)->am≠j:=λam hn e=>by
  have y1:y.o.l=ep m (2*nx m a):=by rw[ag];rfl
  have y2:y.o.r=ep m (2*nx m a+1):=by rw[ag];rfl
  have x1:x.o.l=ep m (2*a):=by rw[aj];rfl
  have x2:x.o.r=ep m (2*a+1):=by rw[aj];rfl
  rw[y1,y2]at m8;rw[x1,x2]at hn;rcases hn with Q|Q<;>rcases m8 with h2|h2
  all_goals
   rw[Q,h2]at e;exact(λQ h2=>aAc g ha JU aH Q h2) J J e
 refine⟨x,y,r,lo,n,s,M,H,_,by rw[<-qT],mZ,⟨px,py⟩,⟨wT,gx⟩,arh,UB,⟨Mo,by rw[<-jj];exact ox.2⟩,JZ,?_,ap,Hl.1,by simpa using Hl.2,?_,?_⟩
 .have:=Aj r x.k.gate.toNat;rw[aD rfl]at this;omega
 .rw[tT,tB];exact m6
 rw[tT,tB];have gY:∀am,(am=x.o.l\/am=x.o.r)->n am∉([]++(List.range (fW m)).filter λs=> ![j,x.o.l,x.o.r].contains s):=λam hn hm=>by rw[show n am=am from PI (az am hn)]at hm;have:=(r4.1 hm).2;rcases hn with rfl|rfl<;>simp at this
 cases hd:x.p.d<;>rw[hd]at m7
 .exact gY _ m7
 exact gY _ m7
def S3(g:bj F m){a:Nat}(f:a<I m){L:aW}(h:n_ m a=some L):L=[]\/gO F L:=by
 rcases agQ g f h with h|⟨x,y,r,lo,n,s,T,B,S,rfl,M,_,_,_,_,_,A,_,_,z,_⟩
 .exact .inl h
 right;have j:gO F (r.map λw=>cW x.k.gate (lo+1) (-2) w.p):=by refine⟨_,_,_,_,?_,z⟩;rw[h_];refine lq λw _=>?_;rw[Fz];rfl
 have H:2<=I m:=by grind [cg,bY]
 obtain⟨u,v,k1,k2⟩:=IN (by rw[bY];exact f) (by rw[bY];exact H) (by rw[M];rfl);rw[bY]at k1;show gO F ((oc (an m) λk _=>decide (k=a)||decide (k=(a+1)%I m)).map (cW x.k.gate (lo+1) (-2)));rw[k1,fL];refine gO.mJ ?_;rw[<-fL,<-k2,h_];exact j
end
section
variable {F:Nat} {m:af}
def QA(g:bj F m){pl:Nat}{E:aG}{j:Nat}(H:j<I m)(h:oF F m pl E j):∃w,w∈gW (aU m) (aT m)/\(kY F m w).places.length=pl/\(I (w.filter λx=>decide (x<2*I m))=I E)/\ ∀e∈E,∃d,d∈w/\d<2*I m/\d/2=e:=by
 have n:∀f∈fZ F m,xH f pl E->∃w,w∈gW (aU m) (aT m)/\(kY F m w).places.length=pl/\(I (w.filter λx=>decide (x<2*I m))=I E)/\ ∀e∈E,∃d,d∈w/\d<2*I m/\d/2=e:=by
  intro f hf u;obtain _:=ch.1 hf
  grind [xH,zM,yw,zp]
 unfold oF at h
 grind [Zb]
def ajk{D:aG}(h:I D=2){x y:Nat}(j:x∈D)(H:y∈D)(A:x≠y){z:Nat}(f:z∈D):z=x\/z=y:=by
 match D,h with
 |[p,q],_=>grind
def Jo{e:Nat}(h:e<I m){l:U}(hl:m[nx m e]?=some l)(H:l.ak):aU m (2*e)=dS (I m) (iI m (nx m e)) (cM l):=by
 have:2*e=g_ (I m) (nx m e) true:=by unfold g_ nx;rw[aD rfl,w8 h]
 grind [w9,cM]
def KH{e:Nat}{l:U}(hl:m[e]?=some l)(h:l.ak):aU m (2*e+1)=dS (I m) (iI m e) (!cM l):=by
 have:2*e+1=g_ (I m) e false:=rfl
 grind [w9,cM]
def Ag{b:Bool}{x:Nat}(h:dS (I m) v b=x):(b/\x=2*v)\/(b=false/\x=2*((v+I m-1)%I m)+1):=by
 cases b
 .exact .inr ⟨rfl,h.symm⟩
 exact .inl ⟨rfl,h.symm⟩
theorem C9{e:Nat}(H:v<I m)(h:(v+I m-1)%I m=e):v=nx m e:=by unfold nx;rw[<-h,wx H]
theorem xD(ok:gN F m){l M:U}(hl:m[v]?=some l)(h:l.ak)(H:m[u]?=some M)(f:iI m v=u):cM M= !cM l/\M.ak/\M.id=l.id:=by
 obtain _:=qN ok.cr hl h
 grind [cM]
def LD(ok:gN F m){l:U}(hl:m[v]?=some l)(h:l.ak):iI m v<I m:=by
 obtain _:=qN ok.cr hl h
 grind
def auG(g:bj F m){a b:Nat}(ha:a<I m)(hb:b<I m){L R X Y:U}(A:m[a]?=some L)(O:m[nx m a]?=some R)(Q:m[b]?=some X)(H:m[nx m b]?=some Y)
  (cx:L.ak) (cy:R.ak) (T:X.ak) (B:Y.ak) (iO:L.id≠R.id) (BK:X.id≠Y.id) (dp:a≠b) (h:oF F m 0 [a,b] a):cM L= !cM R:=by
 have ok:=g.ok;obtain⟨w,hw,_,M,hE⟩:=QA g ha h;obtain⟨D,vh,rL,vj⟩:=hE a aE;obtain⟨u,wA,sK,vk⟩:=hE b aE;have y:∀d,d∈w->d<2*I m->d∈w.filter λx=>decide (x<2*I m):=λd h1 Z=>r4.2 ⟨h1,by simpa using Z⟩;have two:=λd h1 Z=>ajk M (y D vh rL) (y u wA sK) J (y d h1 Z);have N:∀d,d∈w->aU m d∈w:=λd hd=>uY (mE ok) hw hd;have str:∀(v:Nat) (b:Bool),v<I m->dS (I m) v b<2*I m:=λv b H=>by have:=wJ H (!b);rw[<-uZ]at this;have:=uB this;rwa[uQ]at this
 have oy:=LD ok O cy;have ox:=LD ok A cx;have ou:=LD ok Q T;have ov:=LD ok H B
 have na:(D=2*a/\aU m D=dS (I m) (iI m (nx m a)) (cM R))\/(D=2*a+1/\aU m D=dS (I m) (iI m a) (!cM L)):=by
  rcases qL D with c|c
  .have:D=2*a:=J;exact .inl ⟨this,by rw[this];exact Jo ha O cy⟩
  have:D=2*a+1:=J;exact .inr ⟨this,by rw[this];exact KH A cx⟩
 have nb:(u=2*b/\aU m u=dS (I m) (iI m (nx m b)) (cM Y))\/(u=2*b+1/\aU m u=dS (I m) (iI m b) (!cM X)):=by
  rcases qL u with c|c
  .have:u=2*b:=J;exact .inl ⟨this,by rw[this];exact Jo hb H B⟩
  have:u=2*b+1:=J;exact .inr ⟨this,by rw[this];exact KH Q T⟩
 have ta:=two _ (N _ vh) (by rcases na with⟨_,e⟩|⟨_,e⟩<;>rw[e]<;>exact str _ _ (by assumption));have tb:=two _ (N _ wA) (by rcases nb with⟨_,e⟩|⟨_,e⟩<;>rw[e]<;>exact str _ _ (by assumption));have ad:aU m D=u:=by
  rcases ta with e|e
  .exfalso;rcases na with⟨n,E⟩|⟨n,E⟩
   .rw[e]at E;rcases Ag E.symm with⟨_,f⟩|⟨_,f⟩
    .exact iO (xD ok O cy A J).2.2
    omega
   rw[e]at E;rcases Ag E.symm with⟨_,f⟩|⟨_,f⟩
   .omega
   exact iO (xD ok A cx O (C9 ox J)).2.2.symm
  exact e
 have ac:aU m u=D:=by
  rcases tb with e|e
  .exact e
  exfalso;rcases nb with⟨n,E⟩|⟨n,E⟩
  .rw[e]at E;rcases Ag E.symm with⟨_,f⟩|⟨_,f⟩
   .exact BK (xD ok H B Q J).2.2
   omega
  rw[e]at E;rcases Ag E.symm with⟨_,f⟩|⟨_,f⟩
  .omega
  exact BK (xD ok Q T H (C9 ou J)).2.2.symm
 rcases na with⟨ea,n⟩|⟨ea,n⟩<;>rcases nb with⟨eb,E⟩|⟨eb,E⟩<;>rw[ad]at n<;>rw[ac]at E
 .rcases Ag n.symm with⟨g1,f⟩|⟨g1,f⟩<;>rcases Ag E.symm with⟨j,z⟩|⟨j,z⟩<;>try omega
  have:=(xD ok H B A J).1;rw[this,g1,j]
 .rcases Ag n.symm with⟨g1,f⟩|⟨g1,f⟩<;>rcases Ag E.symm with⟨j,z⟩|⟨j,z⟩<;>try omega
  have:=(xD ok Q T A J).1;rw[this,g1,j];rfl
 .rcases Ag n.symm with⟨g1,f⟩|⟨g1,f⟩<;>rcases Ag E.symm with⟨j,z⟩|⟨j,z⟩<;>try omega
  have:=(xD ok H B O (C9 ov J)).1;rw[this,j];revert g1;cases cM L<;>simp
 rcases Ag n.symm with⟨g1,f⟩|⟨g1,f⟩<;>rcases Ag E.symm with⟨j,z⟩|⟨j,z⟩<;>try omega
 grind [xD,C9,cM]
def It{p w:aQ}(m:nk x p)(H:nk x w)(u:nk p w)(f:x.k.ak)(h:p.k.ak)(j:w.k.ak)(E:x.k.id=p.k.id):w.k.id≠x.k.id:=by
 intro n;have a:=(m f h E).ov;rw[(H f j n.symm).ov]at a;rw[(u h j J).ov]at a
 grind
def Sh{α:Type}{z:List α}{a:Nat}(f:a<I z)(H:j<I z):(z.drop a++z.take a)[j]?=z[(a+j)%I z]? :=by
 by_cases h:a+j<I z
 .rw[s8 (by grind),Fw,eJ h]
 rw[qQ (by grind),rG,p_,aD J,Nj J,eJ J];congr 1;omega
def axu{α:Type}{r:List α}{u v:α}(h:r[j]?=some u)(H:r[j+1]?=some v):r=r.take j++u::v::r.drop (j+2):=by
 obtain _:=bt.1 h;obtain _:=bt.1 H
 grind [ux,jS]
end
end
end Go.Abs
