/- A part. -/
import Derived.Test.YtgjjncbeombnbaaGreatDoorWi
set_option linter.all false
open List renaming length->I
set_option maxHeartbeats 16000000
namespace Go.Abs
variable{f:af}{x j F u:Nat}{m:Nat->Nat}{h:U->U}{L:aU}{z H:fI}{A y:Int}
section
variable{v:Nat}
def dD(f:af)(x:Nat):Nat:=w8 (fF (aO f) (nD f)) x
def jH(f:af)(i:Nat):dW:=⟨dD f (2*i),dD f (2*i+1),!dn f (i+1)⟩
def eK(f:af)(i:Nat):aT:=⟨⟨f.getD i ga,dw f i⟩,jH f ((i+I f-1)%I f),jH f i⟩
def eE (f:af):fI:=(List.range (I f)).map (eK f)
def eS (f:af)(g k:Nat):Nat:=dD f (2*I f+2*((cX f g+k+I (ay f)-1)%I (ay f)))
def eR (f:af)(g k:Nat):Nat:=dD f (2*I f+2*((cX f g+k+I (ay f)-1)%I (ay f))+1)
def rC(f:af):(eE f).map aT.p=aA f:=by unfold eE aA;rw[gi];rfl
def h_(f:af):aP (eE f)=f:=by
 have h:aP (eE f)=(aA f).map aK.l:=by rw[<-rC,gi];rfl
 rw[h];apply nj;intro i;rw[dy];by_cases H:i<I f
 .obtain⟨l,hl⟩:=aM H;rw[gZ hl,hl];rfl
 rw[kQ (by rw[cZ];omega),kQ J];rfl
def xQ(f:af):I (eE f)=I f:=by simp[eE]
def xi{i:Nat}(h:i<I f):(eE f)[i]?=some (eK f i):=by simp[eE,h]
theorem fq{i:Nat}{l:U}(h:f[i]?=some l):(eK f i).k=l:=by
 show f.getD i ga=l
 grind
def agp(f:Nat->aT)(e:Nat->dW):∀k a,(∀i,a<=i->i<a+k->(f i).i=e i/\(f i).o=e (i+1))->ie (e a) ((List.range' a k).map f) (e (a+k)):=by
 intro k
 induction k with
 |zero=>intro a _;rfl
 |succ k j=>intro a h;obtain⟨m,H⟩:=h a (ct _) J;refine⟨m,?_⟩;rw[H,show a+(k+1)=a+1+k by omega];exact j _ λi u n=>h i J J
def RF{R:aT->aT->Prop}{f:Nat->aT}{n:Nat}(h:∀i j,i<n->j<n->i≠j->R (f i) (f j)):((List.range n).map f).Pairwise R:=wE.2 (P2 (λ{a b} H m D=>h a b (fA.1 H) (fA.1 m) D) (B0))
section
variable {F:Nat} {f:af}
def Ap(g:a_ F f){i:Nat}{w:aC}(h:(fF (aO f) (nD f))[i]?=some w)(H:x∈w):dD f x=i:=Ha (yZ _ _).1 h H
def xo(g:a_ F f)(m:x<nD f):∃w,(fF (aO f) (nD f))[dD f x]?=some w/\x∈w:=by obtain⟨u,H,j⟩:=BH.1 ((yZ _ _).2 x m);obtain⟨i,h⟩:=fX H;rw[Ap g h j];exact⟨u,h,j⟩
def Cr(g:a_ F f)(H:x<nD f):dD f (aO f x)=dD f x:=by obtain⟨w,h,B⟩:=xo g H;exact Ap g h (yO (n0 g.ok) (aX h) B)
def Za(g:a_ F f)(H:v<I f)(h:Bool):dD f (gn (I f) v h)=if h then(eK f v).i.l else(eK f v).o.r:=by cases h<;>rfl
def RK(F:Bool):dD f (dx (I f) v F)=if F then(eK f v).o.l else(eK f v).i.r:=by cases F<;>rfl
theorem ahJ(g:a_ F f):dn f (I f):=by unfold dn;have:=g.even;simp[this]
def OG(g:a_ F f){i:Nat}(H:i<I f):(eK f i).i.b= !dn f i:=by
 show(!dn f _)=_;by_cases h:i=0
 .subst h;rw[jO,eN J,show I f-1+1=I f by omega,ahJ g];rfl
 rw[show i+I f-1=(i-1)+I f by omega,mT,eN J,show i-1+1=i by omega]
def I5(h:v<I f)(F:Bool):gn (I f) v F<nD f:=by have:=uB h F;unfold nD;omega
def RL(g:a_ F f){l:U}(hl:f[v]?=some l)(hp:l.aw):(eK f v).p.d=dn f v:=by show dw f v=_;simp[dw,hl,hp]
def DS(g:a_ F f){i:Nat}(H:i<I f):vA F (eK f i):=by
 obtain⟨l,hl⟩:=aM H;have h:=fq hl;refine⟨by rw[h];exact g.bad l (aX hl),λj=>?_,λhp=>?_⟩
 .rw[h]at j;rw[OG g H];show _= !dn f _
  grind [JJ,nv]
 rw[h]at hp;rw[OG g H,RL g hl hp];refine⟨?_,rfl⟩;show(!dn f _)=_;rw[Dy hl hp,AB]
def LC(g:a_ F f){i:Nat}(x:i<I f)(y:j<I f)(L:i≠j):mj (eK f i) (eK f j):=by
 obtain⟨l,hl⟩:=aM x;obtain⟨m,H⟩:=aM y;intro z M e;rw[fq hl]at z e;rw[fq H]at M e;obtain⟨_,hp⟩:=g.ids;obtain⟨d1,D⟩:=hp i j l m hl H z M e L;obtain⟨E,w,A,X,B,Z,ws⟩:=pE g.ok.cr hl z;have h:gC f i=j:=by
  refine Classical.byContradiction λO=>?_;have Y:=(hp _ _ w m A H X M (by rw[B,e]) O).1
  grind
 refine⟨?_,by rw[fq hl,fq H];exact D,?_⟩
 .grind [fq]
 rw[fq hl];have u:=Cr g (I5 x true);have T:=Cr g (I5 x false);have n:=Cr g (I5 y true);have v:=Cr g (I5 y false);rw[uk hl z,h,RK,Za g x]at u T;rw[uk H M,<-h,E,h,RK,Za g y]at n v;have Q:(m.over==(m.sign==1))= !eY l:=by grind [eY]
 rw[Q]at n v;have R:(l.over==(l.sign==1))=eY l:=rfl;rw[R]at u T;cases N:eY l<;>rw[N]at u T n v<;>simp at u T n v<;>constructor<;>simp[u,T,n,v]
def Qt(g:a_ F f){l:U}(hl:f[v]?=some l)(hp:l.aw):Aj (eS f) (eR f) (eK f v):=by
 have m:=(bd.1 hl).1;have ok:=g.ok;obtain⟨g0,g1,r0,r1⟩:=ok.ax.eO l (aX hl) hp;obtain⟨A,z⟩:=GA ok hl hp;have B:cX f l.gate.toNat+l.ao.toNat=(ay f).idxOf v+1:=by rw[Gs ok.ax hl hp];unfold eC;omega
 have y:cX f l.gate.toNat+(l.ao.toNat-1)=(ay f).idxOf v:=J;have E:(cX f l.gate.toNat+l.ao.toNat+I (ay f)-1)%I (ay f)=(ay f).idxOf v:=by rw[B,show(ay f).idxOf v+1+I (ay f)-1=(ay f).idxOf v+I (ay f) by omega,mT,eN A]
 have H:=fq hl;have j:=RL g hl hp;have N:∀k,k<I (ay f)->2*I f+2*k<nD f/\2*I f+2*k+1<nD f:=λk H=>by unfold nD;omega
 have n:=Cr g (I5 m (dn f v));have x:=Cr g (I5 m (!dn f v));have u:=Cr g (N _ A).2;have Q:=Cr g (N _ (cJ ((ay f).idxOf v+I (ay f)-1) J)).1;rw[B1 hl hp,Za g m]at n x;rw[A_,z,RK]at u;rw[Ae,uE A,z,RK]at Q;constructor
 .rw[H];unfold eS;rw[y];unfold aT.up;rw[j];cases h:dn f v<;>rw[h]at Q<;>exact Q
 .rw[H];unfold eS;rw[E];unfold aT.up;rw[j];cases h:dn f v<;>rw[h]at n<;>exact n.symm
 .rw[H];unfold eR;rw[y];unfold aT.lo;rw[j];cases h:dn f v<;>rw[h]at x<;>exact x.symm
 rw[H];unfold eR;rw[E];unfold aT.lo;rw[j];cases h:dn f v<;>rw[h]at u<;>exact u
def a_.cz(g:a_ F f):gE F (eE f) (eS f) (eR f) (List.range (fp f)):=by
 have R:=gA.2 g.ne;have M:∀x∈eE f,∃i,i<I f/\x=eK f i:=λx n=>by obtain⟨i,H,rfl⟩:=cD.1 n;exact⟨i,fA.1 H,rfl⟩
 have Y:=AK λl hl hp=>((kL hp).1 (g.bad l hl)).1.1.1;have ae:=lz f F;have u:0<I (ay f):=by obtain⟨l,z,y⟩:=g.first;exact K4 (qD.2 ⟨l,z,y⟩)
 have L:=g.ok.cr;unfold lA at L;simp only[cN,cW]at L;refine⟨⟨jH f (I f-1),?_⟩,λx n=>?_,RF λi j H D B=>LC g H D B,by rw[h_];exact L.1.1,λx n O=>?_,RF λi j H D B=>?_,λx n hp=>?_,λx n hp=>?_,
  λk X=>?_,?_,?_,B0,λs ae=>?_,?_⟩
 .have:=agp (eK f) (λi=>jH f ((i+I f-1)%I f)) (I f) 0 λi _ H=>⟨rfl,?_⟩
  .simp only[jO]at this;rwa[eN J,show I f+I f-1=(I f-1)+I f by omega,mT,eN J,<-Xk]at this
  show jH f i=jH f ((i+1+I f-1)%I f)
  grind [mT,eN]
 .obtain⟨i,H,rfl⟩:=M x n;exact DS g H
 .obtain⟨i,H,rfl⟩:=M x n;obtain⟨l,hl⟩:=aM H;rw[fq hl]at O |-;rw[h_];exact g.ids.1 l (aX hl) O
 .obtain⟨l,hl⟩:=aM H;obtain⟨m,u⟩:=aM D;intro pl v E A;rw[fq hl]at pl E A;rw[fq u]at v E A;exact B (g.ok.ax.inj i j l m hl u pl v ((Gp (g.ok.ax.eO l (aX hl) pl) (g.ok.ax.eO m (aX u) v)).2 ⟨E,A⟩))
 .obtain⟨i,H,rfl⟩:=M x n;obtain⟨l,hl⟩:=aM H;rw[fq hl]at hp |-;rw[h_];obtain⟨_,_,r0,r1⟩:=g.ok.ax.eO l (aX hl) hp;exact⟨r0,r1⟩
 .obtain⟨i,H,rfl⟩:=M x n;obtain⟨l,hl⟩:=aM H;rw[fq hl]at hp;exact Qt g hl hp
 .rw[h_];unfold eS eR;rw[lz f k,uX];exact⟨rfl,rfl⟩
 .rw[h_];unfold eS eR;have E:cX f F+aJ f F=I (ay f):=J;have Q:cX f 0=0:=rfl;rw[E,Q,jO,show(ay f).length+I (ay f)-1=(I (ay f)-1)+I (ay f) by omega,mT];exact⟨rfl,rfl⟩
 .obtain⟨l,z,y⟩:=g.first;exact⟨eK f 0,aX (xi R),by rw[fq z];exact y⟩
 .obtain⟨w,N⟩:=aM (fA.1 ae);obtain⟨⟨d,t,e,T⟩,_⟩:=zn g.ok w (aX N);have hp:dD f d=s:=Ap g N (by rw[e];simp);refine⟨eK f (d/2),aX (xi J),?_⟩;rcases oH d with h|h
  .refine .inl ?_;show s=dD f (2*(d/2));rw[show 2*(d/2)=d by omega,hp]
  refine .inr ?_;show s=dD f (2*(d/2)+1);rw[show 2*(d/2)+1=d by omega,hp]
 rw[h_,rY,g.nw];omega
end
structure jA (F:Nat) (z:fI) (T B:Nat->Nat->Nat):Prop where
 ok:∀x∈z,vA F x
 cr:z.Pairwise mj
 ev:au U.aq (aP z)%2=0
 ids:∀x∈z,x.k.aq->1<=x.k.id/\x.k.id<=((au U.aq (aP z)/2:Nat):Int)
 rk:z.Pairwise xR
 rr:∀x∈z,x.k.aw->1<=x.k.ao/\x.k.ao<=(aJ (aP z) x.k.gate.toNat:Int)
 pl:∀x∈z,x.k.aw->Aj T B x
 gt:∀g,g<F->T g (aJ (aP z) g)=T (g+1) 0/\B g (aJ (aP z) g)=B (g+1) 0
 gz:T F (aJ (aP z) F)=T 0 0/\B F (aJ (aP z) F)=B 0 0
def dW.mp(m:Nat->Nat)(s:dW):dW:=⟨m s.l,m s.r,s.b⟩
def aT.mp(m:Nat->Nat)(h:U->U)(x:aT):aT:=⟨⟨h x.p.l,x.p.d⟩,x.i.mp m,x.o.mp m⟩
def rb.mp{g:Bool}{i o j q:dW}(h:rb g i o j q)(m:Nat->Nat):rb g (i.mp m) (o.mp m) (j.mp m) (q.mp m):=by obtain⟨a,b,c,d⟩:=h;cases g<;>simp at a b c d<;>constructor<;>simp[dW.mp,a,b,c,d]
def ads(m:Nat->Nat)(h:U->U)(x:aT):(x.mp m h).up=x.up.mp m:=by unfold aT.up aT.mp;cases x.p.d<;>rfl
def ZT(m:Nat->Nat)(h:U->U)(x:aT):(x.mp m h).lo=x.lo.mp m:=by unfold aT.lo aT.mp;cases x.p.d<;>rfl
def D7:∀ {z:fI}{s t:dW},ie s z t->ie (s.mp m) (z.map (aT.mp m h)) (t.mp m):=by
 intro z
 induction z with
 |nil=>intro s t e;cases e;rfl
 |cons x z f=>intro s t e;obtain⟨rfl,e⟩:=e;exact⟨rfl,f e⟩
def W2{S L:aC}(H:S.Nodup):I S<=I (S.filter λs=> !L.contains s)+I L:=by
 have j:I S=I (S.filter λs=> !L.contains s)+I (S.filter λs=>L.contains s):=by
  have:=List.length_eq_countP_add_countP (λs=> !L.contains s) (l:=S);rw[LJ,LJ]at this
  grind
 have f:=Ij (S.filter λs=>L.contains s) L (H.filter _) λx h=>by simpa using(pg.1 h).2
 omega
structure xM (h:U->U):Prop where
 kind:∀l,(h l).kind=l.kind
 over:∀l,(h l).over=l.over
 sign:∀l,(h l).sign=l.sign
def xM.aw(s:xM h)(l:U):(h l).aw=l.aw:=by unfold U.aw;rw[s.kind]
def xM.aq(s:xM h)(l:U):(h l).aq=l.aq:=by unfold U.aq;rw[s.kind]
def xM.id:xM id:=⟨λ_=>rfl,λ_=>rfl,λ_=>rfl⟩
section
variable {F:Nat} {X r n:fI} {T B E D:Nat->Nat->Nat} {S:aC} {m:Nat->Nat} {h:U->U}
def gE.q(c:gE F z T B S):jA F z T B:=⟨c.ok,c.cr,c.ev,c.ids,c.rk,c.rr,c.pl,c.gt,c.gz⟩
def jA.perm(c:jA F z T B)(j:z.Perm H):jA F H T B:=by
 have f:∀ {x},x∈H↔x∈z:=λ{x}=>j.symm.mem_iff;have e:∀p,au p _=au p _:=λp=>(x_ j).symm;have E:∀g,aJ _ g=aJ _ g:=λg=>e _;exact⟨λx h=>c.ok x (f.1 h),(j.pairwise_iff λ{x y}=>mj.symm).1 c.cr,by rw[e];exact c.ev,λx h=>by rw[e];exact c.ids x (f.1 h),(j.pairwise_iff λ{x y}=>xR.symm).1 c.rk,
  λx h=>by rw[E];exact c.rr x (f.1 h),λx h=>c.pl x (f.1 h),λg m=>by rw[E];exact c.gt g m,by rw[E];exact c.gz⟩
def vA.mp{x:aT}(o:vA F x)(s:xM h)(H:d_ F (h x.k)=false):vA F (x.mp m h):=by
 refine⟨H,λf=>?_,λhp=>?_⟩
 .exact o.cb (by rw[<-s.aq];exact f)
 exact o.pb (by rw[<-s.aw];exact hp)
def jA.edit(q:jA F (X++r) T B)(s:xM h)(hb:∀x∈r,d_ F (h x.k)=false)
  (A:∀x∈r,∀y∈r,x.k.aq->y.k.aq->(h x.k).id=(h y.k).id->x.k.id=y.k.id)
  (O:∀x∈r,∀y∈r,x.k.aw->y.k.aw->(h x.k).gate=(h y.k).gate->(h x.k).ao=(h y.k).ao->x.k.gate=y.k.gate/\x.k.ao=y.k.ao)
  (n1:∀x∈n,vA F x) (n2:n.Pairwise mj) (n3:n.Pairwise xR) (n4:∀x∈n,∀y∈r,mj x (y.mp m h)) (Y:∀x∈n,∀y∈r,xR x (y.mp m h))
  (ev:au U.aq (aP (n++r.map (aT.mp m h)))%2=0)
  (ids:∀x∈n,x.k.aq->1<=x.k.id/\x.k.id<=((au U.aq (aP (n++r.map (aT.mp m h)))/2:Nat):Int))
  (ue:∀x∈r,x.k.aq->1<=(h x.k).id/\(h x.k).id<=((au U.aq (aP (n++r.map (aT.mp m h)))/2:Nat):Int))
  (rr:∀x∈n,x.k.aw->1<=x.k.ao/\x.k.ao<=(aJ (aP (n++r.map (aT.mp m h))) x.k.gate.toNat:Int))
  (R:∀x∈r,x.k.aw->1<=(h x.k).ao/\(h x.k).ao<=(aJ (aP (n++r.map (aT.mp m h))) (h x.k).gate.toNat:Int))
  (pl:∀x∈n,x.k.aw->Aj E D x)
  (Ll:∀x∈r,x.k.aw->(m (T x.k.gate.toNat (x.k.ao.toNat-1))=E (h x.k).gate.toNat ((h x.k).ao.toNat-1)/\m (B x.k.gate.toNat (x.k.ao.toNat-1))=D (h x.k).gate.toNat ((h x.k).ao.toNat-1))/\m (T x.k.gate.toNat x.k.ao.toNat)=E (h x.k).gate.toNat (h x.k).ao.toNat/\m (B x.k.gate.toNat x.k.ao.toNat)=D (h x.k).gate.toNat (h x.k).ao.toNat)
  (gt:∀g,g<F->E g (aJ (aP (n++r.map (aT.mp m h))) g)=E (g+1) 0/\D g (aJ (aP (n++r.map (aT.mp m h))) g)=D (g+1) 0)
  (gz:E F (aJ (aP (n++r.map (aT.mp m h))) F)=E 0 0/\D F (aJ (aP (n++r.map (aT.mp m h))) F)=D 0 0):jA F (n++r.map (aT.mp m h)) E D:=by
 have M:∀x∈n++r.map (aT.mp m h),x∈n\/ ∃y∈r,x=y.mp m h:=λx H=>by
  rcases iR.1 H with H|H
  .exact .inl H
  obtain⟨y,f,rfl⟩:=cD.1 H;exact .inr ⟨y,f,rfl⟩
 have v:∀y∈r,y∈X++r:=λy f=>vx _ f;refine⟨λx H=>?_,?_,ev,λx H j=>?_,?_,λx H hp=>?_,λx H hp=>?_,gt,gz⟩
 .rcases M x H with H|⟨y,f,rfl⟩
  .exact n1 x H
  exact(q.ok y (v y f)).mp s (hb y f)
 .refine FL.2 ⟨n2,wE.2 (((FL.1 q.cr).2.1).imp_of_mem λ{x y} H f L j u e=>?_),λx H y f=>?_⟩
  .have j:x.k.aq:=by rw[<-s.aq];exact j
   have u:y.k.aq:=by rw[<-s.aq];exact u
   obtain⟨h1,Z,h3⟩:=L j u (A x H y f j u e);refine⟨?_,?_,?_⟩
   .show(h x.k).over= !(h y.k).over;rw[s.over,s.over];exact h1
   .show(h x.k).sign=(h y.k).sign;rw[s.sign,s.sign];exact Z
   have:eY (x.mp m h).k=eY x.k:=by show((h x.k).over==((h x.k).sign==1))=_;rw[s.over,s.sign];rfl
   rw[this];exact h3.mp m
  obtain⟨w,z,rfl⟩:=cD.1 f;exact n4 x H w z
 .rcases M x H with H|⟨y,f,rfl⟩
  .exact ids x H j
  exact ue y f (by rw[<-s.aq];exact j)
 .refine FL.2 ⟨n3,wE.2 (((FL.1 q.rk).2.1).imp_of_mem λ{x y} H f L j u e1 e2=>?_),λx H y f=>?_⟩
  .have j:x.k.aw:=by rw[<-s.aw];exact j
   have u:y.k.aw:=by rw[<-s.aw];exact u
   obtain⟨f1,f2⟩:=O x H y f j u e1 e2;exact L j u f1 f2
  obtain⟨w,z,rfl⟩:=cD.1 f;exact Y x H w z
 .rcases M x H with H|⟨y,f,rfl⟩
  .exact rr x H hp
  exact R y f (by rw[<-s.aw];exact hp)
 rcases M x H with H|⟨y,f,rfl⟩
 .exact pl x H hp
 have hp:y.k.aw:=by rw[<-s.aw];exact hp
 obtain⟨p1,p2,N,Q⟩:=q.pl y (v y f) hp;obtain⟨⟨a1,a2⟩,a3,a4⟩:=Ll y f hp;constructor
 .rw[ads];show m y.up.r=_;rw[p1];exact a1
 .rw[ads];show m y.up.l=_;rw[p2];exact a3
 .rw[ZT];show m y.lo.r=_;rw[N];exact a2
 rw[ZT];show m y.lo.l=_;rw[Q];exact a4
def jA.Vy{L N:aC}{V:Nat}(q:jA F (n++r.map (aT.mp m h)) E D)(B:S.Nodup)(wit:∀s∈S,∃x∈X++r,s=x.o.l\/s=x.o.r)
  (A:H.Perm (n++r.map (aT.mp m h))) (T:∃s,ie s H s) (one:∃x∈n++r.map (aT.mp m h),x.k.aw)
  (z:∀s∈S,s∉L->m s=s) (M:∀x∈X,∀s∈S,(s=x.o.l\/s=x.o.r)->s∉L->∃y∈n++r.map (aT.mp m h),s=y.o.l\/s=y.o.r)
  (hN:N.Nodup) (O:∀s∈N,s∉S) (v:∀s∈N,∃y∈n++r.map (aT.mp m h),s=y.o.l\/s=y.o.r)
  (Z:V<=I S) (num:au U.aw (aP (n++r.map (aT.mp m h)))+au U.aq (aP (n++r.map (aT.mp m h)))/2+1+I L<=V+I N):gE F H E D (N++S.filter λs=> !L.contains s)/\V+I N<=I (N++S.filter λs=> !L.contains s)+I L:=by
 have Q:=q.perm A.symm;have Y:∀ {x},x∈H↔x∈n++r.map (aT.mp m h):=λ{x}=>A.mem_iff;refine⟨⟨T,Q.ok,Q.cr,Q.ev,Q.ids,Q.rk,Q.rr,Q.pl,Q.gt,Q.gz,?_,?_,λs ae=>?_,?_⟩,by rw[fU];have:=W2 (L:=L) B;omega⟩
 .grind
 .grind
 .have R:∃y∈n++r.map (aT.mp m h),s=y.o.l\/s=y.o.r:=by
   rcases iR.1 ae with ae|ae
   .exact v s ae
   obtain⟨u,j⟩:=pg.1 ae;have j:s∉L:=by simpa using j
   obtain⟨x,f,e⟩:=wit s u;rcases iR.1 f with f|f
   .exact M x f s u e j
   refine⟨x.mp m h,vx _ (cD.2 ⟨x,f,rfl⟩),?_⟩;have hp:=z s u j;rcases e with e|e
   .left;show s=m x.o.l;rw[<-e,hp]
   right;show s=m x.o.r;rw[<-e,hp]
  grind
 have e:∀p,au p (aP H)=au p (aP (n++r.map (aT.mp m h))):=λp=>x_ A;rw[e,e,fU];have:=W2 (L:=L) B;omega
def jA.done{l:aU}{L N:aC}{V:Nat}(q:jA F (n++r.map (aT.mp m h)) E D)(B:S.Nodup)(wit:∀s∈S,∃x∈X++r,s=x.o.l\/s=x.o.r)
  (M:H.Perm (n++r.map (aT.mp m h))) (O:∃s,ie s H s) (hl:H.map aT.p=l) (one:∃x∈n++r.map (aT.mp m h),x.k.aw)
  (f:∀s∈S,s∉L->m s=s) (v:∀x∈X,∀s∈S,(s=x.o.l\/s=x.o.r)->s∉L->∃y∈n++r.map (aT.mp m h),s=y.o.l\/s=y.o.r)
  (z:N.Nodup) (j:∀s∈N,s∉S) (u:∀s∈N,∃y∈n++r.map (aT.mp m h),s=y.o.l\/s=y.o.r)
  (A:V<=I S) (num:au U.aw (aP (n++r.map (aT.mp m h)))+au U.aq (aP (n++r.map (aT.mp m h)))/2+1+I L<=V+I N):fP F l:=by
 obtain⟨c,_⟩:=jA.Vy q B wit M O one f v z j u A num;exact⟨H,E,D,_,hl,c⟩
end
def au0(x:aT):x.mp id id=x:=rfl
def Ad(r:fI):r.map (aT.mp id id)=r:=by rw[show _=id from funext λx=>au0 x,List.map_id]
def rT(p:U->Bool)(a b:fI):au p (aP (a++b))=au p (aP a)+au p (aP b):=by grind
def fQ(p:U->Bool)(x:aT)(b:fI):au p (aP (x::b))=(if p x.k then 1 else 0)+au p (aP b):=by grind
def rO(p:U->Bool):au p (aP [])=0:=rfl
def ur{p:U->Bool}(hp:∀l,p (h l)=p l)(r:fI):au p (aP (r.map (aT.mp m h)))=au p (aP r):=by
 induction r with
 |nil=>rfl
 |cons x r f=>rw[eQ,fQ,fQ,f];show(if p (h x.k)then 1 else 0)+_=_;rw[hp]
def xJ{l:U}(g:Nat)(h:l.aq):ir g l=false:=by grind [ir,nv]
theorem jV{l:U}(h:l.aq):l.aw=false:=by
 cases hp:l.aw
 .rfl
 rw[nv hp]at h;cases h
def WB{x y:aT}(h:x.k.aq=false):mj x y:=λH=>by rw[h]at H;cases H
def Fo{x y:aT}(h:x.k.aq):xR x y:=λhp=>by rw[jV h]at hp;cases hp
def air{α:Type}{z:List α}{a:Nat}(u:a<I z)(A:2<=I z):∃x y r,z.drop a++z.take a=x::y::r/\z[a]?=some x/\z[(a+1)%I z]?=some y:=by
 obtain⟨x,n⟩:=aM u;obtain⟨hl,e⟩:=bd.1 n;have v:z.drop a=x::z.drop (a+1):=by rw[<-e,uA]
 by_cases c:a+1<I z
 .obtain⟨y,H⟩:=aM c;obtain⟨N,D⟩:=bd.1 H
  grind [uA,eN]
 have ea:a+1=I z:=J;obtain⟨y,H⟩:=aM (h:=z) (k:=0) J;have Z:z.drop (a+1)=[]:=List.drop_eq_nil_of_le J;have B:z.take a=y::(z.take a).drop 1:=by
  have m:(z.take a)[0]?=some y:=by rw[pR,an J];exact H
  obtain⟨j,E⟩:=bd.1 m;have:=uA (h:=j);rw[E,Kh]at this;exact this.symm
 grind [vv]
section
variable {F:Nat} {f:af}
def nH{l:U}(h:l.aq):(if U.aq l=true then 1 else 0)=1/\(if U.aw l=true then 1 else 0)=0:=by simp[h,jV h]
def yf{l:U}(h:l.aw):(if U.aq l=true then 1 else 0)=0/\(if U.aw l=true then 1 else 0)=1:=by simp[h,nv h]
def UW(g:a_ F f){a:Nat}(ha:a<I f){sg:Int}{o:Bool}(ae:sg=1\/sg= -1):fP F (r7 f a sg o):=by
 have c:=g.cz;have n:=h_ f;obtain⟨s,hp⟩:=c.path;have R:eE f=(eE f).take (a+1)++(eE f).drop (a+1):=(jC ..).symm;rw[R]at hp;obtain⟨m,k9,mQ⟩:=wJ.1 hp
 let N:Int:=((au U.aq f/2+1:Nat):Int)
 let k:dW:=if o==(sg==1)then⟨m.r,fp f,m.b⟩else⟨fp f,m.l,m.b⟩
 let x:aT:=⟨⟨⟨2,0,0,N,sg,o⟩,false⟩,m,k⟩
 let y:aT:=⟨⟨⟨2,0,0,N,sg,!o⟩,false⟩,k,m⟩
 have T:k.b=m.b:=by show(if _ then _ else _:dW).b=_;split<;>rfl
 have v:x.k.aq:=rfl;have A:y.k.aq:=rfl;have O:∀ov,d_ F ⟨2,0,0,N,sg,ov⟩=false:=λov=>by simp[d_];simpa using(by rcases ae with rfl|rfl<;>decide)
 have D:au U.aq (aP ([x,y]++(eE f).map (aT.mp id id)))=au U.aq f+2:=by rw[Ad,rT,fQ,fQ,rO,n,(nH v).1,(nH A).1];omega
 have f_:au U.aw (aP ([x,y]++(eE f).map (aT.mp id id)))=au U.aw f:=by rw[Ad,rT,fQ,fQ,rO,n,(nH v).2,(nH A).2];omega
 have M:∀q,aJ (aP ([x,y]++(eE f).map (aT.mp id id))) q=aJ f q:=λq=>by show au _ _=au _ _;rw[Ad,rT,fQ,fQ,rO,n,xJ q v,xJ q A];simp
 have ev:=c.ev;rw[n]at ev;have En:yx x y:=by
  refine⟨by show o= !!o;simp,rfl,?_⟩;show rb (o==(sg==1)) m k k m;cases B:(o==(sg==1))
  .have:k=⟨fp f,m.l,m.b⟩:=by show(if _ then _ else _:dW)=_;rw[B];rfl
   rw[this];constructor<;>rfl
  have:k=⟨m.r,fp f,m.b⟩:=by show(if _ then _ else _:dW)=_;rw[B];rfl
  rw[this];constructor<;>rfl
 have Y:=λw j E=>by have:=c.ids w j E;rwa[n]at this
 have q:jA F ([x,y]++(eE f).map (aT.mp id id)) (eS f) (eR f):=by
  refine jA.edit (X:=[]) c.q xM.id (λw j=>(c.ok w j).bad) (λ_ _ _ _ _ _ e=>e) (λ_ _ _ _ _ _ e ac=>⟨e,ac⟩) (λw j=>?_) ?_ ?_ (λu z w j=>?_) (λu z w j=>?_) (by rw[D];omega) (λw j E=>?_) (λw j E=>?_) (λw j hp=>?_) (λw j hp=>?_) (λw j hp=>?_) (λw j hp=>⟨⟨rfl,rfl⟩,rfl,rfl⟩) (λg' B=>?_) ?_
  .simp only[dt,gH,or_false]at j;rcases j with rfl|rfl
   .exact⟨O o,λ_=>T.symm,λh=>by cases h⟩
   exact⟨O (!o),λ_=>T,λh=>by cases h⟩
  .exact jy.2 ⟨λw j=>by simp only[dt,gH,or_false]at j;subst j;exactλ_ _ _=>En,ED ..⟩
  .exact jy.2 ⟨λw j=>Fo v,ED ..⟩
  .intro Q Z e;have qT:=Y w j Z;simp only[dt,gH,or_false]at z;have:u.k.id=N:=by rcases z with rfl|rfl<;>rfl
   have e:u.k.id=w.k.id:=e;exfalso;omega
  .simp only[dt,gH,or_false]at z;rcases z with rfl|rfl
   .exact Fo v
   exact Fo A
  .rw[D];simp only[dt,gH,or_false]at j;have:w.k.id=N:=by rcases j with rfl|rfl<;>rfl
   omega
  .rw[D];have qT:=Y w j E;simp only[id];omega
  .simp only[dt,gH,or_false]at j;rcases j with rfl|rfl<;>cases hp
  .rw[M];have:=c.rr w j hp;rwa[n]at this
  .simp only[dt,gH,or_false]at j;rcases j with rfl|rfl<;>cases hp
  .have:=c.gt g' B;rw[n]at this;rw[M];exact this
  have:=c.gz;rw[n]at this;rw[M];exact this
 refine jA.done (X:=[]) (L:=[]) (N:=[fp f]) (H:=(eE f).take (a+1)++[x,y]++(eE f).drop (a+1)) q c.nd (λs ae=>c.wit s ae) ?_ ⟨s,?_⟩ ?_ ?_ (λ_ _ _=>rfl) (λx hx=>by cases hx) (qH.2 ⟨gH,qX⟩) (λs ae=>?_) (λs ae=>?_) (by rw[rY];exact ct _) ?_
 .rw[Ad];have Q:((eE f).take (a+1)++[x,y]++(eE f).drop (a+1)).Perm ([x,y]++(eE f).take (a+1)++(eE f).drop (a+1)):=Px _ Fe;rwa[kr [x,y],<-R]at Q
 .exact wJ.2 ⟨m,wJ.2 ⟨m,k9,rfl,rfl,rfl⟩,mQ⟩
 .rw[fE,fE,sh,uy,rC];rfl
 .obtain⟨w,j,e⟩:=c.one;rw[Ad];exact⟨w,vx _ j,e⟩
 .simp only[dt,gH,or_false]at ae;subst ae;simp
 .simp only[dt,gH,or_false]at ae;subst ae;refine⟨x,aH,?_⟩;show fp f=k.l\/fp f=k.r;show fp f=(if _ then _ else _:dW).l\/fp f=(if _ then _ else _:dW).r;split
  .exact .inr rfl
  exact .inl rfl
 rw[D,f_];have:=g.nw;simp only[gk,fG];omega
end
def iL(ids:bQ)(l:U):U:=if l.kind==2 then{l with id:=l.id-((ids.take (I ids)).countP (λi=>decide (i<l.id)):Nat)}else l
def zU(ids:bQ):xM (iL ids):=by refine⟨λl=>?_,λl=>?_,λl=>?_⟩<;>unfold iL<;>split<;>rfl
def acj(ids:bQ)(p:aK):jL ids p=⟨iL ids p.l,p.d⟩:=by unfold jL iL jY;split<;>rfl
def Ax{ids:bQ}{l:U}(h:l.aw):iL ids l=l:=by
 unfold iL;have:=nv h;unfold U.aq at this
 grind
def ajX{ids:bQ}{l:U}(h:d_ F l=false):d_ F (iL ids l)=false:=by
 rcases xj h with hp|H
 .rw[Ax hp];exact h
 rw[Nh H]at h;rw[Nh (by rw[(zU ids).aq];exact H)];unfold iL;split<;>exact h
def ac1(ids:bQ)(g:Nat)(l:U):ir g (iL ids l)=ir g l:=by
 cases hp:l.aw
 .unfold ir;rw[(zU ids).aw,hp];rfl
 rw[Ax hp]
theorem afa{ids:bQ}{l:U}(h:l.aq):(iL ids l).id=l.id-((ids.countP λi=>decide (i<l.id):Nat):Int):=by grind [iL,U.aq]
def U7{l:aU}{drop:Nat->aK->Bool}{d:aK->Bool}(h:∀i p,drop i p=d p):kW l drop=l.filter λp=> !d p:=by
 have j:∀k,k<=I l->sD l drop k=(l.take k).filter λp=> !d p:=by
  intro k
  induction k with
  |zero=>intro _;rfl
  |succ k m=>
   intro H;obtain⟨p,hp⟩:=aM (h:=l) (k:=k) J;rw[jB,hp,BF,<-m J]
   grind [GX,CB]
 unfold kW
 grind
def S7:∀ {z:fI}{s t:dW},ie s z t->z≠[]->∃w∈z,w.o=t:=by
 intro z
 induction z with
 |nil=>intro s t _ h;exact absurd rfl h
 |cons x z f=>
  intro s t h _;obtain⟨_,h⟩:=h;cases z with
  |nil=>cases h;exact⟨x,aH,rfl⟩
  |cons y z=>grind
section
variable {F:Nat} {f:af}
def agk{x y:aT}{r:fI}{T B:Nat->Nat->Nat}(q:jA F (x::y::r) T B)(j:x.k.aq)(n:y.k.aq)(e:x.k.id=y.k.id):∀w∈r,w.k.aq->w.k.id≠x.k.id:=by
 intro w h m E;obtain⟨f,v⟩:=jy.1 q.cr;obtain⟨u,_⟩:=jy.1 v;have a:=(f y aH j n e).ov;rw[(f w (by simp[h]) j m E.symm).ov]at a;rw[(u w h n m J).ov]at a
 grind
def MS(g:a_ F f){a:Nat}(m:a<I f):∃x y r s,(eE f).drop a++(eE f).take a=x::y::r/\(aA f)[a]?=some x.p/\(aA f)[nx f a]?=some y.p/\
  gE F (x::y::r) (eS f) (eR f) (List.range (fp f))/\ie s (x::y::r) s/\(aA f).drop a++(aA f).take a=(x::y::r).map aT.p/\(eE f)[a]?=some x/\(eE f)[nx f a]?=some y/\(x::y::r).Perm (eE f):=by
 have j:2<=I f:=by
  obtain _:=g.first;have:=g.even
  grind
 have hl:=xQ f;obtain⟨x,y,r,e,H,h⟩:=air (z:=eE f) (a:=a) J J;rw[hl]at h;have c:gE F ((eE f).drop a++(eE f).take a) (eS f) (eR f) (List.range (fp f)):=by refine gE.l9 ?_;rw[jC];exact g.cz
 rw[e]at c;obtain⟨s,ae⟩:=c.path;refine⟨x,y,r,s,e,?_,?_,c,ae,?_,H,h,?_⟩
 .rw[<-rC,dy,H];rfl
 .rw[<-rC,dy,h];rfl
 .rw[<-e,fE,uy,sh,rC]
 rw[<-e];exact Fe.trans aH
def aaK{a:Nat}{d:aK->Bool}{h:aK->aK}(c:fP F ((((aA f).drop a++(aA f).take a).filter d).map h)):fP F (((aA f).filter d).map h):=by rw[BF,fE]at c;have:=c.l9;rwa[<-fE,<-BF,jC]at this
def LO{l:U}:l.aq=(l.kind==2):=rfl
def YS{α:Type}{l:List α}{p:α->Bool}(h:∀x∈l,p x):l.filter p=l:=List.filter_eq_self.2 h
def Uj(g:a_ F f){a:Nat}(ha:a<I f)(h:n_ f a=some L):fP F L:=by
 obtain⟨x,y,r,s,e,hx,hy,c,hp,rQ,_,_,iV⟩:=MS g ha;have q:=c.q;unfold n_ at h;have e1:(aA f).getD a ⟨ga,false⟩=x.p:=by rw[dz,hx];rfl
 have e2:(aA f).getD ((a+1)%I f) ⟨ga,false⟩=y.p:=by rw[dz,hy];rfl
 simp only[e1,e2]at h;split at h
 case isFalse=>cases h
 rename_i R;simp only[cN,cW]at R;obtain⟨iT,pG,Z⟩:=R;have B:x.k.aq:=by rw[LO];simp[iT]
 have D:y.k.aq:=by rw[LO];simp[pG]
 have qN:=Z;cases h;have KJ:=agk q B D qN;obtain⟨j6,iW,yA⟩:=hp
 have ix:=(q.ok x aH).cb B;have iy:=(q.ok y aH).cb D;have E:=((jy.1 q.cr).1 y aH B D qN).x4;rw[j6,iW]at E;rw[j6]at ix;rw[iW]at iy;have Y:y.o=s:=by
  obtain⟨k1,k2,k3,k4⟩:=E;have hb:y.o.b=s.b:=by rw[<-iy,<-ix]
  cases y with
  |mk yp yi yo=>
  cases yo with
  |mk l r b=>
  cases s with
  |mk sl sr sb=>
  cases hg:eY x.k<;>rw[hg]at k1 k2 k3 k4<;>simp only[gJ,if_false,if_true]at k1 k2 k3 k4 hb<;>simp_all
 rw[Y]at yA;have Wt:∃b,(s.r=b\/s.l=b)/\ ∀t,(t=x.o.l\/t=x.o.r)->t=s.l\/t=s.r\/t=(if eY x.k then x.o.r else x.o.l):=by
  obtain⟨k1,k2,k3,k4⟩:=E;refine⟨s.r,.inl rfl,?_⟩
  grind [eY]
 obtain⟨_,_,Wt⟩:=Wt;have eD:=q.ev;have A3:∀z:fI,au U.aq (aP (x::y::z))=au U.aq (aP z)+2:=λz=>by rw[fQ,fQ,(nH B).1,(nH D).1];omega
 have Hv:∀z:fI,au U.aw (aP (x::y::z))=au U.aw (aP z):=λz=>by rw[fQ,fQ,(nH B).2,(nH D).2];omega
 have yn:∀(z:fI) k,aJ (aP (x::y::z)) k=aJ (aP z) k:=λz k=>by show au _ _=au _ _;rw[fQ,fQ,xJ k B,xJ k D];simp
 have mC:au U.aq (aP (r.map (aT.mp id (iL [x.k.id]))))=au U.aq (aP r):=ur (λl=>(zU _).aq l) r;have mG:∀k,aJ (aP (r.map (aT.mp id (iL [x.k.id])))) k=aJ (aP r) k:=λk=>ur (λl=>ac1 _ k l) r;have n:∀w∈r,w.k.aq->(iL [x.k.id] w.k).id=if x.k.id<w.k.id then w.k.id-1 else w.k.id:=λw j R=>by
  rw[afa R];by_cases c:x.k.id<w.k.id
  .simp[c]
  simp[c]
 have Kr:=λw j R=>by have:=q.ids w j R;rw[A3]at this;omega
 have hr:r≠[]:=by
  obtain⟨w,j,Q⟩:=c.one;rintro rfl
  simp only[dt,gH,or_false]at j;rcases j with rfl|rfl
  .rw[jV B]at Q;cases Q
  rw[jV D]at Q;cases Q
 have inr:∀w∈r,w∈x::y::r:=λw j=>by simp[j]
 have qn:jA F ([]++r.map (aT.mp id (iL [x.k.id]))) (eS f) (eR f):=by
  refine jA.edit (X:=[x,y]) q (zU _) (λw j=>ajX (q.ok w (inr w j)).bad) (λu A v T N cv e=>?_) (λu A v T O pv e1 e2=>?_) (λ_ h=>by cases h) List.Pairwise.nil List.Pairwise.nil (λ_ h=>by cases h) (λ_ h=>by cases h) ?_ (λ_ h=>by cases h) (λu A N=>?_) (λ_ h=>by cases h) (λu A O=>?_) (λ_ h=>by cases h) (λu A O=>?_) (λk E=>?_) ?_
  .have h1:=KJ u A N;have h2:=KJ v T cv;rw[n u A N,n v T cv]at e;split at e<;>split at e<;>omega
  .rw[Ax O,Ax pv]at e1 e2;exact⟨e1,e2⟩
  .rw[fz,mC];rw[A3]at eD;omega
  .rw[fz,mC,n u A N];have h1:=Kr u (inr u A) N;have h2:=KJ u A N;have h3:=Kr x aH B;split<;>omega
  .rw[fz,Ax O,mG,<-yn r];exact q.rr u (inr u A) O
  .rw[Ax O];exact⟨⟨rfl,rfl⟩,rfl,rfl⟩
  .rw[fz,mG,<-yn r];exact q.gt k E
  rw[fz,mG,<-yn r];exact q.gz
 have FH:fP F (r.map λw=>jL [x.k.id] w.p):=by
  refine jA.done (X:=[x,y]) (L:=[if eY x.k then x.o.r else x.o.l]) (H:=r.map (aT.mp id (iL [x.k.id]))) qn c.nd (λt M=>c.wit t M) (FI _) ⟨s,D7 (m:=id) yA⟩ ?_ ?_ (λ_ _ _=>rfl) (λw j t M ew hL=>?_) qX (λt M=>by cases M) (λt M=>by cases M) (by rw[rY];exact ct _) ?_
  .rw[gi];refine kD λw _=>?_;rw[acj];rfl
  .obtain⟨w,j,Q⟩:=c.one;simp only[dt]at j;rcases j with rfl|rfl|j
   .rw[jV B]at Q;cases Q
   .rw[jV D]at Q;cases Q
   refine⟨w.mp id (iL [x.k.id]),?_,?_⟩
   .rw[fz];exact cD.2 ⟨w,j,rfl⟩
   show(iL [x.k.id] w.k).aw=true;rw[(zU _).aw];exact Q
  .obtain⟨v,T,ac⟩:=S7 yA hr;have ad:t=s.l\/t=s.r:=by
    simp only[dt,gH,or_false]at j hL;rcases j with rfl|rfl
    .rcases Wt t ew with h|h|h
     .exact .inl h
     .exact .inr h
     exact absurd h hL
    rw[Y]at ew;exact ew
   refine⟨v.mp id (iL [x.k.id]),by rw[fz];exact cD.2 ⟨v,T,rfl⟩,?_⟩;show t=id v.o.l\/t=id v.o.r;rw[ac];exact ad
  rw[fz,mC,ur (λl=>(zU _).aw l) r];have h1:=g.nw;have h2:au U.aq (aP (x::y::r))=au U.aq f:=by rw[x_ iV,h_]
  have h3:au U.aw (aP (x::y::r))=au U.aw f:=by rw[x_ iV,h_]
  rw[A3]at h2;rw[Hv]at h3;simp only[gk,fG];omega
 show fP F ((kW (aA f) (tX [x.k.id])).map (jL [x.k.id]));rw[U7 (drop:=tX [x.k.id]) λ_ _=>rfl];refine aaK (a:=a) ?_;rw[rQ];have hf:((x::y::r).map aT.p).filter (λp=> !((p.l.kind==2)&&[x.k.id].contains p.l.id))=r.map aT.p:=by
  rw[eQ,eQ,Ql (by simp[iT]),Ql (by simp[pG,Z])];refine YS λp hp=>?_;obtain⟨w,j,rfl⟩:=cD.1 hp;cases E:(w.p.l.kind==2)
  .rfl
  have:=KJ w j E;simp[this]
 rw[hf,gi];exact FH
end
def gM(c e a:Nat):Nat:=if a=c then e else a
def rA(c e:Nat):gM c e c=e:=an rfl
def sd(c e:Nat):gM c e e=e:=by unfold gM;split<;>rfl
def M0{c e a:Nat}(h:a≠c):gM c e a=a:=ai h
def kP(g A y:Int)(l:U):U:=if(l.kind==1)&&((l.gate==g)&&decide (A<l.ao))then{l with ao:=l.ao+y}else l
def LN(g A y:Int)(p:aK):ch g A y p=⟨kP g A y p.l,p.d⟩:=by unfold ch kP;split<;>rfl
def tz(g A y:Int):xM (kP g A y):=by refine⟨λl=>?_,λl=>?_,λl=>?_⟩<;>unfold kP<;>split<;>rfl
def s8(g A y:Int)(l:U):(kP g A y l).gate=l.gate:=by unfold kP;split<;>rfl
def AH(g A y:Int)(l:U):(kP g A y l).id=l.id:=by unfold kP;split<;>rfl
def apg{g:Int}{l:U}(h:l.aq):kP g A y l=l:=by unfold kP;have:=jV h;unfold U.aw at this;rw[this];simp
def YK(g A y:Int)(k:Nat)(l:U):ir k (kP g A y l)=ir k l:=by unfold ir;rw[(tz g A y).aw,s8]
def St{g:Int}{l:U}(h:l.aw):(kP g A y l).ao=if l.gate=g/\A<l.ao then l.ao+y else l.ao:=by grind [kP,U.aw]
def UC{g:Int}{l:U}(h:d_ F l=false):d_ F (kP g A y l)=false:=by
 rcases xj h with hp|H
 .rw[kL hp]at h;rw[kL (by rw[(tz g A y).aw];exact hp),s8,AH,(tz g A y).sign,(tz g A y).over];exact h
 rw[apg H];exact h
def YB{l:aU}{drop:Nat->aK->Bool}:∀d j,j+d<=I l->(∀i p,j<=i->i<j+d->drop i p=false)->sD l drop (j+d)=sD l drop j++(l.drop j).take d:=by
 intro d
 induction d with
 |zero=>intro j _ _;simp
 |succ d m=>intro j n h;obtain⟨p,hp⟩:=aM (h:=l) (k:=j+d) J;rw[show j+(d+1)=(j+d)+1 by omega,GX hp (h _ _ J J),m j J λi p H u=>h i p H J,jB,C0,hp,kr];rfl
def Yi{l:aU}{a:Nat}(F:a<I l)(z:2<=I l){p q:aK}{r:aU}(e:l.drop a++l.take a=p::q::r):∃u v,(kW l λk _=>decide (k=a)||decide (k=(a+1)%I l))=u++v/\r=v++u:=by
 have m:∀i (p:aK),i≠a->i≠(a+1)%I l->(λ(k:Nat) (_:aK)=>decide (k=a)||decide (k=(a+1)%I l)) i p=false:=λi p j z=>by simp[j,z]
 have T:∀i (p:aK),i=a\/i=(a+1)%I l->(λ(k:Nat) (_:aK)=>decide (k=a)||decide (k=(a+1)%I l)) i p=true:=λi p h=>by simpa using h
 obtain⟨x,n⟩:=aM F;by_cases c:a+1<I l
 .obtain⟨y,H⟩:=aM c;rw[eN c]at m T |-;have A:=YB (l:=l) a 0 J λi p _ h=>m i p J J;have k3:=YB (l:=l) (I l-(a+2)) (a+1+1) J λi p h _=>m i p J J;refine⟨l.take a,l.drop (a+2),?_,?_⟩
  .unfold kW;rw[show a+1+1+(I l-(a+2))=I l by omega,CB H (T (a+1) y (.inr rfl)),CB n (T a x (.inl rfl))]at k3;rw[jO]at A;rw[k3,A];have:sD l (λk _=>decide (k=a)||decide (k=a+1)) 0=[]:=rfl;rw[this,Kh,fz,fL (l:=l.drop (a+1+1)) (by rw[pS];omega)]
  have E:l.drop a=x::y::l.drop (a+2):=by
   obtain⟨j,E⟩:=bd.1 n;obtain⟨z,B⟩:=bd.1 H
   grind [uA]
  rw[E]at e;simp only[ko,Mm]at e;exact e.2.2.symm
 have ea:a+1=I l:=J;have D:(a+1)%I l=0:=by rw[ea,vv]
 rw[D]at m T |-;obtain⟨y,H⟩:=aM (h:=l) (k:=0) J;have k2:=YB (l:=l) (a-1) 1 J λi p h L=>m i p J J;refine⟨[],(l.drop 1).take (a-1),?_,?_⟩
 .unfold kW;rw[<-ea,CB n (T a x (.inl rfl))];rw[show 1+(a-1)=a by omega]at k2;rw[k2];rw[show(1:Nat)=0+1 from rfl,CB H (T 0 y (.inr rfl))];rfl
 have E:l.drop a=[x]:=by
  obtain⟨j,E⟩:=bd.1 n
  grind [uA]
 have B:l.take a=y::(l.drop 1).take (a-1):=by
  obtain⟨j,E⟩:=bd.1 H;have:l=y::l.drop 1:=by have:=uA j;rw[E,Kh]at this;exact this.symm
  conv=>lhs;rw[this]
  rw[show a=(a-1)+1 by omega,RX];rfl
 rw[E,B]at e;simp only[ko,fz,Mm]at e;rw[i_];exact e.2.2.symm
section
variable {F:Nat} {f:af}
def dW.ext'{s t:dW}(h:s.l=t.l)(f:s.r=t.r)(H:s.b=t.b):s=t:=by cases s;cases t;simp_all
def amh(g:a_ F f){i:Nat}(L:i<I f)(D:j<I f)(h:(jH f i).b≠(jH f j).b)(z:u/2=i)(x:v/2=j):dD f u≠dD f v:=λe=>by
 have n:∀d,d<2*I f->d<nD f:=λd B=>by unfold nD;omega
 obtain⟨w,H,A⟩:=xo g (n u J);obtain⟨E,m,y⟩:=xo g (n v J);rw[<-e,H]at m;cases m;have:=Y7 g (aX H) A y J J;rw[z,x]at this;exact h (by show(!dn f _)= !dn f _;rw[this])
def axH(g:a_ F f){a:Nat}(ha:a<I f)(h:qc f a=some L):L=[]\/ ∃(x Y:aT) (r:fI) (lo:Nat) (m:Nat->Nat) (s:dW) (T B:Nat->Nat->Nat) (S:aC),L=eL (kW (aA f) λk _=>decide (k=a)||decide (k=(a+1)%I f)) x.k.gate ((lo:Int)+1) (-2)/\(aA f).drop a++(aA f).take a=(x::Y::r).map aT.p/\(x.k.aw/\Y.k.aw)/\(Y.k.gate=x.k.gate/\0<=x.k.gate/\x.k.gate<=(F:Int))/\1<=lo/\((x.k.ao=lo/\Y.k.ao=lo+1)\/(x.k.ao=lo+1/\Y.k.ao=lo))/\(Y.p.d=(!x.p.d)/\s.b= !x.p.d)/\r≠[]/\lo<=aJ (aP r) x.k.gate.toNat+1/\ie (s.mp m) (r.map (aT.mp m (kP x.k.gate ((lo:Int)+1) (-2)))) (s.mp m)/\gE F (r.map (aT.mp m (kP x.k.gate ((lo:Int)+1) (-2)))) T B S/\fp f<=I S+3/\
  (if(x.p.d==(x.k.ao==(lo:Int)))=true then(s.mp m).r else(s.mp m).l)=(if x.p.d=true then T x.k.gate.toNat (lo-1)else B x.k.gate.toNat (lo-1))/\(if x.p.d=true then B x.k.gate.toNat (lo-1)else T x.k.gate.toNat (lo-1))∉S:=by
 obtain⟨x,Y,r,s,e,hx,hy,c,hp,rQ,KQ,KR,iV⟩:=MS g ha;have q:=c.q;unfold qc at h;have e1:(aA f).getD a ⟨ga,false⟩=x.p:=by rw[dz,hx];rfl
 have e2:(aA f).getD ((a+1)%I f) ⟨ga,false⟩=Y.p:=by rw[dz,hy];rfl
 simp only[e1,e2]at h;split at h
 case isFalse=>cases h
 rename_i hc;simp only[cN,cW,ke,Bool.and_eq_false_iff,decide_eq_false_iff_not]at hc;obtain⟨iT,pG,jK,j5,RO⟩:=hc;cases h;have px:x.k.aw:=by show(x.k.kind==1)=true;simp[iT]
 have py:Y.k.aw:=by show(Y.k.kind==1)=true;simp[pG]
 obtain⟨j6,iW,yA⟩:=hp;have ox:=(q.ok x aH).pb px;have oy:=(q.ok Y aH).pb py;have aZ:=q.pl Y aH py;have gx:=((kL px).1 (q.ok x aH).bad).1.1.1;have rx:=q.rr x aH px;have ry:=q.rr Y aH py;have yq:Y.k.gate=x.k.gate:=jK.symm;rw[yq]at ry
 have A3:∀z:fI,au U.aq (aP (x::Y::z))=au U.aq (aP z):=λz=>by rw[fQ,fQ,(yf px).1,(yf py).1];omega
 have Hv:∀z:fI,au U.aw (aP (x::Y::z))=au U.aw (aP z)+2:=λz=>by rw[fQ,fQ,(yf px).2,(yf py).2];omega
 have yn:∀(z:fI) k,aJ (aP (x::Y::z)) k=aJ (aP z) k+if k=x.k.gate.toNat then 2 else 0:=λz k=>by
  show au _ _=au _ _+_;rw[fQ,fQ];have:∀w:aT,w.k.aw->w.k.gate=x.k.gate->(if ir k w.k=true then 1 else 0)=if k=x.k.gate.toNat then 1 else 0:=λw N aB=>by
   unfold ir;rw[N,aB];by_cases ck:k=x.k.gate.toNat
   .subst ck;simp[Ta gx.1]
   have:(x.k.gate==(k:Int))=false:=by rw[mE];omega
   simp[this,ck]
  rw[this x px rfl,this Y py yq];split<;>omega
 have h2:au U.aq (aP (x::Y::r))=au U.aq f:=by rw[x_ iV,h_]
 have h3:au U.aw (aP (x::Y::r))=au U.aw f:=by rw[x_ iV,h_]
 have a0:I f=I r+2:=by have:=iV.length_eq;rw[xQ]at this;simpa using this.symm
 obtain⟨lo,apR,RR,mZ⟩:∃lo:Nat,1<=lo/\((x.k.ao=lo/\Y.k.ao=lo+1)\/(x.k.ao=lo+1/\Y.k.ao=lo))/\hU x.k.ao Y.k.ao=lo+1:=by
  have KE:hU x.k.ao Y.k.ao-m_ x.k.ao Y.k.ao=1:=j5;unfold hU m_ at KE;unfold hU;by_cases c1:x.k.ao<Y.k.ao
  .rw[an c1]at KE |-;rw[ai J]at KE;exact⟨x.k.ao.toNat,J,.inl ⟨J,J⟩,J⟩
  rw[ai c1]at KE |-;by_cases c2:Y.k.ao<x.k.ao
  .rw[an c2]at KE;exact⟨Y.k.ao.toNat,J,.inr ⟨J,J⟩,J⟩
  rw[ai c2]at KE;omega
 have az:lo+1<=aJ (aP (x::Y::r)) x.k.gate.toNat:=by rcases RR with⟨O,h2⟩|⟨O,h2⟩<;>omega
 have aj:Y.p.d= !x.p.d:=by have O:=oy.2;rw[iW,ox.1]at O;revert O;cases x.p.d<;>cases Y.p.d<;>simp
 have ap:(((lo:Int)+1)==(lo:Int))=false:=by rw[mE];omega
 obtain⟨M,H,m1,m2,m3,m4,m6,m7,m8⟩:∃M H:Nat,(Y.o.mp (gM M H)=s.mp (gM M H))/\gM M H (eS f x.k.gate.toNat (lo+1))=gM M H (eS f x.k.gate.toNat (lo-1))/\gM M H (eR f x.k.gate.toNat (lo+1))=gM M H (eR f x.k.gate.toNat (lo-1))/\
   (∀t,(t=Y.o.l\/t=Y.o.r)->t=M\/t=s.l\/t=s.r)/\((if(x.p.d==(x.k.ao==(lo:Int)))=true then gM M H s.r else gM M H s.l)=(if x.p.d=true then gM M H (eS f x.k.gate.toNat (lo-1))else gM M H (eR f x.k.gate.toNat (lo-1))))/\((if x.p.d=true then eR f x.k.gate.toNat (lo-1)else eS f x.k.gate.toNat (lo-1))=x.o.l\/(if x.p.d=true then eR f x.k.gate.toNat (lo-1)else eS f x.k.gate.toNat (lo-1))=x.o.r)/\(M=Y.o.l\/M=Y.o.r):=by
  have hb:Y.o.b=s.b:=by rw[oy.1,aj,<-j6,ox.2]
  obtain⟨p1,p2,p3,p4⟩:=q.pl x aH px;obtain⟨Q,p6,R,p8⟩:=aZ;rw[yq]at Q p6 R p8;unfold aT.up at p1 p2 Q p6;unfold aT.lo at p3 p4 R p8;rw[aj]at Q p6 R p8;rw[j6]at p1 p2 p3 p4;rw[iW]at Q p6 R p8;have done:∀M H,(gM M H Y.o.l=gM M H s.l)->(gM M H Y.o.r=gM M H s.r)->Y.o.mp (gM M H)=s.mp (gM M H):=λM H O h2=>dW.ext' O h2 hb;rcases RR with⟨r1,r2⟩|⟨r1,r2⟩
  .have n1:x.k.ao.toNat=lo:=J;have n2:Y.k.ao.toNat=lo+1:=J;rw[n1]at p1 p2 p3 p4;rw[n2]at Q p6 R p8;rw[Fw]at Q R;cases hd:x.p.d<;>rw[hd]at p1 p2 p3 p4 Q p6 R p8<;>simp only[JX,CW,gJ,if_false,if_true,iZ]at p1 p2 p3 p4 Q p6 R p8
   .have ee:Y.o.r=s.r:=by rw[R,p4]
    refine⟨Y.o.l,s.l,done _ _ ?_ (by rw[ee]),by rw[<-p6,p1],by rw[<-p8,<-p3,rA,sd],?_,by rw[r1,CT];exact congrArg (gM Y.o.l s.l) p3,.inl p1.symm,.inl rfl⟩
    .rw[rA,sd]
    rintro t (rfl|rfl)
    .exact .inl rfl
    exact .inr (.inr ee)
   have ee:Y.o.l=s.l:=by rw[Q,p2]
   refine⟨Y.o.r,s.r,done _ _ (by rw[ee]) ?_,by rw[<-p6,<-p1,rA,sd],by rw[<-p8,p3],?_,by rw[r1,CT];exact congrArg (gM Y.o.r s.r) p1,.inr p3.symm,.inr rfl⟩
   .rw[rA,sd]
   rintro t (rfl|rfl)
   .exact .inr (.inl ee)
   exact .inl rfl
  have n1:x.k.ao.toNat=lo+1:=J;have n2:Y.k.ao.toNat=lo:=J;rw[n1]at p1 p2 p3 p4;rw[n2]at Q p6 R p8;rw[Fw]at p1 p3;cases hd:x.p.d<;>rw[hd]at p1 p2 p3 p4 Q p6 R p8<;>simp only[JX,CW,gJ,if_false,if_true,iZ]at p1 p2 p3 p4 Q p6 R p8
  .have ee:Y.o.l=s.l:=by rw[p8,p3]
   refine⟨Y.o.r,s.r,done _ _ (by rw[ee]) ?_,by rw[<-p2,Q],by rw[<-p4,<-R,rA,sd],?_,by rw[r1,ap];exact(congrArg (gM Y.o.r s.r) p4).trans (by rw[<-p4,<-R,rA,sd];rfl),.inr Q.symm,.inr rfl⟩
   .rw[rA,sd]
   rintro t (rfl|rfl)
   .exact .inr (.inl ee)
   exact .inl rfl
  have ee:Y.o.r=s.r:=by rw[p6,p1]
  refine⟨Y.o.l,s.l,done _ _ ?_ (by rw[ee]),by rw[<-p2,<-Q,rA,sd],by rw[<-p4,R],?_,by rw[r1,ap];exact(congrArg (gM Y.o.l s.l) p2).trans (by rw[<-p2,<-Q,rA,sd];rfl),.inl R.symm,.inl rfl⟩
  .rw[rA,sd]
  rintro t (rfl|rfl)
  .exact .inl rfl
  exact .inr (.inr ee)
 by_cases hr:∃w∈r,w.k.aw
 case neg=>
  left;have FB:au U.aw (aP r)=0:=QZ.2 λl hl Cc=>by obtain⟨w,N,rfl⟩:=cD.1 hl;exact hr ⟨w,N,Cc⟩
  have a1:au U.aq f=0:=by have eD:=q.ev;rw[h2]at eD;rw[Hv]at h3;rcases RO with h|h<;>omega
  have:I f=2:=by have:=Ve g.ok;rw[Hv]at h3;omega
  have B9:r=[]:=Ho.1 J;obtain⟨u,v,k1,k2⟩:=Yi (by rw[cZ];exact ha) (by rw[cZ];omega) (by rw[rQ];rfl);rw[cZ]at k1;rw[B9]at k2;have k2:=k2.symm;simp only[oO,List.append_eq_nil_iff]at k2;unfold eL;rw[k1,k2.1,k2.2];rfl
 right;obtain⟨w0,av,aD⟩:=hr;have WL:=List.ne_nil_of_mem av
 let m:=gM M H
 let Z:=kP x.k.gate (lo+1) (-2)
 let E:Nat->Nat->Nat:=λG k=>if G=x.k.gate.toNat then(if k<=lo-1 then m (eS f G k)else m (eS f G (k+2)))else m (eS f G k)
 let D:Nat->Nat->Nat:=λG k=>if G=x.k.gate.toNat then(if k<=lo-1 then m (eR f G k)else m (eR f G (k+2)))else m (eR f G k)
 have mC:au U.aq (aP (r.map (aT.mp m Z)))=au U.aq (aP r):=ur (λl=>(tz _ _ _).aq l) r;have mG:∀k,aJ (aP (r.map (aT.mp m Z))) k=aJ (aP r) k:=λk=>ur (λl=>YK _ _ _ k l) r;have inr:∀w∈r,w∈x::Y::r:=λw N=>by simp[N]
 have ad:∀w∈r,w.k.aw->w.k.gate=x.k.gate->w.k.ao<lo\/(lo:Int)+1<w.k.ao:=λw N pw gR=>by obtain⟨d1,d2⟩:=jy.1 q.rk;obtain⟨d3,_⟩:=jy.1 d2;have n1:=d1 w (by simp[N]) px pw gR.symm;have n2:=d3 w N py pw (by rw[yq,gR]);rcases RR with⟨r1,r2⟩|⟨r1,r2⟩<;>omega
 have pQ:∀w∈r,w.k.aw->(Z w.k).ao=if w.k.gate=x.k.gate/\(lo:Int)+1<w.k.ao then w.k.ao-2 else w.k.ao:=λw N pw=>by have:=St (g:=x.k.gate) (A:=(lo:Int)+1) (y:= -2) pw;rw[show w.k.ao+ -2=w.k.ao-2 by omega]at this;exact this
 have ag:∀ac:Nat->Nat->Nat,m (ac x.k.gate.toNat (lo+1))=m (ac x.k.gate.toNat (lo-1))->∀w∈r,w.k.aw->
   (m (ac w.k.gate.toNat (w.k.ao.toNat-1))=(λG k=>if G=x.k.gate.toNat then(if k<=lo-1 then m (ac G k)else m (ac G (k+2)))else m (ac G k)) (Z w.k).gate.toNat ((Z w.k).ao.toNat-1))/\
   m (ac w.k.gate.toNat w.k.ao.toNat)=(λG k=>if G=x.k.gate.toNat then(if k<=lo-1 then m (ac G k)else m (ac G (k+2)))else m (ac G k)) (Z w.k).gate.toNat (Z w.k).ao.toNat:=by
  intro ac hf w N pw;have gR:=((kL pw).1 (q.ok w (inr w N)).bad).1.1.1;have a2:=(q.rr w (inr w N) pw).1;rw[pQ w N pw,s8 _ _ _ _];by_cases sk:w.k.gate=x.k.gate
  .have ho:=ad w N pw sk;simp only[sk,if_true,true_and];by_cases cr:(lo:Int)+1<w.k.ao
   .rw[an cr];constructor
    .by_cases c3:(w.k.ao-2).toNat-1<=lo-1
     .rw[an c3];have e3:w.k.ao.toNat-1=lo+1:=J;have e4:(w.k.ao-2).toNat-1=lo-1:=J;rw[e3,e4];exact hf
     rw[ai c3];congr 2;omega
    rw[ai J];congr 2;omega
   rw[ai cr];constructor
   .rw[an J]
   rw[an J]
  have:¬(w.k.gate.toNat=x.k.gate.toNat):=J;simp only[sk,false_and,if_false,ai this];exact⟨trivial,trivial⟩
 have j:∀ac:Nat->Nat->Nat,m (ac x.k.gate.toNat (lo+1))=m (ac x.k.gate.toNat (lo-1))->∀k,
   ((λG k=>if G=x.k.gate.toNat then(if k<=lo-1 then m (ac G k)else m (ac G (k+2)))else m (ac G k)) k (aJ (aP r) k)=m (ac k (aJ (aP (x::Y::r)) k)))/\
   (λG k=>if G=x.k.gate.toNat then(if k<=lo-1 then m (ac G k)else m (ac G (k+2)))else m (ac G k)) k 0=m (ac k 0):=by
  intro ac hf k;rw[yn r k];by_cases ck:k=x.k.gate.toNat
  .subst ck;simp only[if_true];rw[an (bN _)];refine⟨?_,rfl⟩;rw[yn r x.k.gate.toNat,an rfl]at az;by_cases c3:aJ (aP r) x.k.gate.toNat<=lo-1
   .rw[an c3];have e3:aJ (aP r) x.k.gate.toNat=lo-1:=J;rw[e3,show lo-1+2=lo+1 by omega];exact hf.symm
   rw[ai c3]
  simp only[ai ck,uX];exact⟨trivial,trivial⟩
 have qn:jA F ([]++r.map (aT.mp m Z)) E D:=by
  refine jA.edit (X:=[x,Y]) q (tz _ _ _) (λw N=>UC (q.ok w (inr w N)).bad) (λu hu v hv cu cv e=>?_) (λu hu v hv pu pv e1 e2=>?_) (λ_ h=>by cases h) List.Pairwise.nil List.Pairwise.nil (λ_ h=>by cases h) (λ_ h=>by cases h) ?_ (λ_ h=>by cases h) (λu hu cu=>?_) (λ_ h=>by cases h) (λu hu pu=>?_) (λ_ h=>by cases h) (λu hu pu=>?_) (λk hk=>?_) ?_
  .rw[AH,AH]at e;exact e
  .have DJ:u.k.gate=v.k.gate:=by rw[s8,s8]at e1;exact e1
   refine⟨DJ,?_⟩;have e2:=e2;rw[pQ u hu pu,pQ v hv pv]at e2;by_cases sk:u.k.gate=x.k.gate
   .have o1:=ad u hu pu sk;have o2:=ad v hv pv (DJ▸sk);simp only[sk,DJ▸sk,true_and]at e2;split at e2<;>split at e2<;>omega
   simp only[sk,DJ▸sk,false_and,if_false]at e2;exact e2
  .rw[fz,mC,<-A3 r];exact q.ev
  .rw[fz,mC,AH,<-A3 r];exact q.ids u (inr u hu) cu
  .rw[fz,s8,mG];show 1<=(Z u.k).ao/\(Z u.k).ao<=_;rw[pQ u hu pu];have O:=q.rr u (inr u hu) pu;rw[yn r]at O;have gu:=((kL pu).1 (q.ok u (inr u hu)).bad).1.1.1;by_cases sk:u.k.gate=x.k.gate
   .have o1:=ad u hu pu sk;rw[sk]at O |-;rw[an rfl]at O;rw[yn r,an rfl]at az;simp only[true_and];split<;>omega
   simp only[sk,false_and,if_false];rw[ai J]at O;exact O
  .obtain⟨t1,t2⟩:=ag (eS f) m2 u hu pu;obtain⟨b1,b2⟩:=ag (eR f) m3 u hu pu;exact⟨⟨t1,b1⟩,t2,b2⟩
  .rw[fz,mG];obtain⟨t1,t2⟩:=j (eS f) m2 k;obtain⟨b1,b2⟩:=j (eR f) m3 k;obtain⟨_,t3⟩:=j (eS f) m2 (k+1);obtain⟨_,b3⟩:=j (eR f) m3 (k+1);have:=q.gt k hk;exact⟨by rw[show E k _=_ from t1,this.1];exact t3.symm,by rw[show D k _=_ from b1,this.2];exact b3.symm⟩
  rw[fz,mG];obtain⟨t1,t2⟩:=j (eS f) m2 F;obtain⟨b1,b2⟩:=j (eR f) m3 F;obtain⟨_,t3⟩:=j (eS f) m2 0;obtain⟨_,b3⟩:=j (eR f) m3 0;have:=q.gz;exact⟨by rw[show E F _=_ from t1,this.1];exact t3.symm,by rw[show D F _=_ from b1,this.2];exact b3.symm⟩
 have FH:gE F (r.map (aT.mp m Z)) E D ([]++(List.range (fp f)).filter λs=> ![M,x.o.l,x.o.r].contains s)/\fp f+I ([]:aC)<=I ([]++(List.range (fp f)).filter λs=> ![M,x.o.l,x.o.r].contains s)+[M,x.o.l,x.o.r].length:=by
  refine jA.Vy (X:=[x,Y]) qn c.nd (λt ht=>c.wit t ht) (FI _) ⟨s.mp m,?_⟩ ?_ (λt _ ht=>M0 λe=>ht (by simp[e])) (λw N t ht ew B4=>?_) qX (λt ht=>by cases ht) (λt ht=>by cases ht) (by rw[rY];exact ct _) ?_
  .have:=D7 (m:=m) (h:=Z) yA;rwa[show Y.o.mp m=s.mp m from m1]at this
  .refine⟨w0.mp m Z,?_,?_⟩
   .rw[fz];exact cD.2 ⟨w0,av,rfl⟩
   show(Z w0.k).aw=true;rw[(tz _ _ _).aw];exact aD
  .obtain⟨v,hv,aN⟩:=S7 yA WL;simp only[dt,gH,or_false,AX]at N B4;have ag:t=s.l\/t=s.r:=by
    rcases N with rfl|rfl
    .rcases ew with ew|ew
     .exact absurd ew B4.2.1
     exact absurd ew B4.2.2
    rcases m4 t ew with h|h
    .exact absurd h B4.1
    exact h
   refine⟨v.mp m Z,by rw[fz];exact cD.2 ⟨v,hv,rfl⟩,?_⟩;show t=m v.o.l\/t=m v.o.r;rw[aN];have:m t=t:=M0 B4.1;rcases ag with h|h
   .left;rw[<-h,this]
   right;rw[<-h,this]
  rw[fz,mC,ur (λl=>(tz _ _ _).aw l) r];have O:=g.nw;rw[A3]at h2;rw[Hv]at h3;simp only[gk,fG];omega
 have ar:=D7 (m:=m) (h:=Z) yA;rw[show Y.o.mp m=s.mp m from m1]at ar;have tT:E x.k.gate.toNat (lo-1)=m (eS f x.k.gate.toNat (lo-1)):=by show(if _ then(if _ then _ else _)else _)=_;rw[an rfl,an (ct _)]
 have tB:D x.k.gate.toNat (lo-1)=m (eR f x.k.gate.toNat (lo-1)):=by show(if _ then(if _ then _ else _)else _)=_;rw[an rfl,an (ct _)]
 have am:x=eK f a:=by rw[xi ha]at KQ;exact(ld KQ).symm
 have HQ:nx f a<I f:=cJ _ J;have ak:Y=eK f (nx f a):=by rw[xi HQ]at KR;exact(ld KR).symm
 have aF:(jH f a).b≠(jH f (nx f a)).b:=by
  have e1:x.o.b=(jH f a).b:=by rw[am];rfl
  have e2:Y.o.b=(jH f (nx f a)).b:=by rw[ak];rfl
  rw[<-e1,<-e2,ox.1,oy.1,aj];cases x.p.d<;>decide
 have aL:∀n,(n=x.o.l\/n=x.o.r)->n≠M:=λn hn e=>by
  have y1:Y.o.l=dD f (2*nx f a):=by rw[ak];rfl
  have y2:Y.o.r=dD f (2*nx f a+1):=by rw[ak];rfl
  have x1:x.o.l=dD f (2*a):=by rw[am];rfl
  have x2:x.o.r=dD f (2*a+1):=by rw[am];rfl
  rw[y1,y2]at m8;rw[x1,x2]at hn;rcases hn with O|O<;>rcases m8 with h2|h2
  all_goals
   rw[O,h2]at e;exact(λO h2=>amh g ha HQ aF O h2) J J e
 refine⟨x,Y,r,lo,m,s,E,D,_,by rw[<-mZ],rQ,⟨px,py⟩,⟨yq,gx⟩,apR,RR,⟨aj,by rw[<-j6];exact ox.2⟩,WL,?_,ar,FH.1,by simpa using FH.2,?_,?_⟩
 .have:=yn r x.k.gate.toNat;rw[an rfl]at this;omega
 .rw[tT,tB];exact m6
 rw[tT,tB];have ia:∀n,(n=x.o.l\/n=x.o.r)->m n∉([]++(List.range (fp f)).filter λs=> ![M,x.o.l,x.o.r].contains s):=λn hn hm=>by rw[show m n=n from M0 (aL n hn)]at hm;have:=(pg.1 hm).2;rcases hn with rfl|rfl<;>simp at this
 cases hd:x.p.d<;>rw[hd]at m7
 .exact ia _ m7
 exact ia _ m7
def Uc(g:a_ F f){a:Nat}(j:a<I f)(h:qc f a=some L):L=[]\/fP F L:=by
 rcases axH g j h with h|⟨x,y,r,lo,m,s,T,B,S,rfl,R,_,_,_,_,_,A,_,_,z,_⟩
 .exact .inl h
 right;have n:fP F (r.map λw=>ch x.k.gate (lo+1) (-2) w.p):=by refine⟨_,_,_,_,?_,z⟩;rw[gi];refine kD λw _=>?_;rw[LN];rfl
 have H:2<=I f:=by grind [bG,cZ]
 obtain⟨u,v,k1,k2⟩:=Yi (by rw[cZ];exact j) (by rw[cZ];exact H) (by rw[R];rfl);rw[cZ]at k1;show fP F ((kW (aA f) λk _=>decide (k=a)||decide (k=(a+1)%I f)).map (ch x.k.gate (lo+1) (-2)));rw[k1,fE];refine fP.l9 ?_;rw[<-fE,<-k2,gi];exact n
end
section
variable {F:Nat} {f:af}
def Ya(g:a_ F f){pl:Nat}{E:aC}{j:Nat}(H:j<I f)(h:mI F f pl E j):∃w,w∈fF (aO f) (nD f)/\(kO F f w).places.length=pl/\(I (w.filter λx=>decide (x<2*I f))=I E)/\ ∀e∈E,∃d,d∈w/\d<2*I f/\d/2=e:=by
 have m:∀n∈fB F f,wg n pl E->∃w,w∈fF (aO f) (nD f)/\(kO F f w).places.length=pl/\(I (w.filter λx=>decide (x<2*I f))=I E)/\ ∀e∈E,∃d,d∈w/\d<2*I f/\d/2=e:=by
  intro n hf u;obtain _:=cD.1 hf
  grind [wg,y8,wa,zm]
 unfold mI at h
 grind [Yw]
def af6{D:aC}(h:I D=2){y:Nat}(f:x∈D)(H:y∈D)(A:x≠y){z:Nat}(j:z∈D):z=x\/z=y:=by
 match D,h with
 |[p,q],_=>grind
def ah5{e:Nat}(h:e<I f){l:U}(hl:f[nx f e]?=some l)(H:l.aq):aO f (2*e)=dx (I f) (gC f (nx f e)) (eY l):=by
 have:2*e=gn (I f) (nx f e) true:=by unfold gn nx;rw[an rfl,vi h]
 grind [uk,eY]
def adF{e:Nat}{l:U}(hl:f[e]?=some l)(h:l.aq):aO f (2*e+1)=dx (I f) (gC f e) (!eY l):=by
 have:2*e+1=gn (I f) e false:=rfl
 grind [uk,eY]
def yM{b:Bool}(h:dx (I f) v b=x):(b/\x=2*v)\/(b=false/\x=2*((v+I f-1)%I f)+1):=by
 cases b
 .exact .inr ⟨rfl,h.symm⟩
 exact .inl ⟨rfl,h.symm⟩
theorem BU{e:Nat}(H:v<I f)(h:(v+I f-1)%I f=e):v=nx f e:=by unfold nx;rw[<-h,uE H]
theorem Cq(ok:fY F f){l m:U}(hl:f[v]?=some l)(h:l.aq)(H:f[u]?=some m)(j:gC f v=u):eY m= !eY l/\m.aq/\m.id=l.id:=by
 obtain _:=pE ok.cr hl h
 grind [eY]
def JB(ok:fY F f){l:U}(hl:f[v]?=some l)(h:l.aq):gC f v<I f:=by
 obtain _:=pE ok.cr hl h
 grind
def apk(g:a_ F f){a b:Nat}(ha:a<I f)(hb:b<I f){L R X Y:U}(A:f[a]?=some L)(O:f[nx f a]?=some R)(Q:f[b]?=some X)(H:f[nx f b]?=some Y)
  (cx:L.aq) (cy:R.aq) (T:X.aq) (B:Y.aq) (lk:L.id≠R.id) (zQ:X.id≠Y.id) (dm:a≠b) (h:mI F f 0 [a,b] a):eY L= !eY R:=by
 have ok:=g.ok;obtain⟨w,hw,_,M,hE⟩:=Ya g ha h;obtain⟨D,xV,vJ,AN⟩:=hE a aH;obtain⟨u,zu,wQ,AO⟩:=hE b aH;have y:∀d,d∈w->d<2*I f->d∈w.filter λx=>decide (x<2*I f):=λd h1 Z=>pg.2 ⟨h1,by simpa using Z⟩;have two:=λd h1 Z=>af6 M (y D xV vJ) (y u zu wQ) J (y d h1 Z);have N:∀d,d∈w->aO f d∈w:=λd hd=>yO (n0 ok) hw hd;have str:∀(v:Nat) (b:Bool),v<I f->dx (I f) v b<2*I f:=λv b H=>by have:=uB H (!b);rw[<-tc]at this;have:=tD this;rwa[tp]at this
 have oy:=JB ok O cy;have ox:=JB ok A cx;have ou:=JB ok Q T;have ov:=JB ok H B
 have na:(D=2*a/\aO f D=dx (I f) (gC f (nx f a)) (eY R))\/(D=2*a+1/\aO f D=dx (I f) (gC f a) (!eY L)):=by
  rcases oH D with c|c
  .have:D=2*a:=J;exact .inl ⟨this,by rw[this];exact ah5 ha O cy⟩
  have:D=2*a+1:=J;exact .inr ⟨this,by rw[this];exact adF A cx⟩
 have nb:(u=2*b/\aO f u=dx (I f) (gC f (nx f b)) (eY Y))\/(u=2*b+1/\aO f u=dx (I f) (gC f b) (!eY X)):=by
  rcases oH u with c|c
  .have:u=2*b:=J;exact .inl ⟨this,by rw[this];exact ah5 hb H B⟩
  have:u=2*b+1:=J;exact .inr ⟨this,by rw[this];exact adF Q T⟩
 have ta:=two _ (N _ xV) (by rcases na with⟨_,e⟩|⟨_,e⟩<;>rw[e]<;>exact str _ _ (by assumption));have tb:=two _ (N _ zu) (by rcases nb with⟨_,e⟩|⟨_,e⟩<;>rw[e]<;>exact str _ _ (by assumption));have ad:aO f D=u:=by
  rcases ta with e|e
  .exfalso;rcases na with⟨n,E⟩|⟨n,E⟩
   .rw[e]at E;rcases yM E.symm with⟨_,j⟩|⟨_,j⟩
    .exact lk (Cq ok O cy A J).2.2
    omega
   rw[e]at E;rcases yM E.symm with⟨_,j⟩|⟨_,j⟩
   .omega
   exact lk (Cq ok A cx O (BU ox J)).2.2.symm
  exact e
 have ac:aO f u=D:=by
  rcases tb with e|e
  .exact e
  exfalso;rcases nb with⟨n,E⟩|⟨n,E⟩
  .rw[e]at E;rcases yM E.symm with⟨_,j⟩|⟨_,j⟩
   .exact zQ (Cq ok H B Q J).2.2
   omega
  rw[e]at E;rcases yM E.symm with⟨_,j⟩|⟨_,j⟩
  .omega
  exact zQ (Cq ok Q T H (BU ou J)).2.2.symm
 rcases na with⟨ea,n⟩|⟨ea,n⟩<;>rcases nb with⟨eb,E⟩|⟨eb,E⟩<;>rw[ad]at n<;>rw[ac]at E
 .rcases yM n.symm with⟨g1,j⟩|⟨g1,j⟩<;>rcases yM E.symm with⟨m,z⟩|⟨m,z⟩<;>try omega
  have:=(Cq ok H B A J).1;rw[this,g1,m]
 .rcases yM n.symm with⟨g1,j⟩|⟨g1,j⟩<;>rcases yM E.symm with⟨m,z⟩|⟨m,z⟩<;>try omega
  have:=(Cq ok Q T A J).1;rw[this,g1,m];rfl
 .rcases yM n.symm with⟨g1,j⟩|⟨g1,j⟩<;>rcases yM E.symm with⟨m,z⟩|⟨m,z⟩<;>try omega
  have:=(Cq ok H B O (BU ov J)).1;rw[this,m];revert g1;cases eY L<;>simp
 rcases yM n.symm with⟨g1,j⟩|⟨g1,j⟩<;>rcases yM E.symm with⟨m,z⟩|⟨m,z⟩<;>try omega
 grind [Cq,BU,eY]
def SV{x p w:aT}(m:mj x p)(H:mj x w)(u:mj p w)(f:x.k.aq)(h:p.k.aq)(j:w.k.aq)(E:x.k.id=p.k.id):w.k.id≠x.k.id:=by
 intro n;have a:=(m f h E).ov;rw[(H f j n.symm).ov]at a;rw[(u h j J).ov]at a
 grind
def Sc{α:Type}{z:List α}{a:Nat}(f:a<I z)(H:j<I z):(z.drop a++z.take a)[j]?=z[(a+j)%I z]? :=by
 by_cases h:a+j<I z
 .rw[sC (by grind),C0,eN h]
 rw[o_ (by grind),pS,pR,an J,Mk J,eN J];congr 1;omega
def awO{α:Type}{r:List α}{u v:α}(h:r[j]?=some u)(H:r[j+1]?=some v):r=r.take j++u::v::r.drop (j+2):=by
 obtain _:=bd.1 h;obtain _:=bd.1 H
 grind [uA,jC]
end
def Tw{p q w:Int}{l:U}(H:l.aq)(h:l.id=w):(iL [p,q] l).id=w-(if p<w then 1 else 0)-(if q<w then 1 else 0):=by grind [afa]
section
variable {F:Nat} {f:af}
def anq(g:a_ F f){a b:Nat}(ha:a<I f)(hb:b<I f)(h:ob F f a b=some L):∃(x Y u v:aT) (c1 O:fI) (m:Nat->Nat) (s s2:dW) (T B:Nat->Nat->Nat) (S:aC),L=jS (aA f) [x.k.id,Y.k.id]/\(aA f).drop a++(aA f).take a=(x::Y::(c1++u::v::O)).map aT.p/\(c1≠[]/\O≠[])/\
  (x.k.aq/\Y.k.aq/\u.k.aq/\v.k.aq)/\(x.k.over=Y.k.over/\u.k.over=v.k.over/\x.k.over≠u.k.over)/\x.k.id≠Y.k.id/\(∀w∈c1++O,w.k.aq->w.k.id≠x.k.id/\w.k.id≠Y.k.id)/\eY x.k=(!eY Y.k)/\
  (ie (s.mp m) (c1.map (aT.mp m (iL [x.k.id,Y.k.id]))) (s2.mp m)/\ie (s2.mp m) (O.map (aT.mp m (iL [x.k.id,Y.k.id]))) (s.mp m))/\gE F ((c1++O).map (aT.mp m (iL [x.k.id,Y.k.id]))) T B S/\fp f<=I S+2/\
  ∃ac:Bool,(if ac=true then(u.k.id=Y.k.id/\v.k.id=x.k.id)/\u.k.sign=Y.k.sign/\v.k.sign=x.k.sign else(u.k.id=x.k.id/\v.k.id=Y.k.id)/\u.k.sign=x.k.sign/\v.k.sign=Y.k.sign)/\(if(eY x.k==ac)=true then(s.mp m).l else(s.mp m).r)=(if eY x.k=true then(s2.mp m).l else(s2.mp m).r):=by
 obtain⟨x,Y,r0,s,e,hx,hy,c,hp,rQ,KQ,KR,iV⟩:=MS g ha;have q:=c.q;have mR:=xQ f;unfold ob at h;split at h
 case isFalse=>cases h
 rename_i hc;simp only[cN,qZ,cW,ke,mE]at hc;obtain⟨NH,aN,aB,kK,yy,A5⟩:=hc;have pa:=jr hx;have pb:=jr hy;cases h;have a6:nx f b<I f:=cJ _ J;have HQ:nx f a<I f:=cJ _ J;obtain⟨u,KO⟩:=aM (h:=eE f) (k:=b) J;obtain⟨v,OA⟩:=aM (h:=eE f) (k:=nx f b) J;have pc:=jr (by rw[<-rC,dy,KO];rfl);have pd:=jr (by rw[<-rC,dy,OA];rfl);rw[pa,pb]at aN;rw[pa,pb,pc,pd]at aB
 have kinds:x.k.aq/\Y.k.aq/\u.k.aq/\v.k.aq/\x.k.over=Y.k.over/\u.k.over=v.k.over/\x.k.over≠u.k.over:=by
  have bo:∀e ov,j8 f e ov->(b_ f e).l.aq/\(b_ f (nx f e)).l.aq/\(b_ f e).l.over=ov/\(b_ f (nx f e)).l.over=ov:=λe ov h=>by unfold j8 at h;simp only[cN,cW]at h;obtain⟨n,H,h3,h4⟩:=h;exact⟨by unfold U.aq;rw[n];rfl,by unfold U.aq;rw[H];rfl,h3,h4⟩
  rcases NH with⟨n,H⟩|⟨n,H⟩<;>obtain⟨A,Q,N,E⟩:=bo _ _ n<;>obtain⟨b1,b2,R,Z⟩:=bo _ _ H
  all_goals
   rw[pa]at A N;rw[pb]at Q E;rw[pc]at b1 R;rw[pd]at b2 Z;refine⟨A,Q,b1,b2,?_,?_,?_⟩
   .show x.p.l.over=Y.p.l.over;rw[N,E]
   .show u.p.l.over=v.p.l.over;rw[R,Z]
   show x.p.l.over≠u.p.l.over;rw[N,R];decide
 obtain⟨cx,cy,cu,cv,aL,az,ag⟩:=kinds;have lk:=aN;have Kq:(u.k.id=x.k.id/\v.k.id=Y.k.id)\/(u.k.id=Y.k.id/\v.k.id=x.k.id):=aB;have zQ:u.k.id≠v.k.id:=by
  rcases Kq with⟨n,H⟩|⟨n,H⟩
  .rw[n,H];exact lk
  rw[n,H];exact lk.symm
 have dm:a≠b:=by
  rintro rfl
  rw[KQ]at KO;cases KO;exact ag rfl
 have lx:f[a]?=some x.k:=by have:=zk KQ;rwa[h_]at this
 have ly:f[nx f a]?=some Y.k:=by have:=zk KR;rwa[h_]at this
 have lu:f[b]?=some u.k:=by have:=zk KO;rwa[h_]at this
 have lv:f[nx f b]?=some v.k:=by have:=zk OA;rwa[h_]at this
 have hg:=apk g ha hb lx ly lu lv cx cy cu cv lk zQ dm A5
 obtain⟨j,Kv,lH,FM⟩:∃j,j+3<I f/\(a+(j+2))%I f=b/\(a+(j+3))%I f=nx f b:=by
  have RY:nx f a≠b:=by intro e;rw[e,KO]at KR;cases KR;exact ag aL
  have Wz:nx f b≠a:=by intro e;rw[e,KQ]at OA;cases OA;exact ag az.symm
  unfold nx at RY Wz |-;by_cases c1:a<b
  .have e1:(a+1)%I f=a+1:=eN J;rw[e1]at RY;have H:b≠a+1:=λh=>RY h.symm;have h3:¬(b+1=I f/\a=0):=λ⟨h3,h4⟩=>Wz (by rw[h3,vv,h4]);refine⟨b-a-2,J,?_,?_⟩
   .rw[show a+(b-a-2+2)=b by omega,eN hb]
   rw[show a+(b-a-2+3)=b+1 by omega]
  have e1:(b+1)%I f=b+1:=eN J;rw[e1]at Wz;have h3:¬(a+1=I f/\b=0):=λ⟨h3,h4⟩=>RY (by rw[h3,vv,h4]);refine⟨b+I f-a-2,J,?_,?_⟩
  .rw[show a+(b+I f-a-2+2)=b+I f by omega,mT,eN hb]
  rw[show a+(b+I f-a-2+3)=b+1+I f by omega,mT]
 have aD:r0[j]?=some u:=by have:=Sc (z:=eE f) (a:=a) (j:=j+2) J J;rw[e,mR,lH,KO]at this;exact this
 have F1:r0[j+1]?=some v:=by have:=Sc (z:=eE f) (a:=a) (j:=j+3) J J;rw[e,mR,FM,OA]at this;exact this
 have pK:=awO aD F1;obtain⟨c1,O,KC,aps,Rq⟩:∃c1 O,r0=c1++u::v::O/\I c1=j/\I O+j+4=I f:=by
  refine⟨_,_,pK,?_,?_⟩
  .have:=(bd.1 aD).1;rw[jw];omega
  have n:=(bd.1 F1).1;have H:=iV.length_eq;rw[mR]at H;simp only[fG]at H;rw[pS];omega
 subst KC
 obtain⟨j6,iW,yA⟩:=hp;obtain⟨s2,k9,Bi,zR,mQ⟩:=wJ.1 yA;have HJ:j≠0:=by
  rintro rfl
  exact kK lH
 have aF:O≠[]:=by
  rintro rfl
  simp only[gk]at Rq;refine yy ?_;rw[<-lH,vT,show a+(j+2)+2=a+I f by omega,mT,eN ha]
 have iT:c1≠[]:=by rintro rfl;simp at aps;omega
 have q4:jA F ([x,Y,u,v]++(c1++O)) (eS f) (eR f):=by refine q.perm ?_;refine List.Perm.cons x (List.Perm.cons Y ?_);exact Ev.trans (List.Perm.cons u Ev)
 obtain⟨w1,q5⟩:=jy.1 q4.cr;obtain⟨w2,q6⟩:=jy.1 q5;obtain⟨w3,q7⟩:=jy.1 q6;obtain⟨w4,q8⟩:=jy.1 q7;have am:=w1 u aH;have aj:=w1 v aH;have ak:=w2 u aH;have ap:=w2 v aH;have L0:∀w∈c1++O,w.k.aq->w.k.id≠x.k.id/\w.k.id≠Y.k.id:=λw hw cw=>by
  have A:=w1 w (vx [Y,u,v] hw);have Q:=w2 w (vx [u,v] hw);have N:=w3 w (vx [v] hw);have E:=w4 w hw;rcases Kq with⟨n,H⟩|⟨n,H⟩
  .exact⟨SV am A N cx cu cw n.symm,SV ap Q E cy cv cw H.symm⟩
  exact⟨SV aj A E cx cv cw H.symm,SV ak Q N cy cu cw n.symm⟩
 have bx:=(q4.ok x aH).cb cx;have y:=(q4.ok Y aH).cb cy;have bu:=(q4.ok u aH).cb cu;have bv:=(q4.ok v aH).cb cv;rw[j6]at bx;rw[iW]at y;rw[zR]at bv
 obtain⟨M,D,bg,m4,m1,m2,m3⟩:∃M D bg:Nat,(∃ac:Bool,(if ac=true then(u.k.id=Y.k.id/\v.k.id=x.k.id)/\u.k.sign=Y.k.sign/\v.k.sign=x.k.sign else(u.k.id=x.k.id/\v.k.id=Y.k.id)/\u.k.sign=x.k.sign/\v.k.sign=Y.k.sign)/\(if(eY x.k==ac)=true then(s.mp (gM M D)).l else(s.mp (gM M D)).r)=(if eY x.k=true then(s2.mp (gM M D)).l else(s2.mp (gM M D)).r))/\Y.o.mp (gM M D)=s.mp (gM M D)/\v.o.mp (gM M D)=s2.mp (gM M D)/\
   (∀t,(t=x.o.l\/t=x.o.r)\/(t=Y.o.l\/t=Y.o.r)\/(t=u.o.l\/t=u.o.r)\/(t=v.o.l\/t=v.o.r)->t=M\/t=bg\/(t=s.l\/t=s.r)\/(t=s2.l\/t=s2.r)):=by
  have de:Y.o.b=s.b:=by rw[<-y,<-bx]
  have bZ:v.o.b=s2.b:=by rw[<-bv,<-bu,Bi]
  have fin:∀M D,gM M D Y.o.l=gM M D s.l->gM M D Y.o.r=gM M D s.r->gM M D v.o.l=gM M D s2.l->gM M D v.o.r=gM M D s2.r->Y.o.mp (gM M D)=s.mp (gM M D)/\v.o.mp (gM M D)=s2.mp (gM M D):=λM D k1 k2 k3 k4=>⟨dW.ext' k1 k2 de,dW.ext' k3 k4 bZ⟩;rcases Kq with⟨n,H⟩|⟨n,H⟩
  .have Pt:=(am cx cu n.symm).sg.symm;have Pu:=(ap cy cv H.symm).sg.symm;have p1:=(am cx cu n.symm).x4;have p2:=(ap cy cv H.symm).x4;rw[j6,Bi]at p1;rw[iW,zR]at p2;obtain⟨A,Q,N,E⟩:=p1;obtain⟨b1,b2,R,Z⟩:=p2;cases wZ:eY x.k
   .have yq:eY Y.k:=by revert hg;rw[wZ];cases eY Y.k<;>simp
    rw[wZ]at A Q N E;rw[yq]at b1 b2 R Z;simp only[gJ,if_false,if_true]at A Q N E b1 b2 R Z;refine⟨Y.o.l,s.l,x.o.r,?_⟩;have ar:=fin Y.o.l s.l (by rw[rA,sd]) (by rw[b2,E]) (by rw[<-b1,N]) (by rw[Z,<-A,rA,sd]);refine⟨⟨false,by rw[ai aa];exact⟨⟨n,H⟩,Pt,Pu⟩,congrArg (gM Y.o.l s.l) A⟩,ar.1,ar.2,?_⟩;rintro t ((rfl|rfl)|(rfl|rfl)|(rfl|rfl)|(rfl|rfl))
    .exact .inr (.inr (.inr (.inl N.symm)))
    .exact .inr (.inl rfl)
    .exact .inl rfl
    .exact .inr (.inr (.inl (.inr (b2.trans E))))
    .exact .inr (.inl Q.symm)
    .exact .inr (.inr (.inl (.inr E)))
    .exact .inr (.inr (.inr (.inl (by rw[<-b1,N]))))
    exact .inl Z
   have yq:eY Y.k=false:=by revert hg;rw[wZ];cases eY Y.k<;>simp
   rw[wZ]at A Q N E;rw[yq]at b1 b2 R Z;simp only[gJ,if_false,if_true]at A Q N E b1 b2 R Z;refine⟨Y.o.r,s.r,x.o.l,?_⟩;have ar:=fin Y.o.r s.r (by rw[<-R,A]) (by rw[rA,sd]) (by rw[N,<-b2,rA,sd]) (by rw[Z,Q]);refine⟨⟨false,by rw[ai aa];exact⟨⟨n,H⟩,Pt,Pu⟩,congrArg (gM Y.o.r s.r) N.symm⟩,ar.1,ar.2,?_⟩;rintro t ((rfl|rfl)|(rfl|rfl)|(rfl|rfl)|(rfl|rfl))
   .exact .inr (.inl rfl)
   .exact .inr (.inr (.inr (.inr Q)))
   .exact .inr (.inr (.inl (.inl (by rw[<-R,A]))))
   .exact .inl rfl
   .exact .inr (.inr (.inl (.inl A.symm)))
   .exact .inr (.inl E)
   .exact .inl b2.symm
   exact .inr (.inr (.inr (.inr (Z.trans Q))))
  have Pt:=(ak cy cu n.symm).sg.symm;have Pu:=(aj cx cv H.symm).sg.symm;have p1:=(aj cx cv H.symm).x4;have p2:=(ak cy cu n.symm).x4;rw[j6,zR]at p1;rw[iW,Bi]at p2;obtain⟨A,Q,N,E⟩:=p1;obtain⟨b1,b2,R,Z⟩:=p2;cases wZ:eY x.k
  .have yq:eY Y.k:=by revert hg;rw[wZ];cases eY Y.k<;>simp
   rw[wZ]at A Q N E;rw[yq]at b1 b2 R Z;simp only[gJ,if_false,if_true]at A Q N E b1 b2 R Z;refine⟨Y.o.r,s.r,x.o.l,?_⟩;have ar:=fin Y.o.r s.r (by rw[A,<-Z]) (by rw[rA,sd]) (by rw[<-Q,R]) (by rw[E,<-b2,rA,sd]);refine⟨⟨true,by rw[an rfl];exact⟨⟨n,H⟩,Pt,Pu⟩,(congrArg (gM Y.o.r s.r) E.symm).trans (congrArg dW.r ar.2)⟩,ar.1,ar.2,?_⟩;rintro t ((rfl|rfl)|(rfl|rfl)|(rfl|rfl)|(rfl|rfl))
   .exact .inr (.inl rfl)
   .exact .inr (.inr (.inr (.inl R.symm)))
   .exact .inr (.inr (.inl (.inl (by rw[A,<-Z]))))
   .exact .inl rfl
   .exact .inr (.inl b1.symm)
   .exact .inr (.inr (.inl (.inl (by rw[A]))))
   .exact .inr (.inr (.inr (.inl (by rw[<-Q,R]))))
   exact .inr (.inr (.inl (.inr E)))
  have yq:eY Y.k=false:=by revert hg;rw[wZ];cases eY Y.k<;>simp
  rw[wZ]at A Q N E;rw[yq]at b1 b2 R Z;simp only[gJ,if_false,if_true]at A Q N E b1 b2 R Z;refine⟨Y.o.l,s.l,x.o.r,?_⟩;have ar:=fin Y.o.l s.l (by rw[rA,sd]) (by rw[b2,N]) (by rw[<-A,R,rA,sd]) (by rw[E,b1]);refine⟨⟨true,by rw[an rfl];exact⟨⟨n,H⟩,Pt,Pu⟩,(congrArg (gM Y.o.l s.l) A).trans (congrArg dW.l ar.2)⟩,ar.1,ar.2,?_⟩;rintro t ((rfl|rfl)|(rfl|rfl)|(rfl|rfl)|(rfl|rfl))
  .exact .inr (.inr (.inr (.inr b1)))
  .exact .inr (.inl rfl)
  .exact .inl rfl
  .exact .inr (.inr (.inl (.inr (by rw[b2,N]))))
  .exact .inr (.inr (.inl (.inr N)))
  .exact .inr (.inl Z)
  .exact .inr (.inr (.inl (.inl A.symm)))
  exact .inr (.inr (.inr (.inr (E.trans b1))))
 have A3:∀z:fI,au U.aq (aP ([x,Y,u,v]++z))=au U.aq (aP z)+4:=λz=>by rw[rT,fQ,fQ,fQ,fQ,rO,(nH cx).1,(nH cy).1,(nH cu).1,(nH cv).1];omega
 have Hv:∀z:fI,au U.aw (aP ([x,Y,u,v]++z))=au U.aw (aP z):=λz=>by rw[rT,fQ,fQ,fQ,fQ,rO,(nH cx).2,(nH cy).2,(nH cu).2,(nH cv).2];omega
 have yn:∀(z:fI) k,aJ (aP ([x,Y,u,v]++z)) k=aJ (aP z) k:=λz k=>by show au _ _=au _ _;rw[rT,fQ,fQ,fQ,fQ,rO,xJ k cx,xJ k cy,xJ k cu,xJ k cv];simp
 have ad:([x,Y,u,v]++(c1++O)).Perm (eE f):=by refine List.Perm.trans (List.Perm.symm ?_) iV;refine List.Perm.cons x (List.Perm.cons Y ?_);exact Ev.trans (List.Perm.cons u Ev)
 have H:au U.aq (aP ([x,Y,u,v]++(c1++O)))=au U.aq f:=by rw[x_ ad,h_]
 have h3:au U.aw (aP ([x,Y,u,v]++(c1++O)))=au U.aw f:=by rw[x_ ad,h_]
 have eD:=q4.ev
 let m:=gM M D
 let hL:=iL [x.k.id,Y.k.id]
 let r:=c1++O
 have mC:au U.aq (aP (r.map (aT.mp m hL)))=au U.aq (aP r):=ur (λl=>(zU _).aq l) r;have cY:au U.aw (aP (r.map (aT.mp m hL)))=au U.aw (aP r):=ur (λl=>(zU _).aw l) r;have mG:∀k,aJ (aP (r.map (aT.mp m hL))) k=aJ (aP r) k:=λk=>ur (λl=>ac1 _ k l) r;have Kr:∀w∈[x,Y,u,v]++r,w.k.aq->1<=w.k.id/\w.k.id<=((au U.aq (aP r)/2:Nat):Int)+2:=λw hw hc=>by have:=q4.ids w hw hc;rw[A3]at this;show 1<=w.k.id/\w.k.id<=((au U.aq (aP (c1++O))/2:Nat):Int)+2;omega
 have idx:=Kr x aH cx;have a5:=Kr Y aH cy;have inr:∀w∈r,w∈[x,Y,u,v]++r:=λw hw=>vx _ hw;have qn:jA F ([]++r.map (aT.mp m hL)) (λG k=>m (eS f G k)) (λG k=>m (eR f G k)):=by
  refine jA.edit q4 (zU _) (λw hw=>ajX (q4.ok w (inr w hw)).bad) (λp hp o ho cp co e=>?_) (λp hp o ho pp po e1 e2=>?_) (λ_ h=>by cases h) List.Pairwise.nil List.Pairwise.nil (λ_ h=>by cases h) (λ_ h=>by cases h) ?_ (λ_ h=>by cases h) (λp hp cp=>?_) (λ_ h=>by cases h) (λp hp pp=>?_) (λ_ h=>by cases h) (λp hp pp=>?_) (λk hk=>?_) ?_
  .obtain⟨n1,n2⟩:=L0 p hp cp;obtain⟨n3,n4⟩:=L0 o ho co;rw[Tw cp rfl,Tw co rfl]at e;split at e<;>split at e<;>split at e<;>split at e<;>omega
  .have e1:(iL [x.k.id,Y.k.id] p.k).gate=(iL [x.k.id,Y.k.id] o.k).gate:=e1;have e2:(iL [x.k.id,Y.k.id] p.k).ao=(iL [x.k.id,Y.k.id] o.k).ao:=e2;rw[Ax pp,Ax po]at e1 e2;exact⟨e1,e2⟩
  .rw[fz,mC];rw[A3]at eD;show au U.aq (aP (c1++O))%2=0;omega
  .rw[fz,mC];show 1<=(iL [x.k.id,Y.k.id] p.k).id/\(iL [x.k.id,Y.k.id] p.k).id<=_;rw[Tw cp rfl];have n:=Kr p (inr p hp) cp;obtain⟨n1,n2⟩:=L0 p hp cp;have a0:=lk;split<;>split<;>omega
  .rw[fz,mG];show 1<=(iL [x.k.id,Y.k.id] p.k).ao/\(iL [x.k.id,Y.k.id] p.k).ao<=((aJ (aP r) (iL [x.k.id,Y.k.id] p.k).gate.toNat:Nat):Int);rw[Ax pp,<-yn r];exact q4.rr p (inr p hp) pp
  .show(m _=m (eS f (iL [x.k.id,Y.k.id] p.k).gate.toNat ((iL [x.k.id,Y.k.id] p.k).ao.toNat-1))/\m _=m (eR f (iL [x.k.id,Y.k.id] p.k).gate.toNat ((iL [x.k.id,Y.k.id] p.k).ao.toNat-1)))/\m _=m (eS f (iL [x.k.id,Y.k.id] p.k).gate.toNat (iL [x.k.id,Y.k.id] p.k).ao.toNat)/\m _=m (eR f (iL [x.k.id,Y.k.id] p.k).gate.toNat (iL [x.k.id,Y.k.id] p.k).ao.toNat);rw[Ax pp];exact⟨⟨rfl,rfl⟩,rfl,rfl⟩
  .rw[fz,mG,<-yn r];obtain⟨t1,t2⟩:=q4.gt k hk;exact⟨congrArg m t1,congrArg m t2⟩
  rw[fz,mG,<-yn r];obtain⟨t1,t2⟩:=q4.gz;exact⟨congrArg m t1,congrArg m t2⟩
 have e1:=D7 (m:=m) (h:=hL) k9;have e2:=D7 (m:=m) (h:=hL) mQ;rw[show Y.o.mp m=s.mp m from m1]at e1;rw[show v.o.mp m=s2.mp m from m2]at e2;obtain⟨hz,hlen⟩:gE F (r.map (aT.mp m hL)) (λG k=>m (eS f G k)) (λG k=>m (eR f G k)) ([]++(List.range (fp f)).filter λs=> ![M,bg].contains s)/\fp f+I ([]:aC)<=I ([]++(List.range (fp f)).filter λs=> ![M,bg].contains s)+[M,bg].length:=by
  refine jA.Vy (X:=[x,Y,u,v]) qn B0 (λt ht=>?_) (FI _) ⟨s.mp m,?_⟩ ?_ (λt _ ht=>M0 λe=>ht (by simp[e])) (λw hw t ht ew B4=>?_) qX (λt ht=>by cases ht) (λt ht=>by cases ht) (by rw[rY];exact ct _) ?_
  .obtain⟨w,hw,ew⟩:=c.wit t ht;refine⟨w,?_,ew⟩;have:w∈eE f:=iV.mem_iff.1 hw;exact ad.mem_iff.2 this
  .show ie (s.mp m) ((c1++O).map (aT.mp m hL)) (s.mp m);rw[fE];exact wJ.2 ⟨_,e1,e2⟩
  .obtain⟨w,hw,qU⟩:=c.one;have j7:w∈[x,Y,u,v]++r:=ad.mem_iff.2 (iV.mem_iff.1 hw);rcases iR.1 j7 with h|h
   .exfalso;simp only[dt,gH,or_false]at h;rcases h with rfl|rfl|rfl|rfl
    .rw[jV cx]at qU;cases qU
    .rw[jV cy]at qU;cases qU
    .rw[jV cu]at qU;cases qU
    rw[jV cv]at qU;cases qU
   refine⟨w.mp m hL,by rw[fz];exact cD.2 ⟨w,h,rfl⟩,?_⟩;show(iL [x.k.id,Y.k.id] w.k).aw=true;rw[(zU _).aw];exact qU
  .simp only[dt,gH,or_false,AX]at hw B4;have aZ:=m3 t (by
    rcases hw with rfl|rfl|rfl|rfl
    .exact .inl ew
    .exact .inr (.inl ew)
    .exact .inr (.inr (.inl ew))
    exact .inr (.inr (.inr ew)))
   have av:m t=t:=M0 B4.1;have ef:∀d∈r,(t=d.o.l\/t=d.o.r)->∃y'∈[]++r.map (aT.mp m hL),t=y'.o.l\/t=y'.o.r:=λd hd h=>by
    refine⟨d.mp m hL,by rw[fz];exact cD.2 ⟨d,hd,rfl⟩,?_⟩;rcases h with h|h
    .left;show t=m d.o.l;rw[<-h,av]
    right;show t=m d.o.r;rw[<-h,av]
   rcases aZ with h|h|h|h
   .exact absurd h B4.1
   .exact absurd h B4.2
   .obtain⟨d,hd,ed⟩:=S7 mQ aF;exact ef d (vx _ hd) (by rw[ed];exact h)
   obtain⟨d,hd,ed⟩:=S7 k9 iT;exact ef d (Jv _ hd) (by rw[ed];exact h)
  rw[fz,mC,cY];have n:=g.nw;rw[A3]at H;rw[Hv]at h3;show au U.aw (aP (c1++O))+au U.aq (aP (c1++O))/2+1+2<=_;simp only[gk];omega
 refine⟨x,Y,u,v,c1,O,m,s,s2,_,_,_,?_,rQ,⟨iT,aF⟩,⟨cx,cy,cu,cv⟩,⟨aL,az,ag⟩,lk,L0,hg,⟨e1,e2⟩,hz,by simpa using hlen,m4⟩;rw[pa,pb]
def X3(g:a_ F f){a b:Nat}(ha:a<I f)(M:b<I f)(h:ob F f a b=some L):fP F L:=by
 obtain⟨x,y,u,v,c1,E,m,s,s2,T,B,S,rfl,rQ,_,⟨X,N,Y,O⟩,_,_,L0,_,_,Z,_,n,j,_⟩:=anq g ha M h;have D:(u.k.id=x.k.id\/u.k.id=y.k.id)/\(v.k.id=x.k.id\/v.k.id=y.k.id):=by
  cases n
  .rw[ai aa]at j;exact⟨.inl j.1.1,.inr j.1.2⟩
  rw[an rfl]at j;exact⟨.inr j.1.1,.inl j.1.2⟩
 let r:=c1++E
 have FH:fP F (r.map λw=>jL [x.k.id,y.k.id] w.p):=by refine⟨_,_,_,_,?_,Z⟩;rw[gi];refine kD λw _=>?_;rw[acj];rfl
 show fP F ((kW (aA f) (tX [x.k.id,y.k.id])).map (jL [x.k.id,y.k.id]));rw[U7 (drop:=tX [x.k.id,y.k.id]) λ_ _=>rfl];refine aaK (a:=a) ?_;rw[rQ];have z:=O;have A:∀d∈r,(λp:aK=> !((p.l.kind==2)&&[x.k.id,y.k.id].contains p.l.id)) d.p:=λd H=>by
  show(!((d.p.l.kind==2)&&_))=true;cases Q:(d.p.l.kind==2)
  .rfl
  obtain⟨n1,n2⟩:=L0 d H Q;simp[n1,n2]
 have R:∀(d:aT) (t:aU),(d.p.l.kind==2)->(d.k.id=x.k.id\/d.k.id=y.k.id)->(d.p::t).filter (λp=> !((p.l.kind==2)&&[x.k.id,y.k.id].contains p.l.id))=t.filter (λp=> !((p.l.kind==2)&&[x.k.id,y.k.id].contains p.l.id)):=λd t H h=>by grind
 have hf:((x::y::(c1++u::v::E)).map aT.p).filter (λp=> !((p.l.kind==2)&&[x.k.id,y.k.id].contains p.l.id))=r.map aT.p:=by
  rw[eQ,eQ,R x _ X (.inl rfl),R y _ N (.inr rfl),fE,BF,eQ,eQ,
   R u _ Y D.1,R v _ z D.2]
  rw[<-BF,<-fE];refine YS λp hp=>?_;obtain⟨d,H,rfl⟩:=cD.1 hp;exact A d H
 rw[hf,gi];exact FH
end
end
end Go.Abs
