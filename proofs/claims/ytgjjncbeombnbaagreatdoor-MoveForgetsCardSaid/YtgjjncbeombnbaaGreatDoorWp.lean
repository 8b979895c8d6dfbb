/- A part. -/
import Derived.Test.YtgjjncbeombnbaaGreatDoorWo
set_option linter.all false
open List renaming length->I
set_option maxRecDepth 100000
set_option maxHeartbeats 16000000
namespace Go.Abs
variable{x y:Nat}
def dp.OE{α:Type}(f:α->aK){r l:List α}(h:dp r l)(n:r≠[]):∃k,k<I l/\l[k]?=r.getLast?/\l[(k+1)%I l]?=r.head?/\ ∀x,dp (x++r.map f) (ft (l.map f) x k):=by
 obtain⟨u,v,rfl,rfl⟩:=h;have m:∀(u v:List α) x,u≠[]->ft ((u++v).map f) x (I u-1)=u.map f++x++v.map f:=λu v x H=>by rw[fE,<- @List.length_map _ _ u f];exact GC (u.map f) (v.map f) x (by simp[H])
 by_cases j:v=[]
 .subst j;rw[i_]at n |-;have y:=GR (v:=[]) n;have:=gA.2 n;rw[i_]at y;have z:=λx=>m u [] x n;simp only[i_,oO]at z;refine⟨I u-1,by rw[fz];omega,y,?_,λx=>?_⟩
  .rw[fz,show I u-1+1=I u by omega,vv,BX]
  rw[fz,z x];exact⟨x,u.map f,rfl,rfl⟩
 have:=gA.2 j;refine⟨I v-1,by rw[fU];omega,?_,?_,λx=>?_⟩
 .rw[GR j,Mp j]
 .rw[show I v-1+1=I v by omega];by_cases H:u=[]
  .subst H;simp[BX]
  have O:=gA.2 H;rw[eN (by rw[fU];omega),o_ (ct _),xf,Sy H,BX]
 rw[m v u x j];exact⟨x++u.map f,v.map f,aH,aH⟩
def agU:∀S:aC,∃M,∀s∈S,s<M
 |[]=>⟨0,λ_ h=>by cases h⟩
 |a::S=>by
  obtain⟨M,h⟩:=agU S;refine⟨M+a+1,λs ae=>?_⟩;rcases dt.1 ae with rfl|ae
  .omega
  have:=h s ae;omega
section
variable {F:Nat} {z:fI} {s:dW} {T B:Nat->Nat->Nat} {S:aC}
def gE.uniq(c:gE F z T B S)(g:a_ F (aP z))(h:ie s z s)(ae:s.b=false){n:aC}(O:n.Nodup)(wit:∀u∈n,∃d,d<nD (aP z)/\km z d=u)(hn:fp (aP z)<=I n)(hx:x<nD (aP z))(hy:y<nD (aP z))(e:km z x=km z y):dD (aP z) x=dD (aP z) y:=by
 refine Decidable.byContradiction λaN=>?_;have hl:I z<=1000000:=by
  have:=g.len
  grind
 obtain⟨M,E⟩:=agU n;have R:∀ {a b},a<nD (aP z)->b<nD (aP z)->dD (aP z) a=dD (aP z) b->km z a=km z b:=λ{a b} Z N dm=>by obtain⟨w,v,j⟩:=xo g Z;obtain⟨w',A,f⟩:=xo g N;rw[<-dm,v]at A;cases A;exact((QD g (aX v) (Q:=λt=>km z a=km z t) (λt L=>by rw[c.walk hl h ae L]) j f).1 rfl)
 have m:∀u∈M::n,∃d,(if dD (aP z) d=dD (aP z) x then M else km z d)=u/\d<nD (aP z):=λu hu=>by grind
 obtain⟨W,X,D⟩:=Ys (λa d h=>h.1) m;have:=Z5 (n0 g.ok) (φ:=λd=>if dD (aP z) d=dD (aP z) x then M else km z d) (λd H=>by
  rw[Cr g H,c.walk hl h ae H]) (λd H=>by
  obtain⟨_,_,h⟩:=D d H;exact h.2) (by
  rw[X];refine qH.2 ⟨λY=>?_,O⟩;exact absurd (E M Y) (Nat.lt_irrefl _))
 have hW:I W=I n+1:=by grind [bG]
 have:I W<=fp (aP z):=this;omega
def gE.place(c:gE F z T B S)(hl:I z<=1000000){g k:Nat}(h:g<=F)(y:k<=aJ (aP z) g):(cX (aP z) g+k+I (ay (aP z))-1)%I (ay (aP z))<I (ay (aP z))/\km z (2*I z+2*((cX (aP z) g+k+I (ay (aP z))-1)%I (ay (aP z))))=T g k/\km z (2*I z+2*((cX (aP z) g+k+I (ay (aP z))-1)%I (ay (aP z)))+1)=B g k:=by
 have M:0<I (ay (aP z)):=by obtain⟨x,H,m⟩:=c.one;obtain⟨i,n⟩:=fX H;exact K4 (qD.2 ⟨_,zk n,m⟩)
 have R:=AK c.tM;have O:=lz (aP z) F;have Y:=lz (aP z) g;have yu:cX (aP z) (g+1)<=cX (aP z) (F+1):=wO J;have n:=cJ (cX (aP z) g+k+I (ay (aP z))-1) M;obtain⟨u,v⟩:=aM n;obtain⟨l,E,D,L⟩:=uh (c.dg hl).ax v;obtain⟨x,H,rfl⟩:=As E;have m:=c.pl x (aX H) D;obtain⟨Z,Q,X,x4⟩:=c.eO (aX H) D;have A:(ay (aP z)).getD ((cX (aP z) g+k+I (ay (aP z))-1)%I (ay (aP z))) 0=u:=by rw[dz,v];rfl
 have j:∀f:Nat->Nat->Nat,(∀g,g<F->f g (aJ (aP z) g)=f (g+1) 0)->f F (aJ (aP z) F)=f 0 0->f x.k.gate.toNat x.k.ao.toNat=f g k:=by
  intro f hf N;unfold eC at L;by_cases c1:cX (aP z) g+k=0
  .rw[c1,jO,eN J]at L;rw[H_ hf J (ct _) J (ct _) J,N];exact H_ hf (bN _) h (bN _) y (by show 0+0=_;omega)
  rw[show cX (aP z) g+k+I (ay (aP z))-1=(cX (aP z) g+k-1)+I (ay (aP z)) by omega,mT,eN J]at L;exact H_ hf J h J y J
 refine⟨n,?_,?_⟩
 .rw[YP A H,m.et];exact j T (λg h=>(c.gt g h).1) c.gz.1
 rw[W3 A H,m.eb];exact j B (λg h=>(c.gt g h).2) c.gz.2
end
section
variable {F:Nat} {f:af}
theorem acC{g0 r to:Nat}(h:(x=g0/\y=r)\/(g0<x/\x<=to/\y=0)):(x,y)∈oo g0 r to:=by
 rcases h with⟨rfl,rfl⟩|⟨H,f,rfl⟩
 .exact I1
 exact zj _ (cD.2 ⟨x-g0-1,fA.2 J,by rw[show g0+1+(x-g0-1)=x by omega]⟩)
def adX(g:a_ F f){b c j:Nat}(Y:b<=F)(hc:c<=aJ f b)(n:(cX f b+c+I (ay f)-1)%I (ay f)=j):j<I (ay f)/\(b,c)∈lE F f j:=by
 have ok:=g.ok;have A:0<I (ay f):=by obtain⟨l,H,hp⟩:=g.first;exact K4 (qD.2 ⟨_,H,hp⟩)
 have z:j<I (ay f):=by rw[<-n];exact cJ _ A
 refine⟨z,?_⟩;obtain⟨u,B⟩:=aM z;obtain⟨v,E⟩:=aM (cJ (j+1) A);obtain⟨l,L,T,Q⟩:=uh ok.ax B;obtain⟨m,D,N,M⟩:=uh ok.ax E;obtain⟨a0,a1,a2,a3⟩:=ok.ax.eO l (aX L) T;obtain⟨b0,X,b2,Z⟩:=ok.ax.eO m (aX D) N;have hT:=AK λl hl hp=>((kL hp).1 (g.bad l hl)).1.1.1;have R:(ay f).getD j 0=u:=by rw[dz,B];rfl
 have ev:(ay f).getD ((j+1)%I (ay f)) 0=v:=by rw[dz,E];rfl
 unfold lE;simp only[R,ev,rG L,rG D,GU L];unfold eC at Q M;have s1:=lz f l.gate.toNat;have s2:=lz f m.gate.toNat;have uY:=lz f b;have mono:∀ {x y:Nat},x<=y->cX f x<=cX f y:=λh=>wO h;have Ke:=mono (show b+1<=F+1 by omega);have fin:(cX f b+c=j+1)\/(j+1=I (ay f)/\cX f b+c=0):=by
  by_cases c1:cX f b+c=0
  .rw[c1,jO,eN J]at n;right;omega
  rw[show cX f b+c+I (ay f)-1=(cX f b+c-1)+I (ay f) by omega,mT,eN J]at n;left;omega
 have left:cX f b+c=j+1->(b=l.gate.toNat/\c=l.ao.toNat)\/(l.gate.toNat<b/\c=0):=λh=>by
  rcases EV b l.gate.toNat with H|H|H
  .have:=mono (show b+1<=l.gate.toNat by omega);omega
  .subst H;left;exact⟨rfl,J⟩
  have:=mono (show l.gate.toNat+1<=b by omega);right;exact⟨H,J⟩
 split
 .rename_i O;rw[eN O]at M;rcases fin with h|⟨h,_⟩
  .refine acC ?_
   grind
  omega
 grind [acC]
def aek{p:Nat×Nat}(H:2*I f<=x)(hp:p∈lE F f ((x-2*I f)/2)):∀(w:aC) (j:c9),(p∈j.places\/x∈w)->p∈(w.foldl (c9.add F f) j).places:=by
 intro w
 induction w with
 |nil=>grind
 |cons y w m=>
  intro j h;refine m _ ?_;rcases h with h|h
  .grind [c9.add]
  rcases dt.1 h with rfl|h
  .left;unfold c9.add
   grind
  exact .inr h
def arh(g:a_ F f){d b c:Nat}(m:d<2*I f)(u:b<=F)(z:c<=aJ f b)(h:dD f d=if dn f (d/2+1)=true then eS f b c else eR f b c):(b,c)∈(gv F f d).places:=by
 obtain⟨w,n,A,hf⟩:=P_ g m;obtain⟨D,L⟩:=adX g u z rfl;obtain⟨i,v⟩:=fX n;have M:=Ap g v A;have x:∀t,t<2->2*I f+2*((cX f b+c+I (ay f)-1)%I (ay f))+t<nD f:=λt H=>by unfold nD;omega
 obtain⟨t,H,y⟩:∃t,t<2/\2*I f+2*((cX f b+c+I (ay f)-1)%I (ay f))+t∈w:=by
  have j:∀t,t<2->dD f d=dD f (2*I f+2*((cX f b+c+I (ay f)-1)%I (ay f))+t)->2*I f+2*((cX f b+c+I (ay f)-1)%I (ay f))+t∈w:=λt H e=>by
   obtain⟨B,N,E⟩:=xo g (x t H)
   grind
  split at h
  .exact⟨0,J,j 0 J h⟩
  exact⟨1,J,j 1 J h⟩
 rw[hf];unfold kO;refine aek J ?_ w _ (.inr y)
 grind
end
section
variable {F:Nat} {L X:af} {P Q:aU}
def ZJ(g:a_ F L){e:Nat}(v:e<I L):dD L (2*e)≠dD L (2*e+1):=λh=>by
 have H:∀d,d<2*I L->d<nD L:=λd u=>by unfold nD;omega
 obtain⟨w,f,n⟩:=xo g (H (2*e) J);obtain⟨x,j,m⟩:=xo g (H (2*e+1) J);rw[<-h,f]at j;cases j;exact aa6 g (H _ J) (aX f) n (by rw[rh];exact m)
end
section
variable {F:Nat} {L X:af} {P Q:aU}
def awy(g:a_ F X){a b:Nat}(O:a<I X)(z:b<I X){j f:Bool}{o:Bool}{sg:Int}(D:sg=if(o==j)=true then(1:Int)else -1)(h:dD X (if(j==f)=true then 2*a else 2*a+1)=dD X (if j=true then 2*b else 2*b+1)):
  tj F X a b (j==f) o=some (if a<b then ft (ft (aA X) (l8 (au U.aq X/2) sg o f) b) (ow (au U.aq X/2) sg o) a else ft (ft (aA X) (ow (au U.aq X/2) sg o) a) (l8 (au U.aq X/2) sg o f) b):=by
 have A:nK F X (2*a)=dD X (2*a):=rW g J;have B:nK F X (2*a+1)=dD X (2*a+1):=rW g J;have M:nK F X (2*b)=dD X (2*b):=rW g J;have L:nK F X (2*b+1)=dD X (2*b+1):=rW g J;have N:=ZJ g z;have Q:∀ {m n:Nat},m≠n->((m:Int)==(n:Int))=false:=λh=>by rw[mE];omega
 have y:∀ {m n:Nat},m=n->((m:Int)==(n:Int)):=λh=>by rw[h];exact CT _
 have u:∀other:Bool,(f\/other)->sA X a b (j==f) o f other=some (if a<b then ft (ft (aA X) (l8 (au U.aq X/2) sg o f) b) (ow (au U.aq X/2) sg o) a else ft (ft (aA X) (ow (au U.aq X/2) sg o) a) (l8 (au U.aq X/2) sg o f) b):=λother x=>by
  unfold sA;have E:(f==(j==f))=j:=by cases j<;>cases f<;>rfl
  rw[ai (by rcases x with h|h<;>rw[h]<;>simp)];simp only[E,<-D]
 unfold tj;rw[A,B,M,L];cases v:j<;>cases H:f<;>rw[v,H]at h<;>rw[v,H]at u
 .grind
 .have h:dD X (2*a+1)=dD X (2*b+1):=h;rw[ai aa,y h.symm];exact u _ (.inl rfl)
 .grind
 have h:dD X (2*a)=dD X (2*b):=h;rw[an (by rfl),y h.symm];exact u _ (.inl rfl)
end

def Jf(l:af):I (dQ l)=I l:=bG _
def ahu(F:Int)(f:af)(hl:I f<=1000000):aI S 88 [fc F f] (.agg [.p (.int .i64 F),cP p_ 6 (dQ f)]):=by refine bR ao0 ?_;simp only[go_sem,adi];refine uC (id:=5632064256) a8.nil rfl (.inr (C3 _)) (by grind) λc1 j r w g1 D h=>?_;simp only[go_sem,D 5632000064 aa aa];refine⟨?_,Ft (g1.of_eq (cF aa))⟩;rcases h with⟨rfl,rfl⟩|⟨rfl,rfl⟩|⟨rfl,rfl⟩<;>kernel_rfl
def Fi(L:af)(D:fT)(i:Nat):Bool:=match L[i]?,D[i]? with|some l,some d=>(l.kind==1)&&d|_,_=>false
def NG(L:af)(D:fT):dZ:=(List.range (I L)).find? (Fi L D)
def Fp(L:af)(D:fT):af:=match NG L D with|some i=>L.drop i++L.take i|none=>L
def atJ(ab:Int)(L:af)(D:fT)(hl:I L<=1000000)(hd:I D=I L):aI S 90 [fc ab L,.one (.p (.sl (hJ D)))] (.agg [.p (.int .i64 ab),cP p_ 6 (dQ (Fp L D))]):=by
 have pc:=ahu ab L hl;have lo:S.lone 5760384064=false:=ah;refine bR atn ?_;simp only[go_sem,acy];refine df (λk A blk=>A 1=.one (.p (.sl (hJ D)))/\A 2=.one (.bh 5760000000 1 0)/\A 4=.one (.bh 5760000064 1 0)/\A 5=aE k/\blk 5760000000=(1,some (.var (lR ab L)))/\blk 5760000064=(1,some (.var [.p (.int .i64 0),.p .nils]))/\ ∀j,j<k->Fi L D j=false) 0 (I L) (bN _) ?_ ?_
 .simp only[go_sem];exact⟨rfl,λj X=>absurd X (nJ j)⟩
 rintro k A blk hk ⟨v,u,F,x,B,E,T⟩
 by_cases M:k<I L
 .have O:((k:Int)<(I L:Int)):=J;obtain⟨l,hL⟩:=aM M;obtain⟨d,Z⟩:=aM (h:=D) (k:=k) J;have R:=jh hL;have H:=sW Z;have Y:=cE (n:=k) J;have ae:Fi L D k=((l.kind==1)&&d):=by simp[Fi,hL,Z]
  have m:Fi L D k=false->∀j,j<k+1->Fi L D j=false:=λh j X=>by
   rcases wT.1 X with v|rfl
   .exact T j v
   exact h
  cases z:(l.kind==1)with
  |false=>rw[z]at ae;simp only[go_sem,Ma,v,u,F,x,B,E,M,O,R,U.ps,z,Y];exact m ae
  |true=>
   rw[z]at ae;cases d with
   |false=>simp only[go_sem,Ma,v,u,F,x,B,E,M,O,R,H,U.ps,z,Y];exact m ae
   |true=>
    have hf:NG L D=some k:=BY M T ae;have N:Fp L D=L.drop k++L.take k:=by unfold Fp;rw[hf]
    have kl:k<=I L:=J;have y:=C3 L;have B5:List.take (I L-k) (List.drop k (dQ L))=dQ (L.drop k):=by rw[fL aH];simp[uy]
    have nO:List.take k (dQ L)=dQ (L.take k):=by simp[sh]
    rw[N,abh];simp only[go_sem,Ma,v,u,x,B,O,R,H,U.ps,z,kl,y,B5];refine uC (id:=5760320384) a8.nil rfl (.inr (C3 _)) (by simp;omega) λc1 cK r w g1 de hw=>?_;rw[fz]at g1;have q1:=(de 5760000064 aa aa).trans E;simp only[go_sem,u,x,(de 5760000000 aa aa).trans B,kl,y,nO];refine uC g1 rfl (.inr (C3 _)) (by simp;omega) λc2 aZ r2 w2 g2 Q qT=>?_;simp only[go_sem,F,(Q 5760000064 aa aa).trans q1];refine⟨?_,Ft (g2.of_eq (cF aa))⟩;rcases hw with⟨rfl,rfl⟩|⟨rfl,rfl⟩|⟨rfl,rfl⟩<;>rcases qT with⟨rfl,rfl⟩|⟨rfl,rfl⟩|⟨rfl,rfl⟩<;>kernel_rfl
 have:k=I L:=J;subst this;have hf:NG L D=none:=Gn T;have N:Fp L D=L:=by unfold Fp;rw[hf]
 rw[N];simp only[go_sem,Ma,aij,u,x,B,ff,T9];refine No pc lo rfl (Nd _) λc2 aZ sI Q=>?_;simp only[go_sem,F,(Q 5760000064 aa).trans E];exact Ft (sI.of_eq (cF aa))



def acw(L:af)(i:Nat)(y:U){z:dF}(h:y.ps=z):(dQ L).set i z=dQ (L.set i y):=by subst h;simp[dQ,vd]
def azq{i:Nat}:bU.all.ok i:=rfl
attribute [go_sem] azq

end Go.Abs
