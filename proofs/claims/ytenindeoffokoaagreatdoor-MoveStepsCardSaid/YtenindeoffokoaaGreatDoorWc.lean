/- A part. -/
import Derived.Test.YtenindeoffokoaaGreatDoorWb
set_option linter.all false
open List renaming length->I
set_option maxRecDepth 100000
set_option maxHeartbeats 16000000
namespace Go.Abs
variable{f:Int}{n v N T:Nat}{y u:bd}
section
variable{h:af}{F j m x:Nat}
abbrev BW(f:Int):PV:=Nu f [] (.sl []) (.sl []) (.sl []) .tO (.sl [])
abbrev x_(a b:PV):RV:=.tup [.one (.p a),.one (.p b)]
def KQ(f:Int)(h:af):RV:=if dk f h=0 then x_ (if h=[]then BW f else pA f.toNat h) (.int .i64 0)else x_ .AP (.int .i64 (dk f h))
def dX{blk:aJ}{s:Nat}{a b:PV}{l:Bool}:fR blk [] s ((x_ a b).iA l)=some (.tup [.one (.p a),.one (.p b)],[]):=by cases l<;>rfl
def O_{e:Int}(j:dk f h=e)(H:e≠0):KQ f h=x_ .AP (.int .i64 e):=by unfold KQ;rw[j,aC H]
def NI(H:dk f h=0):KQ f h=x_ (if h=[]then BW f else pA f.toNat h) (.int .i64 0):=by unfold KQ;rw[aD H]
def SM(f:Int)(h:af)(hl:I h<=1000000):aL S 22 [eU f h] (KQ f h):=by
 have pc:=abT f h hl;refine cG atA ?_;by_cases h1:400<I h
 .have L:(400:Int)<(I h:Int):=J;rw[O_ (e:=7) (by unfold dk;rw[aD (Or.inl h1)]) aa];simp only[go_sem,JR,L,Gs,gr pc,ai,aB];rfl
 have L:¬(400:Int)<(I h:Int):=J;by_cases N:200<aq U.ak h
 .have j:(200:Int)<(aq U.ak h:Int):=J;rw[O_ (e:=7) (by unfold dk;rw[aD (Or.inr N)]) aa];simp only[go_sem,JR,L,j,Gs,gr pc,ai,aB];rfl
 have j:¬(200:Int)<(aq U.ak h:Int):=J;have n:¬(400<I h\/200<aq U.ak h):=J;by_cases x:f<0
 .rw[O_ (e:=2) (by unfold dk;rw[aC n,aD (Or.inl x)]) aa];simp only[go_sem,JR,L,j,x,Gs,gr pc,ai,aB];rfl
 by_cases z:40<f
 .rw[O_ (e:=2) (by unfold dk;rw[aC n,aD (Or.inr z)]) aa];simp only[go_sem,JR,L,j,x,z,Gs,gr pc,ai,aB];rfl
 have m:¬(f<0\/40<f):=J;obtain⟨F,rfl⟩:=ns (show 0<=f by omega);have ie:S.shared 47:=ah;simp only[go_sem,JR,L,j,x,z,Gs,gr pc,ie,ai,aB];refine xB (P:=ZX F h 1 _) Cd (aBw (F:=F) (h:=h) ?_ ?_ ?_ ?_ hl J ?_) ?_
 .refine Ep ?_;rw[eZ,m_,abD (g0:=1) (X:=xT F h (.p .nils) (.p .nils) (.p .nils) (.p .tO) (.p .nils)) (by simp only[go_sem])];simp
 .intro id E;refine O8 ?_;rw[abL];rcases E with E|E|E<;>rw[E]<;>rfl
 .show(S.sites 47).contains _=true;rw[abL];rfl
 .show(S.sites 47).contains _=true;rw[abL];rfl
 .simp only[go_sem]
 rintro v ao ⟨rfl,hk,hr,hz⟩
 unfold RB;by_cases H:h=[]
 .have D:dk F h=0:=by unfold dk;rw[aC n,aC m,aD H]
  have B:=hz H;rw[NI D,aD H];have u:(decide (h=[])||oa F h)=true:=by simp[H]
  rw[u];subst H;simp only[go_sem]at B;simp only[go_sem,ai,aB];simp only[go_sem,lM,v_,yX,qG,oV,mH,B,ai,aB];rfl
 have u:decide (h=[])=false:=by simp[H]
 cases A:oa F h with
 |false=>rw[O_ (e:=3) (by unfold dk;rw[aC n,aC m,aC H,A];rfl) aa];rw[u,DC];simp only[go_sem,ai,aB];rfl
 |true=>
  have D:dk F h=0:=by unfold dk;rw[aC n,aC m,aC H,A];rfl
  rw[NI D,aC H];obtain⟨g1,g2,g3,g4,g5,B,R,Z,pL,X,bM⟩:=hr H A;have y:(F:Int).toNat=F:=rfl;rw[y];have t1:List.take (I h) (iQ (lr h))=iQ (lr h):=f_ (by simp[lr]);have T:List.take (I (aA h)) (bQ (aA h))=bQ (aA h):=f_ aE;have M:List.take (I h) (bQ (lp h (I h)))=bQ (lp h (I h)):=f_ (by simp[lp]);have O:List.take (F+1) (bQ (gK h F))=bQ (gK h F):=f_ (by simp[gK]);have n:I h<=I (lr h):=by simp[lr]
  have Q:I h<=I (lp h (I h)):=by simp[lp]
  have Y:F+1<=I (gK h F):=by simp[gK]
  rw[u,DC];simp only[go_sem,ai,aB];simp only[go_sem,lM,v_,yX,qG,oV,mH,agR,B,Z,X,pL,R,bM,abn,t1,T,M,O,n,Q,Y,ai,aB];rfl
def Wt(f:Int)(h:af)(hl:I h<=1000000):aL S 8 [eU f h] (jr (dk f h)):=by
 have pr:=SM f h hl;refine cG On ?_;unfold KQ at pr;by_cases H:dk f h=0
 .rw[aD H]at pr;simp only[go_sem,VX,Pv,cE pr dX,H,ai,aB]
 rw[aC H]at pr;simp only[go_sem,VX,Pv,cE pr dX,ai,aB]
abbrev jL(k a b c:Int)(l o:Bool)(s:Int):V:=.agg [.p (.int .i64 k),.p (.int .i64 a),.p (.int .i64 b),.p (.int .i64 c),.p (.bool l),.p (.bool o),.p (.int .i64 s)]
abbrev oX(e:Int):RV:=.tup [.agg [.p (.int .i64 0),.p .nils],.one (.p (.int .i64 e))]
def afu{blk:aJ}{s:Nat}{e:Int}{l:Bool}:fR blk [] s ((oX e).iA l)=some (.tup [.agg [.p (.int .i64 0),.p .nils],.one (.p (.int .i64 e))],[]):=by cases l<;>rfl
section
variable {f:Int} {h:af} {e:Int}
abbrev kinds(k:Nat):aG:=(List.range k).map (· +1)
def avN(k:Nat):bQ (kinds (k+1))=bQ (kinds k)++[[.int .i64 ((k+1:Nat):Int)]]:=by simp[kinds,nJ]
def ayM(k:Nat)(v:V)(blk:aJ):Prop:=(k=0/\v=.one (.p .nils))\/(k≠0/\ ∃g,v=.one (.hsl 1216320192 g 1 0 k)/\blk 1216320192=(g,some (.arr 29 1 (bQ (kinds k)))))
end
def g_(n v:Nat)(f:Bool):Nat:=if f then 2*((v+n-1)%n)else 2*v+1
def aao(n e:Nat):Nat:=if e%2=0 then e/2 else(e/2+1)%n
theorem wx(H:v<n):((v+n-1)%n+1)%n=v:=by
 by_cases h:v=0
 .subst h;rw[jN,eJ (show n-1<n by omega),show n-1+1=n by omega,w_]
 rw[show v+n-1=(v-1)+n by omega,lg,eJ (show v-1<n by omega),show v-1+1=v by omega,eJ H]
theorem w8(H:v<n):((v+1)%n+n-1)%n=v:=by
 by_cases h:v+1=n
 .rw[h,w_,jN,eJ (show n-1<n by omega)];omega
 rw[eJ (show v+1<n by omega),show v+1+n-1=v+n by omega,lg,eJ H]
def akP(H:v<n)(g:Bool):aao n (dS n v g)=v/\(dS n v g%2==0)=g:=by
 unfold aao dS;cases g with
 |true=>have h:(2*v)%2=0:=J;simp only[if_true,h];exact⟨J,rfl⟩
 |false=>have h:(2*((v+n-1)%n)+1)%2=1:=J;have f:(2*((v+n-1)%n)+1)/2=(v+n-1)%n:=J;simp only[fE,if_false,h,f,N7,wx H];exact⟨trivial,rfl⟩
def Le(h:af)(ax:aG)(e:Nat):Nat:=
 if 2*I h<=e then
  if e%2=0 then g_ (I h) (ax.getD ((e-2*I h)/2) 0) (dn h (ax.getD ((e-2*I h)/2) 0))
  else g_ (I h) (ax.getD (((e-2*I h)/2+1)%I ax) 0) (!dn h (ax.getD (((e-2*I h)/2+1)%I ax) 0))
 else
  let v:=aao (I h) e
  let g:=e%2==0
  match h[v]? with
  |none=>0
  |some l=>if l.kind==2 then
    match h[iI h v]? with
    |some u=>g_ (I h) (iI h v) (g==(u.over==(u.sign==1)))
    |none=>0
   else if g==dn h v then 2*I h+2*ax.idxOf v+1 else 2*I h+2*((ax.idxOf v+I ax-1)%I ax)
def qN(f:nN h){i:Nat}{l:U}(hl:h[i]?=some l)(u:l.ak):iI h (iI h i)=i/\ ∃m,h[iI h i]?=some m/\m.ak/\m.id=l.id/\m.over= !l.over/\m.sign=l.sign:=by
 obtain⟨D,N⟩:=QM f hl u;obtain⟨_,v⟩:=LJ D;obtain⟨m,H,n,j,M⟩:=C6 v;have hp:HV h:=by have:=f;unfold nN at this;simp only[cP,c8,j4,gA]at this;exact(Hq.1 this.1.2).2
 have L:i≠iI h i:=by intro e;rw[<-e,hl]at H;cases H;revert M;cases l.over<;>simp
 obtain⟨B,O⟩:=QM f H n;obtain⟨_,A⟩:=LJ B;obtain⟨x,z,F,X,E⟩:=C6 A;refine⟨?_,m,H,n,j,M,((hp i _ l m hl H u n j.symm L).2).symm⟩;refine Decidable.byContradiction λy=>?_;have:=(hp _ i x l z hl F u (by rw[X,j]) y).1;rw[E,M]at this;revert this;cases l.over<;>simp
def ajU{ax:aG}{d:Nat}{f:Bool}{l:U}(j:¬2*I h<=d)(B:(d%2==0)=f)(H:v=if f then(d/2+1)%I h else d/2)(hl:h[v]?=some l):
  iY h ax d=if l.kind==2 then dS (I h) (iI h v) (f==(l.over==(l.sign==1)))
   else if dn h v==f then 2*I h+2*ax.idxOf v else 2*I h+2*((ax.idxOf v+I ax-1)%I ax)+1:=by
 subst B;subst H;unfold iY;rw[aC j];simp only[hl]
def aeg(ok:gN F h){d:Nat}(hd:d<2*I h+2*I (aA h)):Le h (aA h) (iY h (aA h) d)=d:=by
 have lY:∀x∈aA h,x<I h/\ ∃l,h[x]?=some l/\l.ay:=λx hx=>by obtain⟨l,h1,y⟩:=sB.1 hx;exact⟨(bt.1 h1).1,l,h1,y⟩
 have Uz:∀ {p v:Nat},(aA h)[p]?=some v->(aA h).idxOf v=p:=λ{p v} hp=>by obtain⟨l,hl,Q,he⟩:=v7 ok.ax hp;rw[Gn ok.ax hl Q,he]
 have A:∀ {v:Nat} (g:Bool),v<I h-> ¬2*I h<=dS (I h) v g:=λ{v} g H=>by have:=IT (n:=I h) (f:=g) H;omega
 have N:∀ {l:U},l.ay->(l.kind==2)=false:=λ{l} ab=>nL ab;have f:∀ {p v:Nat} (g:Bool),(aA h)[p]?=some v->Le h (aA h) (dS (I h) v g)=if g==dn h v then 2*I h+2*p+1 else 2*I h+2*((p+I (aA h)-1)%I (aA h)):=by intro p v g hp;obtain⟨H,l,hl,Q⟩:=lY v (a7 hp);obtain⟨u,E⟩:=akP H g;unfold Le;rw[aC (A g H)];simp only[u,E,hl,N Q,Uz hp];rfl
 by_cases ab:2*I h<=d
 .unfold iY;rw[aD ab];have O:=cT ((d-2*I h)/2+1) (show 0<I (aA h) by omega);by_cases y:d%2=0
  .rw[aD y];obtain⟨v,H⟩:=aP O;have R:(aA h).getD (((d-2*I h)/2+1)%I (aA h)) 0=v:=by rw[dD,H];rfl
   rw[R,f _ H];have D:((!dn h v)==dn h v)=false:=by cases dn h v<;>rfl
   rw[D,w8 (show(d-2*I h)/2<I (aA h) by omega)];simp only[fE,if_false];omega
  rw[aC y];obtain⟨v,H⟩:=aP (h:=aA h) (k:=(d-2*I h)/2) J;have R:(aA h).getD ((d-2*I h)/2) 0=v:=by rw[dD,H];rfl
  rw[R,f _ H];simp only[sv,if_true];omega
 have hn:0<I h:=J;have qR:=cT (d/2+1) hn;have M:∀(v:Nat) (j:Bool),v<I h->(d%2==0)=j->v=(if j then(d/2+1)%I h else d/2)->g_ (I h) v j=d:=by
  intro v j H B X;unfold g_;cases j with
  |true=>
   have B:d%2=0:=by simpa using B
   simp only[if_true]at X |-;rw[X,w8 (show d/2<I h by omega)];omega
  |false=>
   have B:d%2≠0:=by simpa using B
   simp only[fE,if_false]at X |-;omega
 generalize H:(if(d%2==0)=true then(d/2+1)%I h else d/2)=v;generalize B:(d%2==0)=j at H;have vK:v<I h:=by rw[<-H];split<;>omega
 have z:=M v j vK B H.symm;obtain⟨l,hl⟩:=aP vK;rw[ajU ab B H.symm hl];cases Z:(l.kind==2)with
 |true=>
  have hc:l.ak:=Z;obtain⟨D,m,O,mc,mi,mo,ms⟩:=qN ok.cr hl hc;have Y:=(QM ok.cr hl hc).2;rw[aD rfl];obtain⟨u,E⟩:=akP Y (j==(l.over==(l.sign==1)));unfold Le;rw[aC (A _ Y)];have mk:(m.kind==2):=mc;simp only[u,E,O,mk,if_true,D,hl];have yc:((j==(l.over==(l.sign==1)))==(l.over==(l.sign==1)))=j:=by cases j<;>cases(l.over==(l.sign==1))<;>rfl
  rw[yc];exact z
 |false=>
  have hp:=ok.U2 hl Z;have FX:=Gn ok.ax hl hp;have T:=IK ok.ax hl hp;have L:=(bt.1 T).1;rw[aC aE,FX];cases hq:(dn h v==j)with
  |true=>
   simp only[if_true];unfold Le;rw[aD J,aD J];have u:(2*I h+2*dQ h l-2*I h)/2=dQ h l:=J;have E:(aA h).getD (dQ h l) 0=v:=by rw[dD,T];rfl
   rw[u,E,show dn h v=j by simpa using hq];exact z
  |false=>
   have fj:=cT (dQ h l+I (aA h)-1) (show 0<I (aA h) by omega);simp only[fE,if_false];unfold Le;rw[aD J,aC J];have u:(2*I h+2*((dQ h l+I (aA h)-1)%I (aA h))+1-2*I h)/2=(dQ h l+I (aA h)-1)%I (aA h):=J;have E:(aA h).getD (dQ h l) 0=v:=by rw[dD,T];rfl
   rw[u,wx L,E,show(!dn h v)=j by revert hq;cases dn h v<;>cases j<;>simp];exact z
def arF(ok:gN F h){d e:Nat}(f:d<2*I h+2*I (aA h))(m:e<2*I h+2*I (aA h))(n:aU h d=aU h e):d=e:=by have H:=aeg ok f;have j:=aeg ok m;rw[<-H,<-j];exact congrArg _ n
def Ki(next:Nat->Nat)(m:Nat):Nat->Nat->gD->aG×gD
 |0,_,f=>([],f)
 |k+1,x,f=>if x<m then
   if f.getD x true then([],f)else(x::(Ki next m k (next x) (f.set x true)).1,(Ki next m k (next x) (f.set x true)).2)
  else(x::(Ki next m k (next x) f).1,(Ki next m k (next x) f).2)
abbrev dU(S:gD)(x:Nat):Bool:=S.getD x true
def VB{S:gD}{y:Nat}(H:x<I S):dU (S.set x true) y=if y=x then true else dU S y:=by
 unfold dU;rw[dD,dD,pJ];by_cases h:x=y
 .subst h;simp[H]
 rw[aC h,aC (λe=>h e.symm)]
structure AU (next:Nat->Nat) (n2 N:Nat):Prop where
 le:n2<=N
 lt:∀x,x<N->next x<N
 inj:∀x y,x<N->y<N->next x=next y->x=y
 ax:∀x,x<N->n2<=x->next x<n2
def PE(next:Nat->Nat)(N:Nat)(S:gD):Prop:=∀y,y<N->dU S y=dU S (next y)
structure Inv (next:Nat->Nat) (N d:Nat) (S:gD) (x:Nat):Prop where
 i1:∀y,y<N->dU S (next y)->dU S y\/next y=d
 i2:∀y,y<N->dU S y->dU S (next y)\/next y=x
 i4:dU S x->x=d
 pr:(x=d/\dU S x=false)\/ ∃p,p<N/\next p=x/\dU S p
def Inv.start{next:Nat->Nat}{d:Nat}{S:gD}(h:PE next N S)(f:dU S d=false):Inv next N d S d:=
 ⟨λy H ae=>.inl (by rw[h y H];exact ae),λy H ae=>.inl (by rw[<-h y H];exact ae),λ_=>rfl,.inl ⟨rfl,f⟩⟩
def Inv.stop{next:Nat->Nat}{d:Nat}{S:gD}(M:AU next m N)(h:Inv next N d S x)(v:dU S x):PE next N S:=by
 have j:=h.i4 v;subst j;intro y n;cases f:dU S y with
 |true=>
  rcases h.i2 y n f with H|H
  .rw[H]
  rw[H,v]
 |false=>
  cases H:dU S (next y)with
  |false=>rfl
  |true=>
   rcases h.i1 y n H with u|u
   .rw[u]at f;cases f
   rcases h.pr with⟨_,z⟩|⟨p,hp,L,E⟩
   .rw[v]at z;cases z
   have:=M.inj y p n hp (by rw[u,L]);rw[this,E]at f;cases f
def Inv.step{next:Nat->Nat}{d:Nat}{S:gD}(M:AU next m N)(hl:I S=N)(n:x<N)(h:Inv next N d S x)(v:dU S x=false):Inv next N d (S.set x true) (next x):=by
 have j:x<I S:=J;refine⟨λy f ae=>?_,λy f ae=>?_,λae=>?_,.inr ⟨x,n,rfl,by rw[VB j,aD rfl]⟩⟩
 .rw[VB j]at ae |-;by_cases e:next y=x
  .rcases h.pr with⟨u,_⟩|⟨p,hp,L,E⟩
   .exact .inr (by rw[e,u])
   have:=M.inj y p f hp (by rw[e,L]);left;rw[this];split
   .rfl
   exact E
  rw[aC e]at ae;rcases h.i1 y f ae with H|H
  .left;split
   .rfl
   exact H
  exact .inr H
 .rw[VB j]at ae |-;by_cases e:y=x
  .subst e;exact .inr rfl
  rw[aC e]at ae;rcases h.i2 y f ae with H|H
  .left;split
   .rfl
   exact H
  left;rw[aD H]
 rw[VB j]at ae;by_cases e:next x=x
 .rcases h.pr with⟨u,_⟩|⟨p,hp,L,E⟩
  .rw[e,u]
  have:=M.inj p x hp n (by rw[L,e]);rw[this,v]at E;cases E
 rw[aC e]at ae;rcases h.i1 x n ae with H|H
 .rw[v]at H;cases H
 exact H
def WN{S:gD}(h:x<m)(hl:m<=I S):(S.take m).getD x true=dU S x:=by unfold dU;rw[dD,dD,p_,aD h]
def agV{S:gD}:(S.take m).set x true=(S.set x true).take m:=by rw[<-List.take_set]
def alg{S:gD}(h:m<=x):(S.set x true).take m=S.take m:=by rw[List.take_set];exact Qo (by rw[jO];omega)
def awj{next:Nat->Nat}{d:Nat}(M:AU next m N)(D:d<m):∀(f x:Nat) (S:gD),I S=N->x<N->Inv next N d S x->AG S<f->
  PE next N (hJ next f x S).2/\Ki next m f x (S.take m)=((hJ next f x S).1,(hJ next f x S).2.take m):=by
 intro f
 induction f with
 |zero=>intro x S _ _ _ h;omega
 |succ f z=>
  intro x S hl u H E;have B:=M.le;unfold hJ Ki;cases ae:S.getD x true with
  |true=>have v:=H.i4 ae;have A:x<m:=J;rw[aD A,WN A J,show dU S x=true from ae];exact⟨H.stop M ae,rfl⟩
  |false=>
   have y:S[x]?=some false:=by
    rw[dD]at ae;cases n:S[x]? with
    |none=>rw[n]at ae;cases ae
    |some b=>rw[n]at ae;exact congrArg some ae
   have F:=Mw y;obtain⟨c1,j⟩:=z (next x) (S.set x true) (by rw[j7,hl]) (M.lt x u) (H.step M hl u ae) J;simp only[fE,if_false];refine⟨c1,?_⟩;by_cases A:x<m
   .rw[aD A,WN A J,show dU S x=false from ae];simp only[fE,if_false];rw[agV,j]
   rw[aC A];rw[alg J]at j;rw[j]
def gN.lY(_:gN F h):∀x∈aA h,x<I h:=λ_ H=>SH H
def gN.hp(ok:gN F h):∀v l,h[v]?=some l->(l.kind==2)=false->v∈aA h:=λ_ l H f=>sB.2 ⟨l,H,ok.U2 H f⟩
abbrev aT(ls:af):Nat:=2*I ls+2*I (aA ls)
theorem mE(ok:gN F h):AU (aU h) (2*I h) (aT h):=by
 refine⟨by unfold aT;omega,λx H=>Si ok.lY ok.hp H,λx y H u A=>arF ok H u A,λx H z=>?_⟩;have H:x<2*I h+2*I (aA h):=H;have j:∀k,k<I (aA h)->(aA h).getD k 0<I h:=λk n=>by obtain⟨v,f⟩:=aP n;rw[dD,f];exact ok.lY v (a7 f)
 have m:=cT ((x-2*I h)/2+1) (show 0<I (aA h) by omega);show iY h (aA h) x<_;unfold iY;rw[aD z];split
 .exact IT (j _ m)
 exact IT (j _ J)
def alK(next:Nat->Nat):∀(k x:Nat) (S:gD) (y:Nat),dU S y->dU (hJ next k x S).2 y:=by
 intro k
 induction k with
 |zero=>intro x S y h;exact h
 |succ k f=>
  intro x S y h;unfold hJ;split
  .exact h
  refine f _ _ _ ?_;unfold dU;rw[dD,pJ];split
  .split<;>rfl
  rw[<-dD];exact h
def ahf(next:Nat->Nat)(k x:Nat)(S:gD)(H:AG S<k):dU (hJ next k x S).2 x:=by
 cases k with
 |zero=>omega
 |succ k=>
  unfold hJ;cases ae:S.getD x true with
  |true=>simpa using ae
  |false=>
   simp only[fE,if_false];refine alK _ _ _ _ _ ?_;unfold dU;rw[dD,pJ];split
   .split<;>rfl
   rename_i h;exact absurd rfl h
section
variable {next:Nat->Nat} {m N:Nat}
def agb(h:x<N):dU (List.replicate N false) x=false:=by unfold dU;rw[dD,List.getElem?_replicate,aD h];rfl
def RJ(M:AU next m N):∀k,k<=m->PE next N (ft next N k).2/\ ∀x,x<k->dU (ft next N k).2 x:=by
 intro k
 induction k with
 |zero=>intro _;refine⟨λy j=>?_,λx h=>absurd h (o6 x)⟩;show dU (List.replicate N false) y=dU (List.replicate N false) (next y);rw[agb j,agb (M.lt y j)]
 |succ k n=>
  intro v;obtain⟨c,s⟩:=n J;have H:=Ie next N k;have u:=M.le;rw[Ad];unfold xl;cases ae:(ft next N k).2.getD k true with
  |true=>
   simp only[if_true];refine⟨c,λx f=>?_⟩;rcases rH.1 f with h|rfl
   .exact s x h
   exact ae
  |false=>
   simp only[fE,if_false];have B:=J0 (ft next N k).2;obtain⟨c1,_⟩:=awj M (show k<m by omega) ((ft next N k).2.length+1) k (ft next N k).2 H J (Inv.start c ae) J;refine⟨c1,λx f=>?_⟩;rcases rH.1 f with h|rfl
   .exact alK _ _ _ _ _ (s x h)
   exact ahf _ _ _ _ J
def aaa(M:AU next m N):∀k,m<=k->k<=N->ft next N k=ft next N m:=by
 intro k
 induction k with
 |zero=>intro h _;rw[show m=0 by omega]
 |succ k f=>
  intro u n;by_cases e:m=k+1
  .rw[e]
  rw[Ad,f J J];obtain⟨c,s⟩:=RJ M m (cJ _);unfold xl;have:(ft next N m).2.getD k true:=by have H:=c k J;have j:=s (next k) (M.ax k J J);show dU (ft next N m).2 k=true;rw[H,j]
  rw[this];rfl
end

abbrev lN(o:qO):dI:=o.map λp=>[PV.int .i64 (p.1:Int),PV.int .i64 (p.2:Int)]
def av8{o:qO}{k:Nat}{p:Nat×Nat}(h:o[k]?=some p):(lN o)[k]?=some [.int .i64 (p.1:Int),.int .i64 (p.2:Int)]:=by simp[h]
def pD(g r to:Nat):qO:=(g,r)::(List.range (to-g)).map λi=>(g+1+i,0)
def uV(g to:Nat):aG:=(List.range (to-g)).map λi=>g+1+i
abbrev Gp:Nat:=135
def se (h:af)(i:Nat):Nat:=match h[i]? with|some l=>l.gate.toNat|none=>0
def GJ (h:af)(i:Nat):Nat:=match h[i]? with|some l=>l.au.toNat|none=>0
def vU{i:Nat}{l:U}(H:h[i]?=some l):se h i=l.gate.toNat:=by simp[se,H]
def JS{i:Nat}{l:U}(H:h[i]?=some l):GJ h i=l.au.toNat:=by simp[GJ,H]
def mL(F:Nat)(h:af)(j:Nat):qO:=
 let u:=(aA h).getD j 0
 let v:=(aA h).getD ((j+1)%I (aA h)) 0
 if j+1<I (aA h) then pD (se h u) (GJ h u) (se h v)else pD (se h u) (GJ h u) F++pD 0 0 (se h v)
def D6(F:Nat)(h:af)(j:Nat):aG:=
 let u:=(aA h).getD j 0
 let v:=(aA h).getD ((j+1)%I (aA h)) 0
 if j+1<I (aA h) then uV (se h u) (se h v)else uV (se h u) F++uV 0 (se h v)
def Qh(a b:qO):lN (a++b)=lN a++lN b:=aE
def M8(a b:aG):bQ (a++b)=bQ a++bQ b:=aE
def Bh(g r to:Nat):I (pD g r to)=to-g+1:=by simp[pD]
def Tr(g to:Nat):I (uV g to)=to-g:=by simp[uV]
def Jr(ok:gN F h)(n:j<I (aA h)):∃u l,(aA h)[j]?=some u/\(aA h).getD j 0=u/\h[u]?=some l/\l.ay/\tZ F h l:=by obtain⟨u,H⟩:=aP n;obtain⟨l,f,m⟩:=sB.1 (a7 H);exact⟨u,l,H,by rw[dD,H];rfl,f,m,ok.ax.fA l (a7 f) m⟩
structure dL where
 gT:Bool
 di:aG
 places:qO
 Bt:aG
 outer:Bool
abbrev D1:=List dL
def dL.ps(f:dL):dW:=[.bool f.gT,.sl (bQ f.di),.sl (lN f.places),.sl (bQ f.Bt),.bool f.outer]
def dL.add(F:Nat)(h:af)(f:dL)(x:Nat):dL:=
 if x<2*I h then{f with di:=f.di++[x]}
 else{f with places:=f.places++(if x%2=0 then mL F h ((x-2*I h)/2)else(mL F h ((x-2*I h)/2)).reverse),Bt:=f.Bt++(if x%2=0 then D6 F h ((x-2*I h)/2)else(D6 F h ((x-2*I h)/2)).reverse),outer:=f.outer||decide ((x-2*I h)/2+1=I (aA h))}
def dL.new(h:af)(d:Nat):dL:=⟨dn h (d/2+1),[],[],[],false⟩
def Em(F:Nat)(h:af)(w:aG)(k:Nat):dL:=(w.take k).foldl (dL.add F h) (dL.new h (w.headD 0))
def kY(F:Nat)(h:af)(w:aG):dL:=w.foldl (dL.add F h) (dL.new h (w.headD 0))
def fZ(F:Nat)(h:af):D1:=(gW (aU h) (aT h)).map (kY F h)
def ajZ(F:Nat)(h:af)(w:aG):Em F h w (I w)=kY F h w:=by unfold Em kY;rw[jZ]
def ai8{w:aG}{k:Nat}(H:w[k]?=some x):Em F h w (k+1)=(Em F h w k).add F h x:=by unfold Em;rw[k_,H,A8];rfl
def IE(ok:gN F h)(f:j<I (aA h)):se h ((aA h).getD j 0)<=F:=by obtain⟨u,l,_,D,hl,_,H⟩:=Jr ok f;rw[D,vU hl];have:=H.g1;have:=H.g0;omega
theorem W1(ok:gN F h)(H:j<I (aA h)):I (mL F h j)<=2*F+2:=by have f:=IE ok H;have m:=IE ok (cT (j+1) (show 0<I (aA h) by omega));unfold mL;simp only;split<;>simp only[gb,Bh]<;>omega
theorem ZP(ok:gN F h)(H:j<I (aA h)):I (D6 F h j)<=2*F+2:=by have f:=IE ok H;have m:=IE ok (cT (j+1) (show 0<I (aA h) by omega));unfold D6;simp only;split<;>simp only[gb,Tr]<;>omega
def ac2(ok:gN F h){w:aG}(j:∀x∈w,x<aT h):∀k,k<=I w->(Em F h w k).di.length<=k/\(Em F h w k).places.length<=k*(2*F+2)/\(Em F h w k).Bt.length<=k*(2*F+2):=by
 intro k
 induction k with
 |zero=>intro _;exact⟨cJ _,bZ _,bZ _⟩
 |succ k m=>
  intro u;obtain⟨x,H⟩:=aP (show k<I w by omega);obtain⟨i1,i2,i3⟩:=m J;have y:=j x (a7 H);rw[ai8 H,Nat.succ_mul];unfold dL.add;by_cases n:x<2*I h
  .rw[aD n];simp only[gb,fP,ga];exact⟨J,J,J⟩
  rw[aC n];have f:(x-2*I h)/2<I (aA h):=by unfold aT at y;omega
  have L:=W1 ok f;have v:=ZP ok f;refine⟨by simp only;omega,?_,?_⟩
  .simp only[gb];split<;>(try rw[nr])<;>omega
  simp only[gb];split<;>(try rw[nr])<;>omega
def asf(next:Nat->Nat):∀(k x:Nat) (S:gD),∀y∈(hJ next k x S).1,y<I S:=by
 intro k
 induction k with
 |zero=>intro x S y h;simp[hJ]at h
 |succ k j=>
  intro x S y h;unfold hJ at h;cases ae:S.getD x true with
  |true=>rw[ae]at h;simp at h
  |false=>
   rw[ae]at h;have f:x<I S:=by
    rcases LB x (I S) with H|H
    .exact H
    rw[dD,lS H]at ae;cases ae
   simp only[fE,if_false,c7]at h;rcases h with rfl|h
   .exact f
   have:=j _ _ y h
   simpa using this
def apW(next:Nat->Nat):∀(k x:Nat) (S:gD),(hJ next k x S).1.length<=AG S:=by
 intro k
 induction k with
 |zero=>intro x S;simp[hJ]
 |succ k j=>
  intro x S;unfold hJ;cases ae:S.getD x true with
  |true=>simp
  |false=>
   have f:S[x]?=some false:=by
    rw[dD]at ae;cases h:S[x]? with
    |none=>rw[h]at ae;cases ae
    |some b=>rw[h]at ae;exact congrArg some ae
   have H:=Mw f;have:=j (next x) (S.set x true);simp only[fE,if_false,fP];omega
def akD(next:Nat->Nat){k:Nat}{S:gD}(h:S.getD x true=false):∃t,(hJ next (k+1) x S).1=x::t:=by unfold hJ;rw[h];exact⟨_,rfl⟩
def adb(next:Nat->Nat)(N:Nat):∀k,∀w∈(ft next N k).1,(∃d t,w=d::t/\d<k)/\I w<=N/\ ∀y∈w,y<N:=by
 intro k
 induction k with
 |zero=>intro w h;simp[ft]at h
 |succ k v=>
  intro w h;rw[Ad]at h;unfold xl at h;have f:=Ie next N k;have O:w∈(ft next N k).1->(∃d t,w=d::t/\d<k+1)/\I w<=N/\ ∀y∈w,y<N:=λh=>by obtain⟨⟨d,t,H,j⟩,u⟩:=v w h;exact⟨⟨d,t,H,J⟩,u⟩
  cases ae:(ft next N k).2.getD k true with
  |true=>simp only[ae,if_true]at h;exact O h
  |false=>
   simp only[ae,fE,if_false,gn,mj]at h;rcases h with h|rfl
   .exact O h
   obtain⟨t,n⟩:=akD next (k:=(ft next N k).2.length) ae;refine⟨⟨k,t,n,J⟩,?_,λy m=>?_⟩
   .have H:=apW next ((ft next N k).2.length+1) k (ft next N k).2;have j:=J0 (ft next N k).2;omega
   have:=asf next _ _ _ y m;omega
def AY(ok:gN F h):∀w∈gW (aU h) (aT h),(∃d t,w=d::t/\d<2*I h)/\I w<=aT h/\ ∀y∈w,y<aT h:=by intro w H;unfold gW at H;rw[aaa (mE ok) (aT h) (by unfold aT;omega) (cJ _)]at H;exact adb (aU h) (aT h) _ w H
abbrev CE:Nat:=90
def auj{a b:PV}{id g z o l:Nat}:Dk [[.p a,.hsl id g z o l,y,u,.p b]]=none:=rfl
def aCs{blk:aJ}{s g F j T z f B L n E Z:Nat}{a o:Bool}{v:bd}{D P G:dI}(H:blk s=(g,some (.lh F 5 [[.p (.bool a),v,y,u,.p (.bool o)]])))(gd:bh j T z D (.one v) blk)(gp:bh f B L P (.one y) blk)(gf:bh n E Z G (.one u) blk):
  ∃fr,hU blk (.one (.hsl s g 5 0 1))=some ([[.bool a,.sl D,.sl P,.sl G,.bool o]],[s],fr)/\yU blk fr/\ ∀i∈fr,i=j\/i=f\/i=n:=by
 obtain⟨r1,Y,O,Q⟩:=gd.V5;obtain⟨M,m,X,q2⟩:=gp.V5;obtain⟨R,N,A,x⟩:=gf.V5;refine⟨r1++(M++R),?_,O.app (X.app A),λi h=>?_⟩
 .simp only[hU,H];simp[iB,Y,m,N,Xh,PV.norm]
 simp only[gn]at h;rcases h with h|h|h
 .rcases Q with rfl|rfl<;>simp at h;exact .inl h
 .rcases q2 with rfl|rfl<;>simp at h;exact .inr (.inl h)
 rcases x with rfl|rfl<;>simp at h;exact .inr (.inr h)
abbrev sq(l:D1):dI:=l.map dL.ps
def ang(F:Nat)(h:af):∀(w:aG) (f:dL),f.di≠[]->(w.foldl (dL.add F h) f).di≠[]:=by
 intro w
 induction w with
 |nil=>intro f H;exact H
 |cons x w j=>
  intro f H;refine j _ ?_;unfold dL.add;split
  .simp
  exact H
def asA{d:Nat}{t:aG}(H:d<2*I h):(kY F h (d::t)).di≠[]:=by unfold kY;refine ang F h t _ ?_;unfold dL.add;rw[show(d::t).headD 0=d from rfl,aD H];simp
def vM(h:af)(k:Nat):gD:=(List.range (I h)).map λi=>decide (i<k)&& !dn h (i+1)
def adk(h:af)(k:Nat):I (vM h k)=I h:=by simp[vM]
def axY(h:af):vM h 0=List.replicate (I h) false:=by
 refine pk λi=>?_;simp[vM,fz,List.getElem?_replicate]
 grind
def atz(h:af)(k:Nat):vM h (k+1)=(vM h k).set k (!dn h (k+1)):=by
 refine pk λi=>?_;rw[pJ,adk];simp[vM,fz];by_cases H:i<I h
 .rw[tX H];by_cases e:k=i
  .subst e;simp[H]
  simp[wy,e,if_false];congr 2
  grind
 grind
abbrev C3(ls:af):gD:=vM ls (I ls)
def aqA{i:Nat}(H:i<I h):(C3 h)[i]?=some (!dn h (i+1)):=by simp[vM,H]
def aCa(ok:gN F h):aL S 66 [.one (.p (pA F h))] (.one (.own 4 1 (iQ (C3 h)))):=by
 have hl:=ok.hl;have Q:I h<=140737488355328:=J;have Z:List.replicate (I h) [PV.bool false]=iQ (vM h 0):=by rw[axY];simp
 refine cG amJ ?_;simp only[go_sem,Yv,Q,Z,ai,aB];refine dt (λk A blk=>A 0=.one (.p (pA F h))/\A 3=.one (.hsl 4224064384 1 1 0 (I h))/\blk 4224064384=(1,some (.arr 4 1 (iQ (vM h k))))/\
   A 4=i_ (!dn h k)/\A 18=.one (.p (gC h))/\A 19=aI (I h)/\A 20=aI k) 0 (I h) (bZ _) ?_ ?_
 .simp only[go_sem];first|exact⟨rfl,rfl⟩|exact⟨rfl,rfl,rfl⟩|exact _|exact rfl
 rintro k A blk T ⟨x,y,u,z,v,L,B⟩
 by_cases m:k<I h
 .obtain⟨l,D⟩:=aP m;have M:=jh D;have N:((k:Int)<(I h:Int)):=J;have E:=cS (n:=k) J;have j:k<I (vM h k):=by rw[adk];exact m
  obtain⟨X,R⟩:=aP j;have O:=tR R;have f:=Lh (vM h k) k (!dn h (k+1));rw[<-atz]at f;cases hp:(l.kind==1)with
  |true=>have H:=Ez D hp;rw[H]at f;rw[yI]at f;simp only[go_sem,L_,x,y,u,z,v,L,B,M,eR,U.ps,m,N,E,hp,tR (Sy D hp),O,f,H,ai,aB]
  |false=>have H:=Jc D hp;rw[H]at f;simp only[go_sem,L_,x,y,u,z,v,L,B,M,eR,U.ps,m,N,E,hp,O,f,H,ai,aB]
 have:k=I h:=J;subst this;simp only[go_sem,L_,WD,x,y,u,z,v,L,B,fF,ai,aB];exact Nh u (by simp[vM])
abbrev FE(id:Nat):Prop:=rh id=142
def ajK{g r k:Nat}(h:k<=T-g):(pD g r T)[k]?=some (g+k,if k=0 then r else 0):=by grind [pD]
def avX{g k:Nat}(h:k<T-g):(uV g T)[k]?=some (g+1+k):=by
 unfold uV
 grind
def Jf(g r T:Nat)(ps fs:dI)(i1 i2:Nat)(blk:aJ)(v:V)(A:aJ):Prop:=
 ∃c1 f j,v=.tup [.one c1,.one f]/\bh 9088320192 Gp 2 (ps++lN (pD g r T)) (.one c1) A/\bh j 3 1 (fs++bQ (uV g T)) (.one f) A/\(j=i2\/j=9088256256)/\
  d_ (λid=>FE id\/id=i1\/id=i2) blk A
def R3:aG:=[9088000000,9088000064,9088128128,9088256192,9088256256,9088320128]
def VD:aG:=[9088000000,9088000064,9088128128,9088128192,9088256192,9088320128,9088320192]
def N6{al:cF}{blk:aJ}{g r t i1 i2:Nat}{ps fs:dI}{c1 c2:bd}(O:∀id,FE id->al.ok id)(o1:al.ok i1)(o2:al.ok i2)(hT:g<=T)(ht:t=if T=g then r else 0)(hb:T<=1000)(eE:I ps<=1000000)(sO:I fs<=1000000)
  (Nf:i1≠i2) (Rh:i1∉R3) (Ri:i2∉VD) (F:bh i1 Gp 2 ps (.one c1) blk) (h2:bh i2 3 1 fs (.one c2) blk):
  ∃v A,jQ S 142 [.agg [.p (.int .i64 g),.p (.int .i64 r)],.agg [.p (.int .i64 T),.p (.int .i64 t)],.one c1,.one c2] al blk v A/\Jf g r T ps fs i1 i2 blk v A:=by
 have Z:al.ok 9088000000:=O _ rfl;have n:al.ok 9088000064:=O _ rfl;have QV:al.ok 9088128128:=O _ rfl;have ap:al.ok 9088128192:=O _ rfl;have Gh:al.ok 9088256192:=O _ rfl;have HQ:al.ok 9088256256:=O _ rfl;have y:al.ok 9088320128:=O _ rfl;have av:al.ok 9088320192:=O _ rfl;refine oZ att (ju rfl) ?_;simp only[go_sem,ahD,Z,n];have aF:=Bh g r T;have az:=Tr g T;refine dt (λk D A=>D 4=.one (.bR 9088000000 ((blk 9088000000).1+1) 0)/\D 5=.one (.bR 9088000064 ((blk 9088000064).1+1) 0)/\
   A 9088000000=((blk 9088000000).1+1,some (.var [.p (.int .i64 ((g+k:Nat):Int)),.p (.int .i64 ((if k=0 then r else 0:Nat):Int))]))/\A 9088000064=((blk 9088000064).1+1,some (.var [.p (.int .i64 T),.p (.int .i64 t)]))/\
   ∃d1 X j f,D 2=.one d1/\D 3=.one X/\(j=i1\/j=9088128192)/\(f=i2\/f=9088256256)/\bh j Gp 2 (ps++lN ((pD g r T).take k)) (.one d1) A/\bh f 3 1 (fs++bQ ((uV g T).take k)) (.one X) A/\d_ (λid=>FE id\/id=i1\/id=i2) blk A) 0 (T-g) (bZ _) ?_ ?_
 .simp only[go_sem];refine⟨rfl,c1,c2,i1,i2,rfl,rfl,.inl rfl,.inl rfl,?_,?_,?_⟩
  .exact(F.of_eq (ct (UN Rh (by simp[R3])))).of_eq (ct (UN Rh (by simp[R3])))
  .exact(h2.of_eq (ct (UN Ri (by simp[VD])))).of_eq (ct (UN Ri (by simp[VD])))
  exact((d_.refl _ _).dV (.inl rfl) _).dV (.inl rfl) _
 rintro k D A hk ⟨Y,h5,hA,hB,d1,X,j,f,E,M,q1,Q,g1,g2,dN⟩
 have R:al.ok j:=by rcases q1 with rfl|rfl<;>assumption
 have ar:al.ok f:=by rcases Q with rfl|rfl<;>assumption
 have N:∀a,a∈R3->j≠a:=λa z e=>by
  rcases q1 with rfl|rfl
  .exact Rh (e▸z)
  exact absurd (e▸z) aa
 have m:∀a,a∈VD->f≠a:=λa z e=>by
  rcases Q with rfl|rfl
  .exact Ri (e▸z)
  exact absurd (e▸z) aa
 have n3:j≠f:=λe=>by
  rcases q1 with rfl|rfl
  .rcases Q with rfl|rfl
   .exact Nf e
   exact N _ aa e
  exact m _ aa e.symm
 have B:FE j\/j=i1\/j=i2:=by
  rcases q1 with rfl|rfl
  .exact .inr (.inl rfl)
  exact .inl rfl
 have ac:FE f\/f=i1\/f=i2:=by
  rcases Q with rfl|rfl
  .exact .inr (.inr rfl)
  exact .inl rfl
 have L:I ((pD g r T).take k)=k:=by rw[jO];omega
 have ab:I ((uV g T).take k)=k:=by rw[jO];omega
 by_cases aw:k<T-g
 .have aM:(((g+k:Nat):Int)<(T:Int)):=J;have w1:IntKind.i64.wrap (((g+k:Nat):Int)+1)=((g+(k+1):Nat):Int):=cS J;have hp:lN ((pD g r T).take (k+1))=lN ((pD g r T).take k)++[[.int .i64 ((g+k:Nat):Int),.int .i64 ((if k=0 then r else 0:Nat):Int)]]:=by
   rw[k_,ajK J,Qh];rfl
  have hf:bQ ((uV g T).take (k+1))=bQ ((uV g T).take k)++[[.int .i64 ((g+(k+1):Nat):Int)]]:=by rw[k_,avX aw,M8,show g+1+k=g+(k+1) by omega];rfl
  simp only[go_sem,Yy,Y,h5,hA,hB,E,M,aw,aM,Z,n,QV];refine T3 (B:=[[.int .i64 ((g+k:Nat):Int),.int .i64 ((if k=0 then r else 0:Nat):Int)]]) (rd:=[9088128128]) (by simp[ap,R,QV]) (g1.of_eq (ct (N _ aa))) (by simp[hU,bG]) (.inl rfl) (by simp only[gb,cg,L,fP,ga];omega) λc bK hc u=>?_;have ag:=(u 9088000000 aa (N _ aa).symm).trans ((ct aa).trans hA);have pO:=(u 9088000064 aa (N _ aa).symm).trans ((ct aa).trans hB);simp only[go_sem,Y,h5,ag,pO,E,M,w1,Z,n,Gh]
  refine T3 (B:=[[.int .i64 ((g+(k+1):Nat):Int)]]) (rd:=[9088256192]) (by simp[HQ,ar,Gh]) (g2.of_eq ((ct (m _ aa)).trans ((ct (m _ aa)).trans ((u _ (m _ aa) n3.symm).trans (ct (m _ aa)))))) (by simp[hU,bG]) (.inl rfl) (by simp only[gb,cg,ab,fP,ga];omega) λc' mO mT mS=>?_;have ad:=(mS 9088000000 aa (m _ aa).symm).trans ((ct aa).trans zI);have am:=(mS 9088000064 aa (m _ aa).symm).trans ((ct aa).trans ((ct aa).trans pO));simp only[go_sem,Y,h5,ad,am,E,M,aw];refine⟨rfl,c,c',9088128192,9088256256,rfl,rfl,.inr rfl,.inr rfl,?_,?_,λid H=>?_⟩
  .rw[hp,<-lf];exact hc.of_eq ((mS _ aa (m _ aa).symm).trans ((ct aa).trans (ct aa)))
  .rw[hf,<-lf];exact mT
  have a:∀x,FE x->id≠x:=λx hx e=>H (.inl (e▸hx));have b1:id≠j:=λe=>H (e▸B);have b2:id≠f:=λe=>H (e▸ac);exact(mS id (a _ rfl) b2).trans ((ct (a _ rfl)).trans ((ct (a _ rfl)).trans ((u id (a _ rfl) b1).trans ((ct (a _ rfl)).trans (dN id H)))))
 have:k=T-g:=J;subst this;have aM:¬(((g+(T-g):Nat):Int)<(T:Int)):=J;simp only[go_sem,Yy,acN,Y,h5,hA,hB,E,M,aM,Z,n,y];have Zf:lN (pD g r T)=lN ((pD g r T).take (T-g))++[[.int .i64 (T:Int),.int .i64 (t:Int)]]:=by
  have F:=k_ (l:=pD g r T) (i:=T-g);rw[ajK (cJ _),f_ (show(pD g r T).length<=T-g+1 by omega)]at F;have e1:g+(T-g)=T:=J;have E:(if T-g=0 then r else 0)=t:=by
   rw[ht];by_cases h:T=g
   .rw[aD h,aD J]
   rw[aC h,aC J]
  rw[e1,E]at F;exact(congrArg (λl:qO=>lN l) F).trans (Qh _ _)
 have jI:(uV g T).take (T-g)=uV g T:=f_ J;refine T3 (B:=[[.int .i64 (T:Int),.int .i64 (t:Int)]]) (rd:=[9088320128]) (by simp[av,R,y]) (g1.of_eq (ct (N _ aa))) (by simp[hU,bG]) (.inl rfl) (by simp only[gb,cg,L,fP,ga];omega) λc bK hc u=>?_;simp only[go_sem,M];refine⟨c,X,f,rfl,?_,?_,Q,λid H=>?_⟩
 .rw[Zf,<-lf];exact hc
 .rw[jI]at g2;exact g2.of_eq ((u _ (m _ aa) n3.symm).trans (ct (m _ aa)))
 have a:∀x,FE x->id≠x:=λx hx e=>H (.inl (e▸hx));have b1:id≠j:=λe=>H (e▸B);exact(u id (a _ rfl) b1).trans ((ct (a _ rfl)).trans (dN id H))
def alc(ok:gN F h)(m:j<I (aA h)):∃u l,(aA h)[j]?=some u/\(aA h).getD j 0=u/\h[u]?=some l/\l.ay/\tZ F h l/\dQ h l=j:=by obtain⟨u,l,H,n,f,v,x⟩:=Jr ok m;obtain⟨L,k1,k2,k3⟩:=v7 ok.ax H;rw[f]at k1;cases k1;exact⟨u,l,H,n,f,v,x,k3⟩
def apw{f pr Q y:Nat}{p q:U}(gp:tZ F h p)(D:tZ F h q)(hp:dQ h p=j)(m:dQ h q=j+1)(z:p.gate=(f:Int))(H:p.au=(pr:Int))(x:q.gate=(Q:Int))(n:q.au=(y:Int)):
  f<=Q/\y-1=if Q=f then pr else 0:=by
 obtain⟨_,_,B,v⟩:=gp;obtain⟨_,_,E,A⟩:=D;unfold dQ at hp m;rw[z,H]at hp;rw[x,n]at m;rw[H]at B;rw[z,H]at v;rw[n]at E;rw[x,n]at A;simp only[js]at hp m v A;have M:=pX h f;have N:=pX h Q;have u:f<=Q:=by
  rcases LB Q f with L|L
  .have:=yR (h:=h) (show Q+1<=f by omega);omega
  exact L
 refine⟨u,?_⟩;by_cases e:Q=f
 .subst e;rw[aD rfl];omega
 rw[aC e];have:=yR (h:=h) (show f+1<=Q by omega);omega
def axv{j Q:Nat}{q:U}(m:tZ F h q)(H:dQ h q=0)(u:q.gate=(j:Int))(f:q.au=(Q:Int)):Q-1=0:=by obtain⟨_,_,n,v⟩:=m;unfold dQ at H;rw[u,f]at H;rw[f]at n;simp only[js]at H;omega
def apg:S.sites 142=[142]:=ah
def xr{v:dZ}{blk:aJ}:∀id,FE id->(jm (S.ctx .all) 142 v blk).ok id:=λid h=>O8 (by rw[apg,h];simp)
def aoK(ok:gN F h)(hF:F<=1000)(hj:j<I (aA h)):
  aL S 103 [.one (.p (pA F h)),aI j] (.tup [.one (cU Gp 2 (lN (mL F h j))),.one (cU 3 1 (bQ (D6 F h j)))]):=by
 have hl:=ok.hl;have jt:I (aA h)<=1000000:=oO (xo h (I h)) hl;have hm:=cT (j+1) (show 0<I (aA h) by omega);obtain⟨u,p,hu,du,hp,pp,gp,xp⟩:=alc ok hj;obtain⟨v,q,hv,dv,hq,pq,L,xq⟩:=alc ok hm;unfold mL D6;simp only[du,dv,vU hp,vU hq,JS hp];have dx:=jh hp;have F5:=jh hq;have CG:=jy hu;have F2:=jy hv;have e1:=xw (j+1) (I (aA h));have w1:=cS (n:=j) J;have w2:=Ig (a:=I (aA h)) J J;have qR:¬((I (aA h):Int)=0):=J
 have JN:=gp.g0;have FT:=gp.g1;have DQ:=L.g0;have dz:=L.g1;have MH:=gp.r0;have kN:=gp.r1;have mB:=L.r0;have jj:=L.r1;have Hk:aV h p.gate.toNat<=I h:=vo _ _;have O:aV h q.gate.toNat<=I h:=vo _ _;obtain⟨f,N⟩:=ns (show 0<=p.gate by omega);obtain⟨pr,D⟩:=ns (show 0<=p.au by omega);obtain⟨Q,A⟩:=ns (show 0<=q.gate by omega);obtain⟨qr,y⟩:=ns (show 0<=q.au by omega);have wr:=Ig (a:=qr) (by rw[y]at mB;omega) J;have R:S.shared 142:=ah;have HA:=λH=>apw gp L xp (H:dQ h q=j+1) N D A y;have Y9:=λH=>axv L (H:dQ h q=0) A y
 rw[N]at FT kN Hk JN;rw[D]at kN MH;rw[A]at DQ dz jj O;rw[y]at mB jj;rw[N,D,A];simp only[js]at kN Hk jj O |-;refine cG azR ?_;by_cases aw:j+1<I (aA h)
 .have Z:(j:Int)<((I (aA h)-1:Nat):Int):=J;rw[eJ aw]at xq;obtain⟨n1,m⟩:=HA xq;simp only[aD aw];simp only[go_sem,Vj,CG,F2,dx,F5,eR,U.ps,w1,e1,w2,wr,Z,qR,N,D,A,y,R];refine⟨aS,?_⟩;refine xB (P:=Jf f pr Q [] [] 9088128192 9088256256 _) Cd (N6 (g:=f) (r:=pr) (T:=Q) (t:=qr-1) (c1:=.p .nils) (c2:=.p .nils) xr (xr _ rfl) (xr _ rfl) n1 m J (bZ _) (bZ _) aa aa aa bh.nil bh.nil) ?_;rintro v ao ⟨c1,x,Y,rfl,g1,B,M,dN⟩
  have M:Y=9088256256:=by rcases M with H|H<;>exact H
  subst M;simp only[go_sem];exact Mp aa g1 B
 have Z:¬(j:Int)<((I (aA h)-1:Nat):Int):=J;have JP:(j+1)%I (aA h)=0:=by rw[show j+1=I (aA h) by omega,w_]
 rw[JP]at xq;have m:=Y9 xq;simp only[aC aw];have Zf:∃t:Nat,t=(if F=f then pr else 0):=⟨_,rfl⟩;obtain⟨t,E⟩:=Zf;have fin:∀(aj:bJ) (blk:aJ) (c1 x:bd),True:=λ_ _ _ _=>trivial;have ab:(((f:Int)==(F:Int))/\t=pr/\F=f)\/(((f:Int)==(F:Int))=false/\t=0):=by
  by_cases H:F=f
  .subst H;rw[aD rfl]at E;exact .inl ⟨aE,E,rfl⟩
  rw[aC H]at E;exact .inr ⟨by simp;omega,E⟩
 rcases ab with⟨hb,vJ,ac⟩|⟨hb,vJ⟩
 .subst ac;simp only[go_sem,Vj,CG,F2,dx,F5,eR,U.ps,w1,e1,w2,wr,Z,qR,N,D,A,y,R,hb];refine⟨aS,?_⟩;refine⟨aS,?_⟩;refine xB (P:=Jf F pr F [] [] 9088128192 9088256256 _) Cd (N6 (g:=F) (r:=pr) (T:=F) (t:=pr) (c1:=.p .nils) (c2:=.p .nils) xr (xr _ rfl) (xr _ rfl) J (by rw[aD rfl]) J (bZ _) (bZ _) aa aa aa bh.nil bh.nil) ?_;rintro v de ⟨c1,x,Y,rfl,g1,B,M,dN⟩
  have M:Y=9088256256:=by rcases M with H|H<;>exact H
  subst M;rw[fB]at g1 B;have X:=dN 6592256384 aa;simp only[go_sem]at X;simp only[go_sem,X,R];refine xB (P:=Jf 0 0 Q (lN (pD F pr F)) (bQ (uV F F)) 9088320192 9088256256 _) Cd (N6 (g:=0) (r:=0) (T:=Q) (t:=qr-1) (c1:=c1) (c2:=x) xr (xr _ rfl) (xr _ rfl) (bZ _) (by rw[m];split<;>rfl) J (by simp only[cg,Bh];omega) (by simp only[cg,Tr];omega) aa aa aa g1 B) ?_;rintro v bK ⟨d1,d2,j3,rfl,k1,k2,z,_⟩
  have z:j3=9088256256:=by rcases z with H|H<;>exact H
  subst z;simp only[go_sem];rw[Qh,M8];exact Mp aa k1 k2
 simp only[go_sem,Vj,CG,F2,dx,F5,eR,U.ps,w1,e1,w2,wr,Z,qR,N,D,A,y,R,hb];refine⟨aS,?_⟩;refine⟨aS,?_⟩;refine xB (P:=Jf f pr F [] [] 9088128192 9088256256 _) Cd (N6 (g:=f) (r:=pr) (T:=F) (t:=0) (c1:=.p .nils) (c2:=.p .nils) xr (xr _ rfl) (xr _ rfl) J (by rw[vJ]at E;exact E) J (bZ _) (bZ _) aa aa aa bh.nil bh.nil) ?_;rintro v de ⟨c1,x,Y,rfl,g1,B,M,dN⟩
 have M:Y=9088256256:=by rcases M with H|H<;>exact H
 subst M;rw[fB]at g1 B;have X:=dN 6592256384 aa;simp only[go_sem]at X;simp only[go_sem,X,R];refine xB (P:=Jf 0 0 Q (lN (pD f pr F)) (bQ (uV f F)) 9088320192 9088256256 _) Cd (N6 (g:=0) (r:=0) (T:=Q) (t:=qr-1) (c1:=c1) (c2:=x) xr (xr _ rfl) (xr _ rfl) (bZ _) (by rw[m];split<;>rfl) J (by simp only[cg,Bh];omega) (by simp only[cg,Tr];omega) aa aa aa g1 B) ?_;rintro v bK ⟨d1,d2,j3,rfl,k1,k2,z,_⟩
 have z:j3=9088256256:=by rcases z with H|H<;>exact H
 subst z;simp only[go_sem];rw[Qh,M8];exact Mp aa k1 k2
end
end Go.Abs
