/- A part. -/
import Derived.Test.YtgjjncbeombnbaaGreatDoorWb
set_option linter.all false
open List renaming length->I
set_option maxRecDepth 100000
set_option maxHeartbeats 16000000
namespace Go.Abs
variable{f:Int}{n v N y T:Nat}{A z:a7}{m:dh}
section
variable{h:af}{F j u x:Nat}
abbrev PZ(f:Int):PV:=HX f [] (.sl []) (.sl []) (.sl []) .rU (.sl [])
abbrev wi(a b:PV):RV:=.tup [.one (.p a),.one (.p b)]
def IL(f:Int)(h:af):RV:=if dM f h=0 then wi (if h=[]then PZ f else sR f.toNat h) (.int .i64 0)else wi .yH (.int .i64 (dM f h))
def jg{blk:aG}{s:Nat}{a b:PV}{l:Bool}:fR blk [] s ((wi a b).ib l)=some (.tup [.one (.p a),.one (.p b)],[]):=by cases l<;>rfl
def LW{e:Int}(j:dM f h=e)(H:e≠0):IL f h=wi .yH (.int .i64 e):=by unfold IL;rw[j,ai H]
def Gj(H:dM f h=0):IL f h=wi (if h=[]then PZ f else sR f.toNat h) (.int .i64 0):=by unfold IL;rw[an H]
def KV(f:Int)(h:af)(hl:I h<=1000000):aI S 21 [fc f h] (IL f h):=by
 have pc:=Tr f h hl;refine bR aph ?_;by_cases h1:400<I h
 .have m:(400:Int)<(I h:Int):=J;rw[LW (by unfold dM;rw[an (Or.inl h1)]) aa];simp only[go_sem,Jj,m];rfl
 have m:¬(400:Int)<(I h:Int):=J;by_cases M:200<au U.aq h
 .have j:(200:Int)<(au U.aq h:Int):=J;rw[LW (by unfold dM;rw[an (Or.inr M)]) aa];simp only[go_sem,Jj,m,j,Gg,hI pc];rfl
 have j:¬(200:Int)<(au U.aq h:Int):=J;have n:¬(400<I h\/200<au U.aq h):=J;by_cases y:f<0
 .rw[LW (by unfold dM;rw[ai n,an (Or.inl y)]) aa];simp only[go_sem,Jj,m,j,y,Gg,hI pc];rfl
 by_cases A:40<f
 .rw[LW (by unfold dM;rw[ai n,an (Or.inr A)]) aa];simp only[go_sem,Jj,m,j,y,A,Gg,hI pc];rfl
 have u:¬(f<0\/40<f):=J;obtain⟨F,rfl⟩:=lB (show 0<=f by omega);have Z:S.shared 49:=ah;simp only[go_sem,Jj,m,j,y,A,Gg,hI pc,Z];refine wN Cp (axW (F:=F) ?_ ?_ ?_ ?_ hl J ?_) ?_
 .refine BD ?_;rw[eQ,oO,T1 (g0:=1) (X:=we F h (.p .nils) (.p .nils) (.p .nils) (.p .rU) (.p .nils)) (by simp only[go_sem])];simp
 .intro id E;refine Ng ?_;rw[YN];rcases E with E|E|E<;>rw[E]<;>rfl
 .show(S.sites 49).contains _=true;rw[YN];rfl
 .show(S.sites 49).contains _=true;rw[YN];rfl
 .simp only[go_sem]
 rintro v ak ⟨rfl,hk,hr,hz⟩
 unfold Pj;by_cases H:h=[]
 .have B:=hz H;rw[Gj (by unfold dM;rw[ai n,ai u,an H]),an H];have x:(decide (h=[])||mA F h)=true:=by simp[H]
  rw[x];subst H;simp only[go_sem]at B;simp only[go_sem];simp only[go_sem,lr,tq,wI,oN,nE,l7,B];rfl
 have x:decide (h=[])=false:=by simp[H]
 cases D:mA F h with
 |false=>rw[LW (e:=3) (by unfold dM;rw[ai n,ai u,ai H,D];rfl) aa];rw[x,JU];simp only[go_sem];rfl
 |true=>
  have hc:dM F h=0:=by unfold dM;rw[ai n,ai u,ai H,D];rfl
  rw[Gj hc,ai H];obtain⟨g1,g2,g3,g4,g5,B,Q,Y,pZ,R,bM⟩:=hr H D;have z:(F:Int).toNat=F:=rfl;rw[z];have t1:List.take (I h) (hJ (mF h))=hJ (mF h):=fL (by simp[mF]);have T:List.take (I (ay h)) (bt (ay h))=bt (ay h):=fL aH;have L:List.take (I h) (bt (jZ h (I h)))=bt (jZ h (I h)):=fL (by simp[jZ]);have N:List.take (F+1) (bt (gb h F))=bt (gb h F):=fL (by simp[gb]);have n:I h<=I (mF h):=by simp[mF]
  have O:I h<=I (jZ h (I h)):=by simp[jZ]
  have X:F+1<=I (gb h F):=by simp[gb]
  rw[x,JU];simp only[go_sem];simp only[go_sem,lr,tq,wI,oN,nE,l7,abR,B,Y,R,pZ,Q,bM,Xc,t1,T,L,N,n,O,X];rfl
abbrev jM(k a b c:Int)(l o:Bool)(s:Int):V:=.agg [.p (.int .i64 k),.p (.int .i64 a),.p (.int .i64 b),.p (.int .i64 c),.p (.bool l),.p (.bool o),.p (.int .i64 s)]
abbrev oI(e:Int):RV:=.tup [.agg [.p (.int .i64 0),.p .nils],.one (.p (.int .i64 e))]
def av4{blk:aG}{s:Nat}{e:Int}{l:Bool}:fR blk [] s ((oI e).ib l)=some (.tup [.agg [.p (.int .i64 0),.p .nils],.one (.p (.int .i64 e))],[]):=by cases l<;>rfl
section
variable {f:Int} {h:af} {e:Int}
abbrev kinds(k:Nat):aC:=(List.range k).map (· +1)
def ay9(k:Nat):bt (kinds (k+1))=bt (kinds k)++[[.int .i64 ((k+1:Nat):Int)]]:=by simp[kinds,mD]
def avT(k:Nat)(v:V)(blk:aG):Prop:=(k=0/\v=.one (.p .nils))\/(k≠0/\ ∃g,v=.one (.hsl 1152320192 g 1 0 k)/\blk 1152320192=(g,some (.arr 27 1 (bt (kinds k)))))
end
def gn(n v:Nat)(f:Bool):Nat:=if f then 2*((v+n-1)%n)else 2*v+1
def Xw(n e:Nat):Nat:=if e%2=0 then e/2 else(e/2+1)%n
theorem uE(H:v<n):((v+n-1)%n+1)%n=v:=by
 by_cases h:v=0
 .subst h;rw[jO,eN (show n-1<n by omega),show n-1+1=n by omega,vv]
 rw[show v+n-1=(v-1)+n by omega,mT,eN (show v-1<n by omega),show v-1+1=v by omega,eN H]
theorem vi(H:v<n):((v+1)%n+n-1)%n=v:=by
 by_cases h:v+1=n
 .rw[h,vv,jO,eN J];omega
 rw[eN (show v+1<n by omega),show v+1+n-1=v+n by omega,mT,eN H]
def ah6(H:v<n)(g:Bool):Xw n (dx n v g)=v/\(dx n v g%2==0)=g:=by
 unfold Xw dx;cases g with
 |true=>grind
 |false=>have h:(2*((v+n-1)%n)+1)%2=1:=J;have f:(2*((v+n-1)%n)+1)/2=(v+n-1)%n:=J;simp only[gJ,if_false,h,f,Nat.one_ne_zero,uE H];exact⟨trivial,rfl⟩
def It(h:af)(ax:aC)(e:Nat):Nat:=
 if 2*I h<=e then
  if e%2=0 then gn (I h) (ax.getD ((e-2*I h)/2) 0) (dn h (ax.getD ((e-2*I h)/2) 0))
  else gn (I h) (ax.getD (((e-2*I h)/2+1)%I ax) 0) (!dn h (ax.getD (((e-2*I h)/2+1)%I ax) 0))
 else
  let v:=Xw (I h) e
  let g:=e%2==0
  match h[v]? with
  |none=>0
  |some l=>if l.kind==2 then
    match h[gC h v]? with
    |some u=>gn (I h) (gC h v) (g==(u.over==(u.sign==1)))
    |none=>0
   else if g==dn h v then 2*I h+2*ax.idxOf v+1 else 2*I h+2*((ax.idxOf v+I ax-1)%I ax)
def pE(H:lA h){i:Nat}{l:U}(hl:h[i]?=some l)(j:l.aq):gC h (gC h i)=i/\ ∃m,h[gC h i]?=some m/\m.aq/\m.id=l.id/\m.over= !l.over/\m.sign=l.sign:=by
 obtain⟨D,F⟩:=RU H hl j;obtain⟨_,v⟩:=IV D;obtain⟨m,f,M,n,u⟩:=CI v;have hp:E0 h:=by have:=H;unfold lA at this;simp at this;exact(GI.1 this.1.2).2
 have E:i≠gC h i:=by grind
 obtain⟨B,N⟩:=RU H f M;obtain⟨_,A⟩:=IV B;obtain⟨x,z,X,L,O⟩:=CI A;refine⟨?_,m,f,M,n,u,((hp i _ l m hl f j M n.symm E).2).symm⟩;refine Decidable.byContradiction λy=>?_;have:=(hp _ i x l z hl X j J y).1
 grind
def adC{ax:aC}{d:Nat}{f:Bool}{l:U}(j:¬2*I h<=d)(z:(d%2==0)=f)(H:v=if f then(d/2+1)%I h else d/2)(hl:h[v]?=some l):
  gU h ax d=if l.kind==2 then dx (I h) (gC h v) (f==(l.over==(l.sign==1)))
   else if dn h v==f then 2*I h+2*ax.idxOf v else 2*I h+2*((ax.idxOf v+I ax-1)%I ax)+1:=by
 subst z;unfold gU
 grind
theorem as3(ok:fY F h){d:Nat}(hd:d<2*I h+2*I (ay h)):It h (ay h) (gU h (ay h) d)=d:=by
 have kI:∀x∈ay h,x<I h/\ ∃l,h[x]?=some l/\l.aw:=λx hx=>by obtain⟨l,h1,u⟩:=qD.1 hx;exact⟨(bd.1 h1).1,l,h1,u⟩
 have Wq:∀ {p v:Nat},(ay h)[p]?=some v->(ay h).idxOf v=p:=λ{p v} hp=>by obtain⟨l,hl,R,he⟩:=uh ok.ax hp;rw[Gs ok.ax hl R,he]
 have A:∀ {v:Nat} (g:Bool),v<I h-> ¬2*I h<=dx (I h) v g:=λ{v} g H=>by have:=Gy (f:=g) H;omega
 have N:∀ {l:U},l.aw->(l.kind==2)=false:=λ{l} ab=>nv ab;have f:∀ {p v:Nat} (g:Bool),(ay h)[p]?=some v->It h (ay h) (dx (I h) v g)=if g==dn h v then 2*I h+2*p+1 else 2*I h+2*((p+I (ay h)-1)%I (ay h)):=by intro p v g hp;obtain⟨H,l,hl,R⟩:=kI v (aX hp);obtain⟨n,E⟩:=ah6 H g;unfold It;rw[ai (A g H)];simp only[n,E,hl,N R,Wq hp];rfl
 by_cases ab:2*I h<=d
 .unfold gU;rw[an ab];by_cases u:d%2=0
  .rw[an u];obtain⟨v,H⟩:=aM (cJ ((d-2*I h)/2+1) (show 0<I (ay h) by omega));have Q:(ay h).getD (((d-2*I h)/2+1)%I (ay h)) 0=v:=by rw[dz,H];rfl
   rw[Q,f _ H];have y:((!dn h v)==dn h v)=false:=by cases dn h v<;>rfl
   rw[y,vi J];simp only[gJ,if_false];omega
  rw[ai u];obtain⟨v,H⟩:=aM (h:=ay h) (k:=(d-2*I h)/2) J;have Q:(ay h).getD ((d-2*I h)/2) 0=v:=by rw[dz,H];rfl
  rw[Q,f _ H];simp only[CT,if_true];omega
 have hn:0<I h:=J;have qR:=cJ (d/2+1) hn;have O:∀(v:Nat) (j:Bool),v<I h->(d%2==0)=j->v=(if j then(d/2+1)%I h else d/2)->gn (I h) v j=d:=by
  intro v j H z D;unfold gn;cases j with
  |true=>
   have z:d%2=0:=by simpa using z
   simp only[if_true]at D |-;rw[D,vi J];omega
  |false=>
   have z:d%2≠0:=by simpa using z
   simp only[gJ,if_false]at D |-;omega
 generalize H:(if(d%2==0)=true then(d/2+1)%I h else d/2)=v;generalize z:(d%2==0)=j at H;have X:v<I h:=by rw[<-H];split<;>omega
 have B:=O v j X z H.symm;obtain⟨l,hl⟩:=aM X;rw[adC ab z H.symm hl];cases Y:(l.kind==2)with
 |true=>
  have hc:=Y;obtain⟨y,m,hm,mc,mi,mo,ms⟩:=pE ok.cr hl hc;have T:=(RU ok.cr hl hc).2;rw[an rfl];obtain⟨n,E⟩:=ah6 T (j==(l.over==(l.sign==1)));unfold It;rw[ai (A _ T)];have mk:(m.kind==2):=mc;simp only[n,E,hm,mk,if_true,y,hl];have vO:((j==(l.over==(l.sign==1)))==(l.over==(l.sign==1)))=j:=by cases j<;>cases(l.over==(l.sign==1))<;>rfl
  rw[vO];exact B
 |false=>
  have hp:=ok.Sr hl Y;have L:=Qi ok.ax hl hp;have M:=(bd.1 L).1;rw[ai aH,Gs ok.ax hl hp];cases Z:(dn h v==j)with
  |true=>
   simp only[if_true];unfold It;rw[an J,an J];have n:(2*I h+2*eC h l-2*I h)/2=eC h l:=J;have E:(ay h).getD (eC h l) 0=v:=by rw[dz,L];rfl
   rw[n,E,show dn h v=j by simpa using Z];exact B
  |false=>
   have iN:=cJ (eC h l+I (ay h)-1) J;simp only[gJ,if_false];unfold It;rw[an J,ai J];have n:(2*I h+2*((eC h l+I (ay h)-1)%I (ay h))+1-2*I h)/2=(eC h l+I (ay h)-1)%I (ay h):=J;have E:(ay h).getD (eC h l) 0=v:=by rw[dz,L];rfl
   rw[n,uE M,E,show(!dn h v)=j by revert Z;cases dn h v<;>cases j<;>simp];exact B
def alH(ok:fY F h){d e:Nat}(H:d<2*I h+2*I (ay h))(f:e<2*I h+2*I (ay h))(j:aO h d=aO h e):d=e:=by grind [as3]
def Ix(next:Nat->Nat)(u:Nat):Nat->Nat->fT->aC×fT
 |0,_,f=>([],f)
 |k+1,x,f=>if x<u then
   if f.getD x true then([],f)else(x::(Ix next u k (next x) (f.set x true)).1,(Ix next u k (next x) (f.set x true)).2)
  else(x::(Ix next u k (next x) f).1,(Ix next u k (next x) f).2)
abbrev dO(S:fT)(x:Nat):Bool:=S.getD x true
def Pn{S:fT}{y:Nat}(h:x<I S):dO (S.set x true) y=if y=x then true else dO S y:=by grind
structure za (next:Nat->Nat) (n2 N:Nat):Prop where
 le:n2<=N
 lt:∀x,x<N->next x<N
 inj:∀x y,x<N->y<N->next x=next y->x=y
 ax:∀x,x<N->n2<=x->next x<n2
def Mo(next:Nat->Nat)(N:Nat)(S:fT):Prop:=∀y,y<N->dO S y=dO S (next y)
structure Inv (next:Nat->Nat) (N d:Nat) (S:fT) (x:Nat):Prop where
 i1:∀y,y<N->dO S (next y)->dO S y\/next y=d
 i2:∀y,y<N->dO S y->dO S (next y)\/next y=x
 i4:dO S x->x=d
 pr:(x=d/\dO S x=false)\/ ∃p,p<N/\next p=x/\dO S p
def Inv.start{next:Nat->Nat}{d:Nat}{S:fT}(h:Mo next N S)(f:dO S d=false):Inv next N d S d:=
 ⟨λy H ae=>.inl (by rw[h y H];exact ae),λy H ae=>.inl (by rw[<-h y H];exact ae),λ_=>rfl,.inl ⟨rfl,f⟩⟩
def Inv.stop{next:Nat->Nat}{d:Nat}{S:fT}(m:za next u N)(h:Inv next N d S x)(n:dO S x):Mo next N S:=by
 have f:=h.i4 n;subst f;intro y j;cases z:dO S y with
 |true=>
  rcases h.i2 y j z with H|H
  .rw[H]
  rw[H,n]
 |false=>
  cases H:dO S _ with
  |false=>rfl
  |true=>
   rcases h.i1 y j H with v|v
   .grind
   rcases h.pr with _|⟨p,hp,L,D⟩
   .grind
   have:=m.inj y p j hp J
   grind
def Inv.step{next:Nat->Nat}{d:Nat}{S:fT}(m:za next u N)(hl:I S=N)(E:x<N)(h:Inv next N d S x)(n:dO S x=false):Inv next N d (S.set x true) (next x):=by
 have F:x<I S:=J;refine⟨λy f ae=>?_,λy f ae=>?_,λae=>?_,.inr ⟨x,E,rfl,by rw[Pn F,an rfl]⟩⟩
 .rw[Pn F]at ae |-;by_cases e:next y=x
  .rcases h.pr with⟨j,_⟩|⟨p,hp,L,D⟩
   .grind
   have:=m.inj y p f hp J
   grind
  rw[ai e]at ae;rcases h.i1 y f ae with H|H
  .grind
  exact .inr H
 .rw[Pn F]at ae |-;by_cases e:y=x
  .subst e;exact .inr rfl
  rw[ai e]at ae;rcases h.i2 y f ae with H|H
  .grind
  left;rw[an H]
 rw[Pn F]at ae;by_cases e:next x=x
 .rcases h.pr with⟨j,_⟩|⟨p,hp,L,D⟩
  .rw[e,j]
  have:=m.inj p x hp E J
  grind
 rw[ai e]at ae;rcases h.i1 x E ae with H|H
 .rw[n]at H;cases H
 exact H
def UZ{S:fT}(h:x<u)(hl:u<=I S):(S.take u).getD x true=dO S x:=by grind
theorem afZ{S:fT}:(S.take u).set x true=(S.set x true).take u:=by rw[<-List.take_set]
theorem adu{S:fT}(h:u<=x):(S.set x true).take u=S.take u:=by grind [List.take_set,L2]
def aAg{next:Nat->Nat}{d:Nat}(m:za next u N)(z:d<u):∀(f x:Nat) (S:fT),I S=N->x<N->Inv next N d S x->y7 S<f->
  Mo next N (gG next f x S).2/\Ix next u f x (S.take u)=((gG next f x S).1,(gG next f x S).2.take u):=by
 intro f
 induction f with
 |zero=>intro x S _ _ _ h;omega
 |succ f v=>
  intro x S hl j H D;have y:=m.le;unfold gG Ix;cases ae:S.getD x true with
  |true=>have n:=H.i4 ae;have A:x<u:=J;rw[an A,UZ A J,show dO S x=true from ae];exact⟨H.stop m ae,rfl⟩
  |false=>
   have O:S[x]?=some false:=by grind
   have E:=LK O;obtain⟨c1,B⟩:=v (next x) (S.set x true) (by grind) (m.lt x j) (H.step m hl j ae) J;refine⟨c1,?_⟩;by_cases A:x<u
   .rw[an A,UZ A J,show dO S x=false from ae]
    grind [afZ]
   grind [adu]
def fY.kI(_:fY F h):∀x∈ay h,x<I h:=λ_ H=>OD H
def fY.hp(ok:fY F h):∀v l,h[v]?=some l->(l.kind==2)=false->v∈ay h:=λ_ l H f=>qD.2 ⟨l,H,ok.Sr H f⟩
abbrev nD(ls:af):Nat:=2*I ls+2*I (ay ls)
theorem n0(ok:fY F h):za (aO h) (2*I h) (nD h):=by
 refine⟨by unfold nD;omega,λx H=>Sz ok.kI ok.hp H,λx y H m u=>alH ok H m u,λx H n=>?_⟩;have H:x<2*I h+2*I (ay h):=H;have E:∀k,k<I (ay h)->(ay h).getD k 0<I h:=λk j=>by obtain⟨v,f⟩:=aM j;rw[dz,f];exact ok.kI v (aX f)
 show gU h _ x<_;unfold gU;rw[an n];split
 .exact Gy (E _ (cJ _ J))
 exact Gy (E _ J)
theorem abU(next:Nat->Nat):∀(k x:Nat) (S:fT) (y:Nat),dO S y->dO (gG next k x S).2 y:=by
 intro k
 induction k with
 |zero=>intro x S y h;exact h
 |succ k f=>
  intro x S y h;unfold gG
  grind
theorem adO(next:Nat->Nat)(k x:Nat)(S:fT)(h:y7 S<k):dO (gG next k x S).2 x:=by
 cases k with
 |zero=>omega
 |succ k=>
  unfold gG;cases ae:S.getD x true with
  |true=>simpa using ae
  |false=>grind [abU]
section
variable {next:Nat->Nat} {u N:Nat}
def afi(h:x<N):dO (List.replicate N false) x=false:=by grind
def Ps(m:za next u N):∀k,k<=u->Mo next N (fi next N k).2/\ ∀x,x<k->dO (fi next N k).2 x:=by
 intro k
 induction k with
 |zero=>intro _;refine⟨λy H=>?_,λx h=>absurd h (nJ x)⟩;show dO (List.replicate N false) y=dO (List.replicate N false) _;rw[afi H,afi (m.lt y H)]
 |succ k f=>
  intro n;obtain⟨c,s⟩:=f J;have j:=m.le;rw[yJ];unfold u6;cases ae:(fi next N k).2.getD k true with
  |true=>grind
  |false=>
   have O:=IX (fi next N k).2;obtain _:=aAg m J ((fi next N k).2.length+1) k (fi next N k).2 (FZ next N k) J (Inv.start c ae) J
   grind [abU,adO]
def Vp(m:za next u N):∀k,u<=k->k<=N->fi next N k=fi next N u:=by
 intro k
 induction k with
 |zero=>intro h _;rw[show u=0 by omega]
 |succ k f=>
  intro j H;by_cases e:u=k+1
  .rw[e]
  rw[yJ,f J J];obtain⟨c,s⟩:=Ps m u (ct _);unfold u6;have:(fi next N u).2.getD k true:=by show dO (fi next N u).2 k=true;rw[c k J,s _ (m.ax k J J)]
  rw[this];rfl
end

abbrev kM(o:pB):dh:=o.map λp=>[PV.int .i64 (p.1:Int),PV.int .i64 (p.2:Int)]
def anf{o:pB}{k:Nat}{p:Nat×Nat}(h:o[k]?=some p):(kM o)[k]?=some [.int .i64 (p.1:Int),.int .i64 (p.2:Int)]:=by simp[h]
def oo(g r to:Nat):pB:=(g,r)::(List.range (to-g)).map λi=>(g+1+i,0)
def tK(g to:Nat):aC:=(List.range (to-g)).map λi=>g+1+i
abbrev C_:Nat:=143
def oK (h:af)(i:Nat):Nat:=match h[i]? with|some l=>l.gate.toNat|none=>0
def EY (h:af)(i:Nat):Nat:=match h[i]? with|some l=>l.ao.toNat|none=>0
def rG{i:Nat}{l:U}(H:h[i]?=some l):oK h i=l.gate.toNat:=by simp[oK,H]
def GU{i:Nat}{l:U}(H:h[i]?=some l):EY h i=l.ao.toNat:=by simp[EY,H]
def lE(F:Nat)(h:af)(j:Nat):pB:=
 let u:=(ay h).getD j 0
 let v:=(ay h).getD ((j+1)%I (ay h)) 0
 if j+1<I (ay h) then oo (oK h u) (EY h u) (oK h v)else oo (oK h u) (EY h u) F++oo 0 0 (oK h v)
def By(F:Nat)(h:af)(j:Nat):aC:=
 let u:=(ay h).getD j 0
 let v:=(ay h).getD ((j+1)%I (ay h)) 0
 if j+1<I (ay h) then tK (oK h u) (oK h v)else tK (oK h u) F++tK 0 (oK h v)
def OQ(a b:pB):kM (a++b)=kM a++kM b:=aH
def OU(a b:aC):bt (a++b)=bt a++bt b:=aH
theorem tJ(g r to:Nat):I (oo g r to)=to-g+1:=by simp[oo]
theorem Sl(g to:Nat):I (tK g to)=to-g:=by simp[tK]
def Em(ok:fY F h)(n:j<I (ay h)):∃u l,(ay h)[j]?=some u/\(ay h).getD j 0=u/\h[u]?=some l/\l.aw/\rB F h l:=by obtain⟨u,H⟩:=aM n;obtain⟨l,f,m⟩:=qD.1 (aX H);exact⟨u,l,H,by rw[dz,H];rfl,f,m,ok.ax.eO l (aX f) m⟩
structure c9 where
 gh:Bool
 cT:aC
 places:pB
 zw:aC
 outer:Bool
abbrev BC:=List c9
def c9.ps(f:c9):dF:=[.bool f.gh,.sl (bt f.cT),.sl (kM f.places),.sl (bt f.zw),.bool f.outer]
def c9.add(F:Nat)(h:af)(f:c9)(x:Nat):c9:=
 if x<2*I h then{f with cT:=f.cT++[x]}
 else{f with places:=f.places++(if x%2=0 then lE F h ((x-2*I h)/2)else(lE F h ((x-2*I h)/2)).reverse),zw:=f.zw++(if x%2=0 then By F h ((x-2*I h)/2)else(By F h ((x-2*I h)/2)).reverse),outer:=f.outer||decide ((x-2*I h)/2+1=I (ay h))}
def c9.new(h:af)(d:Nat):c9:=⟨dn h (d/2+1),[],[],[],false⟩
def CV(F:Nat)(h:af)(w:aC)(k:Nat):c9:=(w.take k).foldl (c9.add F h) (c9.new h (w.headD 0))
def kO(F:Nat)(h:af)(w:aC):c9:=w.foldl (c9.add F h) (c9.new h (w.headD 0))
def fB(F:Nat)(h:af):BC:=(fF (aO h) (nD h)).map (kO F h)
def ah8(F:Nat)(h:af)(w:aC):CV F h w (I w)=kO F h w:=by unfold CV kO;rw[jz]
def ab8{w:aC}{k:Nat}(H:w[k]?=some x):CV F h w (k+1)=(CV F h w k).add F h x:=by unfold CV;rw[jB,H,zx];rfl
def Hd(ok:fY F h)(f:j<I (ay h)):oK h ((ay h).getD j 0)<=F:=by obtain⟨u,l,_,D,hl,_,H⟩:=Em ok f;rw[D,rG hl];have:=H.g1;have:=H.g0;omega
theorem V1(ok:fY F h)(H:j<I (ay h)):I (lE F h j)<=2*F+2:=by
 have f:=Hd ok H;have m:=Hd ok (cJ (j+1) J);unfold lE
 grind [tJ]
theorem Xn(ok:fY F h)(H:j<I (ay h)):I (By F h j)<=2*F+2:=by
 have f:=Hd ok H;have m:=Hd ok (cJ (j+1) J)
 grind [By,Sl]
def agt(ok:fY F h){w:aC}(f:∀x∈w,x<nD h):∀k,k<=I w->(CV F h w k).cT.length<=k/\(CV F h w k).places.length<=k*(2*F+2)/\(CV F h w k).zw.length<=k*(2*F+2):=by
 intro k
 induction k with
 |zero=>intro _;exact⟨ct _,bN _,bN _⟩
 |succ k j=>
  intro m;obtain⟨x,H⟩:=aM (show k<I w by omega);obtain _:=j J;have B:=f x (aX H);rw[ab8 H,Nat.succ_mul];unfold c9.add;by_cases u:x<2*I h
  .grind
  rw[ai u];have n:(x-2*I h)/2<I (ay h):=by unfold nD at B;omega
  grind [V1,Xn]
def azH(next:Nat->Nat):∀(k x:Nat) (S:fT),∀y∈(gG next k x S).1,y<I S:=by
 intro k
 induction k with
 |zero=>intro x S y h;simp[gG]at h
 |succ k f=>
  intro x S y h;unfold gG at h
  grind
theorem awb(next:Nat->Nat):∀(k x:Nat) (S:fT),(gG next k x S).1.length<=y7 S:=by
 intro k
 induction k with
 |zero=>intro x S;simp[gG]
 |succ k f=>
  intro x S;unfold gG;cases ae:S.getD x true with
  |true=>simp
  |false=>grind [LK]
def aiT(next:Nat->Nat){k:Nat}{S:fT}(h:S.getD x true=false):∃t,(gG next (k+1) x S).1=x::t:=by unfold gG;rw[h];exact⟨_,rfl⟩
def ahW(next:Nat->Nat)(N:Nat):∀k,∀w∈(fi next N k).1,(∃d t,w=d::t/\d<k)/\I w<=N/\ ∀y∈w,y<N:=by
 intro k
 induction k with
 |zero=>intro w h;simp[fi]at h
 |succ k m=>
  intro w h;rw[yJ]at h;unfold u6 at h;have H:=FZ next N k;have O:w∈(fi next N k).1->(∃d t,w=d::t/\d<k+1)/\I w<=N/\ ∀y∈w,y<N:=λh=>by grind
  cases ae:(fi next N k).2.getD k true with
  |true=>grind
  |false=>
   simp only[ae,gJ,if_false,iR,nY]at h;rcases h with h|rfl
   .exact O h
   obtain⟨t,j⟩:=aiT next ae;refine⟨⟨k,t,j,J⟩,?_,λy f=>?_⟩
   .grind [awb,IX]
   have:=azH next _ _ _ y f;omega
def zn(ok:fY F h):∀w∈fF (aO h) (nD h),(∃d t,w=d::t/\d<2*I h)/\I w<=nD h/\ ∀y∈w,y<nD h:=by intro w H;unfold fF at H;rw[Vp (n0 ok) _ aH (ct _)]at H;exact ahW _ _ _ w H
abbrev Bs:Nat:=93
def aAo{a b:PV}{id g Z o l:Nat}:BA [[.p a,.hsl id g Z o l,A,z,.p b]]=none:=rfl
def azd{blk:aG}{s g j T n f v B m x Z:Nat}{a o:Bool}{h:a7}{D P G:dh}(H:blk s=(g,some (.kG y 5 [[.p (.bool a),h,A,z,.p (.bool o)]])))(gd:a8 j T n D (.one h) blk)(gp:a8 f v B P (.one A) blk)(gf:a8 m x Z G (.one z) blk):
  ∃fr,gP blk (.one (.hsl s g 5 0 1))=some ([[.bool a,.sl D,.sl P,.sl G,.bool o]],[s],fr)/\wx blk fr/\ ∀i∈fr,i=j\/i=f\/i=m:=by
 obtain⟨r1,L,F,Y⟩:=gd.Tt;obtain⟨E,u,M,q2⟩:=gp.Tt;obtain⟨R,N,O,Q⟩:=gf.Tt;refine⟨r1++(E++R),?_,F.app (M.app O),λi X=>?_⟩
 .simp[gP,H];simp[gO,L,u,N,Yj,PV.norm]
 grind
abbrev qO(l:BC):dh:=l.map c9.ps
theorem aku(F:Nat)(h:af):∀(w:aC) (f:c9),f.cT≠[]->(w.foldl (c9.add F h) f).cT≠[]:=by
 intro w
 induction w with
 |nil=>intro f H;exact H
 |cons x w j=>
  intro f H;refine j _ ?_;unfold c9.add;split
  .simp
  exact H
def aqJ{d:Nat}{t:aC}(H:d<2*I h):(kO F h (d::t)).cT≠[]:=by grind [kO,aku,c9.add]
def u5(h:af)(k:Nat):fT:=(List.range (I h)).map λi=>decide (i<k)&& !dn h (i+1)
def ae5(h:af)(k:Nat):I (u5 h k)=I h:=by simp[u5]
def aoj(h:af):u5 h 0=List.replicate (I h) false:=by
 refine nj λi=>?_;simp[u5,dy,T4]
 grind
def arw(h:af)(k:Nat):u5 h (k+1)=(u5 h k).set k (!dn h (k+1)):=by
 refine nj λi=>?_;rw[pA,ae5];simp[u5,dy];by_cases H:i<I h
 .rw[sy H];by_cases e:k=i
  .subst e;simp[H]
  simp[vp,e];congr 2
  grind
 grind
abbrev CZ(ls:af):fT:=u5 ls (I ls)
def ayC{i:Nat}(H:i<I h):(CZ h)[i]?=some (!dn h (i+1)):=by simp[u5,H]
def akV(ok:fY F h):aI S 66 [.one (.p (sR F h))] (.one (.own 4 1 (hJ (CZ h)))):=by
 have hl:=ok.hl;have T:I h<=140737488355328:=J;have R:List.replicate (I h) [PV.bool false]=hJ (u5 h 0):=by rw[aoj];simp
 refine bR ajB ?_;simp only[go_sem,Vg,T,R];refine df (λk A blk=>A 0=.one (.p (sR F h))/\A 3=.one (.hsl 4224064384 1 1 0 (I h))/\blk 4224064384=(1,some (.arr 4 1 (hJ (u5 h k))))/\
   A 4=iI (!dn h k)/\A 18=.one (.p (od h))/\A 19=aE (I h)/\A 20=aE k) 0 (I h) (bN _) ?_ ?_
 .simp only[go_sem];first|exact⟨rfl,rfl⟩|exact⟨rfl,rfl,rfl⟩|exact _|exact rfl
 rintro k A blk X ⟨B,v,x,M,N,H,z⟩
 by_cases u:k<I h
 .obtain⟨l,D⟩:=aM u;have E:=jh D;have L:((k:Int)<(I h:Int)):=J;have y:=cE (n:=k) J;have m:k<I (u5 h k):=by rw[ae5];exact u
  obtain⟨Y,O⟩:=aM m;have Q:=sW O;have f:=IZ (u5 h k) k (!dn h (k+1));rw[<-arw]at f;cases hp:(l.kind==1)with
  |true=>have j:=Dy D hp;rw[j]at f;rw[AB]at f;simp only[go_sem,J9,B,v,x,M,N,H,z,E,U.ps,u,L,y,hp,sW (Py D hp),Q,f,j]
  |false=>have j:=JJ D hp;rw[j]at f;simp only[go_sem,J9,B,v,x,M,N,H,z,E,U.ps,u,L,y,hp,Q,f,j]
 have:k=I h:=J;subst this;simp only[go_sem,J9,TW,v,H,z,ff];exact KX x (by simp[u5])
abbrev DM(id:Nat):Prop:=oY id=137
def aaW{g r k:Nat}(h:k<=T-g):(oo g r T)[k]?=some (g+k,if k=0 then r else 0):=by grind [oo]
def ar6{g k:Nat}(h:k<T-g):(tK g T)[k]?=some (g+1+k):=by
 unfold tK
 grind
def JV(g r T:Nat)(ps fs:dh)(i1 i2:Nat)(blk:aG)(v:V)(A:aG):Prop:=
 ∃c1 f j,v=.tup [.one c1,.one f]/\a8 8768320192 C_ 2 (ps++kM (oo g r T)) (.one c1) A/\a8 j 3 1 (fs++bt (tK g T)) (.one f) A/\(j=i2\/j=8768256256)/\
  dL (λid=>DM id\/id=i1\/id=i2) blk A
def PG:aC:=[8768000000,8768000064,8768128128,8768256192,8768256256,8768320128]
def SW:aC:=[8768000000,8768000064,8768128128,8768128192,8768256192,8768320128,8768320192]
def LZ{al:bU}{blk:aG}{g r t i1 i2:Nat}{ps fs:dh}{c1 c2:a7}(O:∀id,DM id->al.ok id)(o1:al.ok i1)(o2:al.ok i2)(hT:g<=T)(ht:t=if T=g then r else 0)(hb:T<=1000)(dT:I ps<=1000000)(aF:I fs<=1000000)
  (Lc:i1≠i2) (n:i1∉PG) (N:i2∉SW) (M:a8 i1 C_ 2 ps (.one c1) blk) (h2:a8 i2 3 1 fs (.one c2) blk):
  ∃v A,jG S 137 [.agg [.p (.int .i64 g),.p (.int .i64 r)],.agg [.p (.int .i64 T),.p (.int .i64 t)],.one c1,.one c2] al blk v A/\JV g r T ps fs i1 i2 blk v A:=by
 have k0:al.ok 8768000000:=O _ rfl;have m:al.ok 8768000064:=O _ rfl;have X:al.ok 8768128128:=O _ rfl;have ap:al.ok 8768128192:=O _ rfl;have OK:al.ok 8768256192:=O _ rfl;have ab:al.ok 8768256256:=O _ rfl;have y:al.ok 8768320128:=O _ rfl;have av:al.ok 8768320192:=O _ rfl;refine oX avd (jx rfl) ?_;simp only[go_sem,ac3,k0,m];have aD:=tJ g r T;have az:=Sl g T;refine df (λk F A=>F 4=.one (.bh 8768000000 ((blk 8768000000).1+1) 0)/\F 5=.one (.bh 8768000064 ((blk 8768000064).1+1) 0)/\
   A 8768000000=((blk 8768000000).1+1,some (.var [.p (.int .i64 ((g+k:Nat):Int)),.p (.int .i64 ((if k=0 then r else 0:Nat):Int))]))/\A 8768000064=((blk 8768000064).1+1,some (.var [.p (.int .i64 T),.p (.int .i64 t)]))/\
   ∃d1 Z j f,F 2=.one d1/\F 3=.one Z/\(j=i1\/j=8768128192)/\(f=i2\/f=8768256256)/\a8 j C_ 2 (ps++kM ((oo g r T).take k)) (.one d1) A/\a8 f 3 1 (fs++bt ((tK g T).take k)) (.one Z) A/\dL (λid=>DM id\/id=i1\/id=i2) blk A) 0 (T-g) (bN _) ?_ ?_
 .simp only[go_sem];refine⟨rfl,c1,c2,i1,i2,rfl,rfl,.inl rfl,.inl rfl,?_,?_,?_⟩
  .exact(M.of_eq (cF (Qq n (by simp[PG])))).of_eq (cF (Qq n (by simp[PG])))
  .exact(h2.of_eq (cF (Qq N (by simp[SW])))).of_eq (cF (Qq N (by simp[SW])))
  exact((dL.refl _ _).dN (.inl rfl) _).dN (.inl rfl) _
 rintro k F A hk ⟨h4,h5,hA,hB,d1,Z,j,f,E,e3,q1,Q,g1,g2,dE⟩
 have Y:al.ok j:=by rcases q1 with rfl|rfl<;>assumption
 have ar:al.ok f:=by rcases Q with rfl|rfl<;>assumption
 have R:∀a,a∈PG->j≠a:=λa z e=>by
  rcases q1 with rfl|rfl
  .exact n (e▸z)
  exact absurd (e▸z) aa
 have u:∀a,a∈SW->f≠a:=λa z e=>by
  rcases Q with rfl|rfl
  .exact N (e▸z)
  exact absurd (e▸z) aa
 have n3:j≠f:=λe=>by
  rcases q1 with rfl|rfl
  .rcases Q with rfl|rfl
   .exact Lc e
   exact R _ aa e
  exact u _ aa e.symm
 have D:DM j\/j=i1\/j=i2:=by
  rcases q1 with rfl|rfl
  .exact .inr (.inl rfl)
  exact .inl rfl
 have ac:DM f\/f=i1\/f=i2:=by
  rcases Q with rfl|rfl
  .exact .inr (.inr rfl)
  exact .inl rfl
 have L:I ((oo g r T).take k)=k:=by rw[jw];omega
 have P8:I ((tK g T).take k)=k:=by rw[jw];omega
 by_cases aB:k<T-g
 .have aL:(((g+k:Nat):Int)<(T:Int)):=J;have w1:IntKind.i64.wrap (((g+k:Nat):Int)+1)=((g+(k+1):Nat):Int):=cE J;have hp:kM ((oo g r T).take (k+1))=kM ((oo g r T).take k)++[[.int .i64 ((g+k:Nat):Int),.int .i64 ((if k=0 then r else 0:Nat):Int)]]:=by
   rw[jB,aaW J,OQ];rfl
  have hf:bt ((tK g T).take (k+1))=bt ((tK g T).take k)++[[.int .i64 ((g+(k+1):Nat):Int)]]:=by rw[jB,ar6 aB,OU,show g+1+k=g+(k+1) by omega];rfl
  simp only[go_sem,YA,h4,h5,hA,hB,E,aL,k0,m,X];refine Po (B:=[[.int .i64 ((g+k:Nat):Int),.int .i64 ((if k=0 then r else 0:Nat):Int)]]) (rd:=[8768128128]) (by simp[ap,Y,X]) (g1.of_eq (cF (R _ aa))) (by simp[gP,ba]) (.inl rfl) (by simp only[fU,bG,L,fG,gk];omega) λc aZ hc B=>?_;have ag:=(B 8768000000 aa (R _ aa).symm).trans ((cF aa).trans hA);have vN:=(B 8768000064 aa (R _ aa).symm).trans ((cF aa).trans hB);simp only[go_sem,h4,ag,e3,w1,k0,OK]
  refine Po (B:=[[.int .i64 ((g+(k+1):Nat):Int)]]) (rd:=[8768256192]) (by simp[ab,ar,OK]) (g2.of_eq ((cF (u _ aa)).trans ((cF (u _ aa)).trans ((B _ (u _ aa) n3.symm).trans (cF (u _ aa)))))) (by simp[gP,ba]) (.inl rfl) (by simp only[fU,bG,P8,fG,gk];omega) λc' lQ lU lT=>?_;have ad:=(lT 8768000000 aa (u _ aa).symm).trans ((cF aa).trans w_);have am:=(lT 8768000064 aa (u _ aa).symm).trans ((cF aa).trans ((cF aa).trans vN));simp only[go_sem,h4,h5,ad,am,E,e3,aB];refine⟨rfl,c,c',8768128192,8768256256,rfl,rfl,.inr rfl,.inr rfl,?_,?_,λid H=>?_⟩
  .rw[hp,<-kr];exact hc.of_eq ((lT _ aa (u _ aa).symm).trans ((cF aa).trans (cF aa)))
  .rw[hf,<-kr];exact lU
  have a:∀x,DM x->id≠x:=λx hx e=>H (.inl (e▸hx));have b1:id≠j:=λe=>H (e▸D);have b2:id≠f:=λe=>H (e▸ac);exact(lT id (a _ rfl) b2).trans ((cF (a _ rfl)).trans ((cF (a _ rfl)).trans ((B id (a _ rfl) b1).trans ((cF (a _ rfl)).trans (dE id H)))))
 have:k=T-g:=J;subst this;have aL:¬(((g+(T-g):Nat):Int)<(T:Int)):=J;simp only[go_sem,YA,agY,h4,h5,hA,hB,E,aL,k0,m,y];have Wr:kM (oo g r T)=kM ((oo g r T).take (T-g))++[[.int .i64 (T:Int),.int .i64 (t:Int)]]:=by
  have M:=jB (l:=oo g r T) (i:=T-g);rw[aaW (ct _),fL (show(oo g r T).length<=T-g+1 by omega)]at M;have e1:g+(T-g)=T:=J;have E:(if T-g=0 then r else 0)=t:=by
   rw[ht];by_cases h:T=g
   .rw[an h,an J]
   rw[ai h,ai J]
  rw[e1,E]at M;exact(congrArg (λl:pB=>kM l) M).trans (OQ _ _)
 have iS:(tK g T).take (T-g)=tK g T:=fL J;refine Po (B:=[[.int .i64 (T:Int),.int .i64 (t:Int)]]) (rd:=[8768320128]) (by simp[av,Y,y]) (g1.of_eq (cF (R _ aa))) (by simp[gP,ba]) (.inl rfl) (by simp only[fU,bG,L,fG,gk];omega) λc aZ hc B=>?_;simp only[go_sem,e3];refine⟨c,Z,f,rfl,?_,?_,Q,λid H=>?_⟩
 .rw[Wr,<-kr];exact hc
 .rw[iS]at g2;exact g2.of_eq ((B _ (u _ aa) n3.symm).trans (cF (u _ aa)))
 have a:∀x,DM x->id≠x:=λx hx e=>H (.inl (e▸hx));have b1:id≠j:=λe=>H (e▸D);exact(B id (a _ rfl) b1).trans ((cF (a _ rfl)).trans (dE id H))
def abL(ok:fY F h)(H:j<I (ay h)):∃u l,(ay h)[j]?=some u/\(ay h).getD j 0=u/\h[u]?=some l/\l.aw/\rB F h l/\eC h l=j:=by
 obtain⟨u,l,f,m,x,n,v⟩:=Em ok H;obtain _:=uh ok.ax f
 grind
def avH{f pr Q y:Nat}{p q:U}(gp:rB F h p)(B:rB F h q)(hp:eC h p=j)(H:eC h q=j+1)(z:p.gate=(f:Int))(u:p.ao=(pr:Int))(x:q.gate=(Q:Int))(m:q.ao=(y:Int)):
  f<=Q/\y-1=if Q=f then pr else 0:=by
 obtain⟨_,_,L,v⟩:=gp;obtain⟨_,_,D,A⟩:=B;unfold eC at hp H;rw[z,u]at hp;rw[x,m]at H;rw[z,u]at v;rw[m]at D;rw[x,m]at A;simp only[js]at hp H v A;have M:=lz h f;have N:=lz h Q;have n:f<=Q:=by
  rcases KZ Q f with E|E
  .have:=wO (h:=h) (show Q+1<=f by omega);omega
  exact E
 refine⟨n,?_⟩;by_cases e:Q=f
 .grind
 rw[ai e];have:=wO (h:=h) (show f+1<=Q by omega);omega
def aws{f Q:Nat}{q:U}(m:rB F h q)(j:eC h q=0)(H:q.gate=(f:Int))(n:q.ao=(Q:Int)):Q-1=0:=by grind [eC]
def amU:S.sites 137=[137]:=ah
def uO{v:dC}{blk:aG}:∀id,DM id->(iH (S.ctx .all) 137 v blk).ok id:=λid h=>Ng (by rw[amU,h];simp)
def az0(ok:fY F h)(hF:F<=1000)(hj:j<I (ay h)):
  aI S 100 [.one (.p (sR F h)),aE j] (.tup [.one (cP C_ 2 (kM (lE F h j))),.one (cP 3 1 (bt (By F h j)))]):=by
 have hl:=ok.hl;have iM:I (ay h)<=1000000:=nA (uW h (I h)) hl;have hm:=cJ (j+1) (show 0<I (ay h) by omega);obtain⟨ad,p,hu,du,hp,pp,gp,xp⟩:=abL ok hj;obtain⟨v,q,hv,dv,hq,pq,D,Z⟩:=abL ok hm;unfold lE By;simp only[du,dv,rG hp,rG hq,GU hp];have dA:=jh hp;have Ei:=jh hq;have Bf:=iY hu;have Eg:=iY hv;have e1:=ve (j+1) (I (ay h));have w1:=cE (n:=j) J;have w2:=Af (a:=I (ay h)) J J;have qR:¬((I (ay h):Int)=0):=J
 have Kn:=gp.g0;have B7:=gp.g1;have B9:=D.g0;have dd:=D.g1;have KC:=gp.r0;have j4:=gp.r1;have ng:=D.r0;have j6:=D.r1;have N:aJ h p.gate.toNat<=I h:=tH _ _;have M:aJ h q.gate.toNat<=I h:=tH _ _;obtain⟨f,E⟩:=lB (show 0<=p.gate by omega);obtain⟨pr,A⟩:=lB (show 0<=p.ao by omega);obtain⟨Q,y⟩:=lB (show 0<=q.gate by omega);obtain⟨qr,x⟩:=lB (show 0<=q.ao by omega);have wr:=Af (a:=qr) (by rw[x]at ng;omega) J;have O:S.shared 137:=ah;have FT:=λH=>avH gp D xp (H:eC h q=j+1) E A y x;have Wm:=λH=>aws D (H:eC h q=0) y x
 rw[E]at B7 j4 N Kn;rw[A]at j4 KC;rw[y]at B9 dd j6 M;rw[x]at ng j6;rw[E,A,y];simp only[js]at j4 N j6 M |-;refine bR atF ?_;by_cases aB:j+1<I (ay h)
 .have Y:(j:Int)<((I (ay h)-1:Nat):Int):=J;rw[eN aB]at Z;obtain⟨n1,u⟩:=FT Z;simp only[an aB];simp only[go_sem,RG,Bf,Eg,dA,Ei,U.ps,w1,e1,w2,wr,Y,qR,E,A,y,x,O];refine⟨aS,?_⟩;refine wN (P:=JV f pr Q [] [] 8768128192 8768256256 _) Cp (LZ (g:=f) (r:=pr) (T:=Q) (t:=qr-1) (c1:=.p .nils) (c2:=.p .nils) uO (uO _ rfl) (uO _ rfl) n1 u J (bN _) (bN _) aa aa aa a8.nil a8.nil) ?_;rintro v ak ⟨c1,m,X,rfl,g1,z,L,dE⟩
  have L:X=8768256256:=by rcases L with H|H<;>exact H
  subst L;simp only[go_sem];exact PU aa g1 z
 have Y:¬(j:Int)<((I (ay h)-1:Nat):Int):=J;have HK:(j+1)%I (ay h)=0:=by rw[show j+1=I (ay h) by omega,vv]
 rw[HK]at Z;have u:=Wm Z;simp only[ai aB];have Wr:∃t:Nat,t=(if F=f then pr else 0):=⟨_,rfl⟩;obtain⟨t,B⟩:=Wr;have fin:∀(aj:bj) (blk:aG) (c1 m:a7),True:=λ_ _ _ _=>trivial;have ab:(((f:Int)==(F:Int))/\t=pr/\F=f)\/(((f:Int)==(F:Int))=false/\t=0):=by
  by_cases H:F=f
  .subst H;rw[an rfl]at B;exact .inl ⟨aH,B,rfl⟩
  rw[ai H]at B;exact .inr ⟨by simp;omega,B⟩
 rcases ab with⟨hb,KI,ac⟩|⟨hb,KI⟩
 case' _=>
  subst ac;simp only[go_sem,RG,Bf,Eg,dA,Ei,U.ps,w1,e1,w2,wr,Y,qR,E,A,y,x,O,hb];refine⟨aS,?_⟩;refine⟨aS,?_⟩;refine wN (P:=JV F pr F [] [] 8768128192 8768256256 _) Cp (LZ (g:=F) (r:=pr) (T:=F) (t:=pr) (c1:=.p .nils) (c2:=.p .nils) uO (uO _ rfl) (uO _ rfl) J (by rw[an rfl]) J (bN _) (bN _) aa aa aa a8.nil a8.nil) ?_;rintro v cK ⟨c1,m,X,rfl,g1,z,L,dE⟩
  have L:X=8768256256:=by rcases L with H|H<;>exact H
  subst L;rw[fz]at g1 z;have R:=dE 6400256384 aa;simp only[go_sem]at R;simp only[go_sem,R,O];refine wN (P:=JV 0 0 Q (kM (oo F pr F)) (bt (tK F F)) 8768320192 8768256256 _) Cp (LZ (g:=0) (r:=0) (T:=Q) (t:=qr-1) (c1:=c1) (c2:=m) uO (uO _ rfl) (uO _ rfl) (bN _) (by rw[u];split<;>rfl) J (by simp only[bG,tJ];omega) (by simp only[bG,Sl];omega) aa aa aa g1 z) ?_
 rotate_left
 case' _=>
  simp only[go_sem,RG,Bf,Eg,dA,Ei,U.ps,w1,e1,w2,wr,Y,qR,E,A,y,x,O,hb];refine⟨aS,?_⟩;refine⟨aS,?_⟩;refine wN (P:=JV f pr F [] [] 8768128192 8768256256 _) Cp (LZ (g:=f) (r:=pr) (T:=F) (t:=0) (c1:=.p .nils) (c2:=.p .nils) uO (uO _ rfl) (uO _ rfl) J (by rw[KI]at B;exact B) J (bN _) (bN _) aa aa aa a8.nil a8.nil) ?_;rintro v cK ⟨c1,m,X,rfl,g1,z,L,dE⟩
  have L:X=8768256256:=by rcases L with H|H<;>exact H
  subst L;rw[fz]at g1 z;have R:=dE 6400256384 aa;simp only[go_sem]at R;simp only[go_sem,R,O];refine wN (P:=JV 0 0 Q (kM (oo f pr F)) (bt (tK f F)) 8768320192 8768256256 _) Cp (LZ (g:=0) (r:=0) (T:=Q) (t:=qr-1) (c1:=c1) (c2:=m) uO (uO _ rfl) (uO _ rfl) (bN _) (by rw[u];split<;>rfl) J (by simp only[bG,tJ];omega) (by simp only[bG,Sl];omega) aa aa aa g1 z) ?_
 all_goals
  rintro v aZ ⟨d1,d2,j3,rfl,k1,k2,FM,_⟩
  have FM:j3=8768256256:=by rcases FM with H|H<;>exact H
  subst FM;simp only[go_sem];rw[OQ,OU];exact PU aa k1 k2
def adS{e:dF}(h:I e=1):∃x,e=[x]:=by
 match e,h with
 |[a],_=>exact⟨a,rfl⟩
def ahn{e:dF}(h:I e=2):∃x X,e=[x,X]:=by
 match e,h with
 |[a,b],_=>exact⟨a,b,rfl⟩
def aga{e:dF}(h:I e=7):∃x j n m x4 u X,e=[x,j,n,m,x4,u,X]:=by
 match e,h with
 |[a,b,c,d,f,g,i],_=>exact⟨a,b,c,d,f,g,i,rfl⟩
structure wB (es fs:dh) (k:Nat):Prop where
 len:I fs=I es
 at':∀i,i<I es->fs[i]?=if i<k\/I es-1-i<k then es[I es-1-i]? else es[i]?
def wB.start(m:dh):wB m m 0:=⟨rfl,λi _=>by rw[ai J]⟩
def wB.step{fs:dh}{k:Nat}{a b:dF}(h:wB m fs k)(v:k<I m-1-k)(f:m[k]?=some a)(n:m[I m-1-k]?=some b):
  fs[k]?=some a/\fs[I m-1-k]?=some b/\wB m ((fs.set k b).set (I m-1-k) a) (k+1):=by
 have H:=h.len;refine⟨?_,?_,⟨by rw[q_,q_];exact H,λi u=>?_⟩⟩
 .rw[h.at' k J,ai J,f]
 .rw[h.at' _ J,ai J,n]
 rw[pA,q_];by_cases E:I m-1-k=i
 .grind
 rw[ai E,pA];by_cases j:k=i
 .grind
 rw[ai j,h.at' i u]
 grind
def wB.done{fs:dh}{k:Nat}(h:wB m fs k)(f:¬k<I m-1-k):fs=m.reverse:=by
 refine nj λi=>?_;rcases KZ i (I m) with H|H
 .rw[h.at' i H,Gb H]
  grind
 rw[kQ (by rw[h.len];exact H),kQ (by grind)]
def JW(id y z:Nat)(m:dh)(c:a7)(blk:aG)(v:V)(A:aG):Prop:=v=.tup []/\a8 id y z m.reverse (.one c) A/\dL (· =id) blk A
def aAb{al:bU}{blk:aG}{id:Nat}{c:a7}(o:m=[]\/al.ok id)(hl:I m<=1000000)(M:∀e∈m,I e=1/\ ∀v∈e,v.norm=v)(h:a8 id y 1 m (.one c) blk):
  ∃v A,jG S 102 [.one c] al blk v A/\JW id y 1 m c blk v A:=by
 refine oX aqY (jx rfl) ?_;rcases h with⟨rfl,H⟩|⟨F,g,H,O⟩
 .cases H;have w0:IntKind.i64.wrap (((0:Nat):Int)-1)= -1:=aa;have hz:¬((0:Int)< -1):=aa;simp only[go_sem,T3,w0];refine df (λk f A=>k=0/\f 2=aE 0/\f 3=aE (-1)/\A=blk) 0 0 (ct _) ?_ ?_
  .simp only[go_sem]
  rintro k f A _ ⟨rfl,H,j,rfl⟩
  simp only[go_sem,Sk,H,j,hz];exact⟨rfl,.inl ⟨rfl,rfl⟩,λ_ _=>rfl⟩
 cases H;have o:=o.resolve_left F;simp only[go_sem,T3,vB (a:=I m) J];refine df (λk f A=>f 0=.one (.hsl id g 1 0 (I m))/\f 2=aE k/\f 3=aE ((I m:Int)-1-(k:Int))/\ ∃fs,A id=(g,some (.arr y 1 fs))/\wB m fs k/\dL (· =id) blk A) 0 (I m) (bN _) ?_ ?_
 .simp only[go_sem];refine⟨rfl,aH,m,O,wB.start m,dL.refl _ _⟩
 rintro k f A hk ⟨Q,H,j,fs,x,z,D⟩
 by_cases E:k<I m-1-k
 .have e1:((I m:Int)-1-(k:Int))=((I m-1-k:Nat):Int):=J;rw[e1]at j;have u:((k:Int)<((I m-1-k:Nat):Int)):=J;have N:=cE (n:=k) J;have w2:IntKind.i64.wrap (((I m-1-k:Nat):Int)-1)=((I m:Int)-1-((k+1:Nat):Int)):=by
   rw[vB J];omega
  obtain⟨a,L⟩:=aM (show k<I m by omega);obtain⟨b,B⟩:=aM (show I m-1-k<I m by omega);obtain⟨Z,fb,Y⟩:=z.step E L B;obtain⟨la,na⟩:=M a (aX L);obtain⟨lb,R⟩:=M b (aX B);obtain⟨X,rfl⟩:=adS la;obtain⟨y0,rfl⟩:=adS lb;have Oc:=na X aH;have T:=R y0 aH;have qM:=z.len;have HL:¬(k=I m-1-k):=J;have l1:k<I fs:=J;have l2:I m-1-k<I fs:=J;have l3:k<I m:=J;have l4:I m-1-k<I m:=J;simp only[go_sem,Sk,Q,H,j,x,u,Z,fb,N,w2,o,l1,l3,HL,by omega,Oc,T,pA];refine⟨aS,_,rfl,Y,?_⟩;exact(D.dN rfl _).dN rfl _
 have u:¬((k:Int)<(I m:Int)-1-(k:Int)):=J;simp only[go_sem,Sk,H,j,u];refine⟨rfl,?_,D⟩;rw[z.done E]at x;exact .inr ⟨by simpa using F,g,by rw[qB],x⟩
def aze{al:bU}{blk:aG}{id:Nat}{c:a7}(o:m=[]\/al.ok id)(hl:I m<=1000000)(O:∀e∈m,I e=2/\ ∀v∈e,v.norm=v)(h:a8 id y 2 m (.one c) blk):
  ∃v A,jG S 101 [.one c] al blk v A/\JW id y 2 m c blk v A:=by
 refine oX amX (jx rfl) ?_;rcases h with⟨rfl,H⟩|⟨L,g,H,R⟩
 .cases H;have w0:IntKind.i64.wrap (((0:Nat):Int)-1)= -1:=aa;have hz:¬((0:Int)< -1):=aa;simp only[go_sem,Tp,w0];refine df (λk f A=>k=0/\f 2=aE 0/\f 3=aE (-1)/\A=blk) 0 0 (ct _) ?_ ?_
  .simp only[go_sem]
  rintro k f A _ ⟨rfl,H,j,rfl⟩
  simp only[go_sem,Qy,H,j,hz];exact⟨rfl,.inl ⟨rfl,rfl⟩,λ_ _=>rfl⟩
 cases H;have o:=o.resolve_left L;simp only[go_sem,Tp,vB (a:=I m) J];refine df (λk f A=>f 0=.one (.hsl id g 2 0 (I m))/\f 2=aE k/\f 3=aE ((I m:Int)-1-(k:Int))/\ ∃fs,A id=(g,some (.arr y 2 fs))/\wB m fs k/\dL (· =id) blk A) 0 (I m) (bN _) ?_ ?_
 .simp only[go_sem];refine⟨rfl,aH,m,R,wB.start m,dL.refl _ _⟩
 rintro k f A hk ⟨T,H,j,fs,x,z,D⟩
 by_cases E:k<I m-1-k
 .have e1:((I m:Int)-1-(k:Int))=((I m-1-k:Nat):Int):=J;rw[e1]at j;have u:((k:Int)<((I m-1-k:Nat):Int)):=J;have Q:=cE (n:=k) J;have w2:IntKind.i64.wrap (((I m-1-k:Nat):Int)-1)=((I m:Int)-1-((k+1:Nat):Int)):=by
   rw[vB J];omega
  obtain⟨a,M⟩:=aM (show k<I m by omega);obtain⟨b,B⟩:=aM (show I m-1-k<I m by omega);obtain⟨fa,fb,Y⟩:=z.step E M B;obtain⟨la,F⟩:=O a (aX M);obtain⟨lb,N⟩:=O b (aX B);obtain⟨X,x1,rfl⟩:=ahn la;obtain⟨y0,Z,rfl⟩:=ahn lb;have Oc:=F X aH;have WC:=F x1 aH;have Od:=N y0 aH;have WD:=N Z aH;have qM:=z.len;have HL:¬(k=I m-1-k):=J;have l1:k<I fs:=J;have l2:I m-1-k<I fs:=J;have l3:k<I m:=J;have l4:I m-1-k<I m:=J;simp only[go_sem,Qy,T,H,j,x,u,fa,fb,Q,w2,o,l1,l3,HL,by omega,Oc,WC,Od,WD,pA];refine⟨aS,_,rfl,Y,?_⟩;exact(D.dN rfl _).dN rfl _
 have u:¬((k:Int)<(I m:Int)-1-(k:Int)):=J;simp only[go_sem,Qy,H,j,u];refine⟨rfl,?_,D⟩;rw[z.done E]at x;exact .inr ⟨by simpa using L,g,by rw[qB],x⟩
end
end Go.Abs
