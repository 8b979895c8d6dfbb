/- A part. -/
import Derived.Test.YtenindeoffokoaaGreatDoorWg
set_option linter.all false
open List renaming length->I
set_option maxRecDepth 100000
set_option maxHeartbeats 16000000
namespace Go.Abs
variable{z B:fM}{x j y n:Nat}{H A:Int}
section
variable{v E:Nat}{f:dL}{u:Int}{D:aG}{m:fM}
def sH(x y:dJ):Bool:=decide (x.b<y.b)||(decide (x.b=y.b)&&decide (x.c<y.c))
def EL(m:dJ):Prop:=(0<=m.b/\m.b<=1000000)/\0<=m.c/\m.c<=1000000
def WX:U7 sH:=⟨λa b h=>by unfold sH at*;simp at*;omega,λa b c h k=>by unfold sH at*;simp at*;omega⟩
def atu(x y:dJ)(j:EL x)(H:EL y):∃n:Int,aL S 132 [Cl x,Cl y] (jr n)/\(decide (n<0)=sH x y):=by
 obtain⟨⟨z,u⟩,X,x4⟩:=j;obtain⟨⟨A,B⟩,v,Y⟩:=H;have f:IntKind.i64.wrap (x.b-y.b)=x.b-y.b:=nj J J;have m:IntKind.i64.wrap (x.c-y.c)=x.c-y.c:=nj J J;cases h:(x.b==y.b)with
 |true=>
  have e:x.b=y.b:=eq_of_beq h;refine⟨x.c-y.c,?_,?_⟩
  .refine cG adv ?_;simp only[go_sem,aa4,bne,h,m,ai,aB]
  unfold sH;rw[KG];simp;omega
 |false=>
  have e:¬x.b=y.b:=by simpa using h
  refine⟨x.b-y.b,?_,?_⟩
  .refine cG adv ?_;simp only[go_sem,aa4,bne,h,f,ai,aB]
  unfold sH;rw[KG];simp;omega
abbrev cO(o:fM):dI:=o.map dJ.ps
def agi(o:fM)(k:Nat)(v:dJ):(cO o).set k v.ps=cO (o.set k v):=by simp[Ew]
def oI(o:fM):I (cO o)=I o:=cg _
def J8(id g E:Nat)(z:fM)(blk:aJ)(v:V)(A:aJ):Prop:=v=.tup []/\(∃f:fM,A id=(g,some (.arr E 7 (cO f)))/\f.Perm z/\xx sH f 0 (I f))/\d_ (· =id) blk A
abbrev EC:V:=.one (.p (.fn 132 [] []))
def ark{al:cF}{blk:aJ}{id g:Nat}(o:al.ok id)(hl:I z<=1000000)(B:∀m∈z,EL m)(hC:blk id=(g,some (.arr E 7 (cO z)))):
  ∃v u,jQ S 184 [.one (.hsl id g 7 0 (I z)),aI 0,aI (I z),EC] al blk v u/\J8 id g E z blk v u:=by
 have D:S.shared 132=false:=ah;refine oZ ahB (ju rfl) ?_;have w0:IntKind.i64.wrap (0+1)=((0+1:Nat):Int):=aa;simp only[go_sem,Xr,w0,ai,aB];refine dt (λk A u=>A 0=.one (.hsl id g 7 0 (I z))/\A 1=aI 0/\A 2=aI (I z)/\A 3=EC/\A 8=aI ((k+1:Nat):Int)/\ ∃zs:fM,u id=(g,some (.arr E 7 (cO zs)))/\zs.Perm z/\xx sH zs 0 (k+1)/\d_ (· =id) blk u) 0 (I z) (bZ _) ?_ ?_
 .simp only[go_sem];exact⟨rfl,z,hC,.refl _,λp q x y _ M F=>J,d_.refl _ _⟩
 rintro k A de hk ⟨Z,M,F,T,h6,zs,hZ,hp,ae,dN⟩
 have l9:=hp.length_eq;by_cases aw:k+1<I z
 .have R:((k+1:Nat):Int)<(I z:Int):=J;obtain⟨x,hx⟩:=aP (h:=zs) (k:=k+1) J;have sx:EL x:=B x (hp.mem_iff.1 (a7 hx));simp only[go_sem,Td,Z,M,F,T,h6,R,ai,aB];refine dt (λq A u=>A 0=.one (.hsl id g 7 0 (I z))/\A 1=aI 0/\A 2=aI (I z)/\A 3=EC/\A 8=aI ((k+1:Nat):Int)/\A 9=aI ((k+1-q:Nat):Int)/\ ∃f:fM,u id=(g,some (.arr E 7 (cO f)))/\A6 sH zs f x 0 (k+1) (k+1-q)/\d_ (· =id) blk u) 0 (k+1) (bZ _) ?_ ?_
  .simp only[go_sem,Z,M,F,T,h6];exact⟨zs,hZ,A6.start (bZ _) hx ae,dN⟩
  rintro q dM bK hq ⟨k0,k1,k2,k3,k6,k7,f,hW,H,X⟩
  have tM:I f=I z:=H.perm.length_eq.trans l9;have wk:IntKind.i64.wrap (((k+1:Nat):Int)+1)=((k+1+1:Nat):Int):=cS (n:=k+1) J;by_cases Hr:k+1-q=0
  .have L:¬((0:Int)<((k+1-q:Nat):Int)):=J;simp only[go_sem,RL,Tn,k0,k1,k2,k3,k6,k7,L,wk,ai,aB];refine⟨aS,J,f,hW,H.perm.trans hp,H.stop WX (.inl Hr),X⟩
  obtain⟨j,hj⟩:∃j,k+1-q=j+1:=⟨k-q,J⟩;have L:((0:Int)<((j+1:Nat):Int)):=J;obtain⟨y,O⟩:=aP (h:=f) (k:=j) J;have sy:EL y:=B y ((H.perm.trans hp).mem_iff.1 (a7 O));rw[hj]at H k7;have wj:IntKind.i64.wrap (((j+1:Nat):Int)-1)=(j:Int):=by rw[uA J];omega
  have qX:=DG H.at';have zy:=DG O;have j1:j+1<I z:=by have:=H.le;omega
  have j2:j<I z:=J;obtain⟨n,pl,Q⟩:=atu x y sx sy;cases N:sH x y with
  |false=>
   rw[N]at Q;have Y:¬(n<0):=by simpa using Q
   simp only[go_sem,RL,Tn,k0,k1,k2,k3,k6,k7,L,wk,wj,hW,qX,zy,dJ.ps,j1,j2,o,D,U1 pl,Y,ai,aB];refine⟨aS,J,f,rfl,H.perm.trans hp,H.stop WX (.inr ⟨y,J,O,N⟩),X⟩
  |true=>
   rw[N]at Q;have Y:n<0:=by simpa using Q
   have xZ:=H.step WX (bZ _) O N;have ab:¬(j+1=j):=J;have l1:j+1<I f:=J;have l2:j<I f:=J;simp only[go_sem,RL,Tn,k0,k1,k2,k3,k6,k7,L,wk,wj,hW,qX,zy,dJ.ps,j1,j2,l1,l2,ab,o,D,U1 pl,Y,pJ,j7,oI,ai,aB];have CH:k+1-(q+1)=j:=J;refine⟨aS,aS,J,by rw[CH],(f.set (j+1) y).set j x,by rw[<-agi,<-agi];rfl,by rw[CH];exact xZ,(X.dV rfl _).dV rfl _⟩
 have R:¬(((k+1:Nat):Int)<(I z:Int)):=J;simp only[go_sem,Td,Z,M,F,T,h6,R,ai,aB];exact⟨rfl,⟨zs,hZ,hp,ae.mono (.inl J)⟩,dN⟩
def aw3{al:cF}{blk:aJ}{id g:Nat}(o:al.ok id)(F:al.fs.contains 184)(hl:I z<=12)(h:∀m∈z,EL m)(H:blk id=(g,some (.arr E 7 (cO z))))(L:Int):
  ∃v A,jQ S 163 [.one (.hsl id g 7 0 (I z)),aI 0,aI (I z),aI L,EC] al blk v A/\J8 id g E z blk v A:=by
 refine oZ afO (ju rfl) ?_;have j:IntKind.i64.wrap ((I z:Int)-0)=(I z:Int):=by rw[Int.sub_zero];exact nj J J
 have n:(I z:Int)<=12:=J;simp only[go_sem,Y3,ai,aB];refine og ?_;simp only[go_sem,W2,j,n,agM,ai,aB];refine zG H (by rfl) (.inr ⟨o,by rw[show S.sites 184=[184] by kernel_rfl];simp only[wE,zO,F,zK]⟩) (P:=J8 id g E z blk) (λQ x _=>ark x J h H) λv A u=>?_;obtain⟨rfl,f⟩:=u;simp only[go_sem,ai,aB];exact⟨rfl,f⟩
def ard{al:cF}{blk:aJ}{id g:Nat}(o:al.ok id)(F:(S.sites 163).all al.fs.contains)(hl:I z<=12)(H:∀m∈z,EL m)(j:blk id=(g,some (.arr E 7 (cO z)))):
  ∃v A,jQ S 131 [.one (.hsl id g 7 0 (I z)),EC] al blk v A/\J8 id g E z blk v A:=by
 obtain⟨k,pb⟩:=aaB (I z) J;have u:IntKind.u64.wrap (I z:Int)=(I z:Int):=by
  have e:IntKind.u64.wrap (I z:Int)=(I z:Int)%18446744073709551616:=by unfold IntKind.wrap;rfl
  rw[e];omega
 refine oZ aeO (ju rfl) ?_;have f:S.shared 129=false:=ah;simp only[go_sem,ab4,u,f,Y_ pb,amR,ai,aB];refine zG j (by rfl) (.inr ⟨o,F⟩) (P:=J8 id g E z blk) (λQ x h=>aw3 x (by rw[h];kernel_rfl) hl H j k) λv A n=>?_;obtain⟨rfl,h⟩:=n;simp only[go_sem,ai,aB];exact⟨rfl,h⟩
def at0(o:cL)(x:Int)(hl:I o<=1000000):aL S 139 [.one (.p (.sl (fJ o))),aI x] (jr (match (List.range (I o)).find? (qk o x)with|some k=>(k:Int)|none=> -1)):=by
 refine cG aAt ?_;simp only[go_sem,amv,ai,aB];refine dt (λk A blk=>A 0=.one (.p (.sl (fJ o)))/\A 1=aI x/\A 7=aI (I o)/\A 8=aI k/\ ∀j,j<k->qk o x j=false) 0 (I o) (bZ _) ?_ ?_
 .simp only[go_sem];exact⟨rfl,λj B=>absurd B (o6 j)⟩
 rintro k A blk Q ⟨u,L,D,m,v⟩
 by_cases f:k<I o
 .have F:((k:Int)<(I o:Int)):=J;obtain⟨y,E⟩:=aP f;have M:=yM E;have N:=cS (n:=k) J;have O:qk o x k=(y==x):=by simp[qk,E]
  cases H:(y==x)with
  |true=>
   have z:(x==y):=by have:=c8.1 H;simp[this]
   rw[H]at O;have hf:=AB (p:=qk o x) f v O;simp only[go_sem,RR,u,L,D,m,f,F,M,H,z,hf,ai,aB]
  |false=>
   have z:(x==y)=false:=by
    have:¬y=x:=by simpa using H
    simp;exactλh=>this h.symm
   rw[H]at O;have Y:∀j,j<k+1->qk o x j=false:=λj B=>by
    rcases rH.1 B with h|rfl
    .exact v j h
    exact O
   simp only[go_sem,RR,u,L,D,m,f,F,M,H,z,N,ai,aB];exact Y
 have:k=I o:=J;subst this;have hf:=Fa (p:=qk o x) v;simp only[go_sem,RR,ah5,u,D,m,fF,hf,ai,aB]
def anb(o:cL)(x:Int)(hl:I o<=1000000):aL S 101 [.one (.p (.sl (fJ o))),aI x] (fv (o.contains x)):=by
 have f:=at0 o x hl;refine cG ap7 ?_;cases n:o.contains x with
 |true=>
  have m:x∈o:=by simpa using n
  obtain⟨k,u⟩:=fK m;have F:=(bt.1 u).1;cases hf:(List.range (I o)).find? (qk o x)with
  |none=>have:=B6.1 hf k (gA.2 F);simp[qk,u]at this
  |some j=>rw[hf]at f;have M:(0:Int)<=(j:Int):=J;simp only[go_sem,Wc,ajf,gr f,M,ai,aB]
 |false=>
  have m:x∉o:=by simpa using n
  cases hf:(List.range (I o)).find? (qk o x)with
  |some j=>
   have h:=AW hf;unfold qk at h;cases H:o[j]? with
   |none=>rw[H]at h;cases h
   |some y=>
    rw[H]at h;have:y=x:=by simpa using h
    subst this;exact absurd (a7 H) m
  |none=>rw[hf]at f;have M:¬(0:Int)<= -1:=aa;simp only[go_sem,Wc,ajf,gr f,M,ai,aB]
def Iv(a b:dJ):Bool:=(a.k==b.k)&&((a.a==b.a)&&((a.b==b.b)&&((a.c==b.c)&&((a.l==b.l)&&((a.o==b.o)&&(a.s==b.s))))))
def asO(x y:dJ):oU [true,true,true,true,false,false,true] [.p (.int .i64 x.k),.p (.int .i64 x.a),.p (.int .i64 x.b),.p (.int .i64 x.c),.p (.bool x.l),.p (.bool x.o),.p (.int .i64 x.s)] [.p (.int .i64 y.k),.p (.int .i64 y.a),.p (.int .i64 y.b),.p (.int .i64 y.c),.p (.bool y.l),.p (.bool y.o),.p (.int .i64 y.s)]=some (Iv x y):=by
 have e:∀a b:Int,pg true (.int .i64 a) (.int .i64 b)=some (a==b):=λa b=>by simp[pg]
 have E:∀a b:Bool,pg false (.bool a) (.bool b)=some (a==b):=λa b=>by simp[pg]
 simp only[oU,Iv,e,E];cases(x.k==y.k)<;>cases(x.a==y.a)<;>cases(x.b==y.b)<;>cases(x.c==y.c)<;>cases(x.l==y.l)<;>cases(x.o==y.o)<;>cases(x.s==y.s)<;>rfl
def awU{a b:dJ}(h:Iv a b):a=b:=by cases a;cases b;unfold Iv at h;simp only[cP,c8]at h;obtain⟨m,f,v,j,u,H,n⟩:=h;subst m f v j u H n;rfl
def azf(a:dJ):Iv a a:=by unfold Iv;simp
def axp(m:fM)(x:dJ)(O:I m<=1000000):∃i:Int,((0<=i->x∈m)/\(i<0->x∉m))/\aL S 162 [.one (.p (.sl (cO m))),Cl x] (jr i):=by
 have:∃r,(∃i:Int,((0<=i->x∈m)/\(i<0->x∉m))/\r=jr i)/\aL S 162 [.one (.p (.sl (cO m))),Cl x] r:=by
  refine AQ rfl awV (ju rfl) ?_;simp only[go_sem,ahF,ai,aB];refine dt (λk A blk=>A 0=.one (.p (.sl (cO m)))/\A 3=.one (.bR 10368000000 1 0)/\blk 10368000000=(1,some (.var [.p (.int .i64 x.k),.p (.int .i64 x.a),.p (.int .i64 x.b),.p (.int .i64 x.c),.p (.bool x.l),.p (.bool x.o),.p (.int .i64 x.s)]))/\A 7=aI (I m)/\A 8=aI k/\x∉m.take k) 0 (I m) (bZ _) ?_ ?_
  .simp only[go_sem];simp
  rintro k A blk Q ⟨u,E,L,z,j,Y⟩
  by_cases v:k<I m
  .have F:((k:Int)<(I m:Int)):=J;obtain⟨N,y⟩:=aP v;have D:=DG y;have B:=cS (n:=k) J;have f:=asO x N;cases H:Iv x N with
   |true=>rw[H]at f;simp only[go_sem,S5,u,E,L,z,j,v,F,D,dJ.ps,B,f,ai,aB];exact⟨aS,_,⟨_,⟨λ_=>(awU H)▸a7 y,λh=>J⟩,rfl⟩,rfl⟩
   |false=>
    rw[H]at f;simp only[go_sem,S5,u,E,L,z,j,v,F,D,dJ.ps,B,f,ai,aB];refine⟨aS,λh=>?_⟩;rw[k_,y]at h;rcases gn.1 h with h|h
    .exact Y h
    simp only[Option.toList_some,mj]at h;rw[h,azf]at H;cases H
  have:k=I m:=J;subst this;simp only[go_sem,S5,agp,u,z,j,fF,ai,aB];exact⟨_,⟨_,⟨λh=>absurd h aa,λ_=>by rwa[jZ]at Y⟩,rfl⟩,rfl⟩
 obtain⟨_,⟨i,M,rfl⟩,h⟩:=this;exact⟨i,M,h⟩
def afl(m:fM)(x:dJ)(f:I m<=1000000):∃b,((b=true->x∈m)/\(b=false->x∉m))/\aL S 130 [.one (.p (.sl (cO m))),Cl x] (fv b):=by obtain⟨i,H,j⟩:=axp m x f;refine⟨decide (0<=i),⟨λh=>H.1 (Dp h),λh=>H.2 (by have:=xP h;omega)⟩,?_⟩;refine cG ayf ?_;simp only[go_sem,aem,atk,gr j,ai,aB]
def ath{S:gD}(h:dU S x=false):x<I S:=by grind
def ae9(next:Nat->Nat):∀(k x:Nat) (S:gD),(∀y∈(hJ next k x S).1,dU S y=false)/\(hJ next k x S).1.Nodup/\ ∀y,dU (hJ next k x S).2 y=(dU S y||decide (y∈(hJ next k x S).1)):=by
 intro k
 induction k with
 |zero=>intro x S;simp[hJ]
 |succ k f=>
  intro x S;unfold hJ
  grind
def ape(next:Nat->Nat)(N:Nat):∀k,(ft next N k).1.flatten.Nodup/\(∀y,y<N->dU (ft next N k).2 y=decide (y∈(ft next N k).1.flatten))/\(∀y∈(ft next N k).1.flatten,y<N)/\ ∀x,x<k->x<N->dU (ft next N k).2 x:=by
 intro k
 induction k with
 |zero=>
  refine⟨by simp[ft],λy H=>?_,by simp[ft],λx f=>absurd f (o6 x)⟩
  grind [ft]
 |succ k B=>
  obtain⟨F,v,E,z⟩:=B;rw[Ad];unfold xl;have j:=Ie next N k;cases A:(ft next N k).2.getD k true with
  |true=>grind
  |false=>
   rw[aC aa];have u:k<N:=by have:=ath A;omega
   obtain⟨g1,D,m⟩:=ae9 next ((ft next N k).2.length+1) k (ft next N k).2;have Y:=ahf next ((ft next N k).2.length+1) k (ft next N k).2 (by have:=J0 (ft next N k).2;omega);refine⟨?_,λy H=>?_,?_,λx f n=>?_⟩
   .grind
   .rw[m,v y H,G_,KG];simp
   .intro y H;rw[G_,gn]at H
    grind
   rcases rH.1 f with h|rfl
   .rw[m,z x h n];rfl
   exact Y
theorem Bd(next:Nat->Nat)(N:Nat):(gW next N).flatten.Nodup/\ ∀y,y<N->y∈(gW next N).flatten:=by obtain⟨f,H,_,j⟩:=ape next N N;refine⟨f,λy h=>?_⟩;have:=j y h h;rw[H y h]at this;exact Dp this
def XB{L:List aG}(h:L.flatten.Nodup){i:Nat}{a b:aG}(H:L[i]?=some a)(f:L[j]?=some b)(m:x∈a)(u:x∈b):i=j:=by
 induction L generalizing i j with
 |nil=>simp at H
 |cons l L n=>grind [DS]
section
variable {F:Nat} {h:af}
def Tf(H:(fZ F h)[j]?=some f):∃w,(gW (aU h) (aT h))[j]?=some w/\f=kY F h w:=by
 unfold fZ at H
 grind
def alq{i:Nat}{a b:dL}{d:Nat}(x:(fZ F h)[i]?=some a)(n:(fZ F h)[j]?=some b)(H:d∈a.di)(f:d∈b.di):i=j:=by obtain⟨v,u,rfl⟩:=Tf x;obtain⟨w,m,rfl⟩:=Tf n;rw[zM]at H f;exact XB (Bd _ _).1 u m (r4.1 H).1 (r4.1 f).1
def akB(j:f∈fZ F h):f.di.Nodup:=by
 obtain⟨w,H,rfl⟩:=ch.1 j;rw[zM];have:=(Bd (aU h) (aT h)).1
 grind
def api{d:Nat}(n:d<2*I h):∃(j:Nat) (f:dL),(fZ F h)[j]?=some f/\d∈f.di:=by
 have:=(Bd (aU h) (aT h)).2 d (by grind);obtain⟨w,H,u⟩:=DS.1 this;obtain⟨j,m⟩:=fK H;refine⟨j,kY F h w,by unfold fZ;rw[fz,m];rfl,?_⟩;rw[zM]
 grind
theorem aje{D:aG}{v:Nat}{d:Nat}:∀ {L:aG},d<I L->(sA L D v)[d]?=if d∈D then some v else L[d]? :=by
 induction D with
 |nil=>intro L _;simp[sA]
 |cons e D f=>
  intro L h;show(sA _ D v)[d]?=_;rw[f (by grind),pJ]
  grind
def awI{d:Nat}:∀ {fs:D1}{j:Nat}{L:aG},d<I L->(∀f∈fs,d∉f.di)->(rI fs j L)[d]?=L[d]? :=by
 intro fs
 induction fs with
 |nil=>intro j L _ _;rfl
 |cons f fs h=>grind [rI,aje]
def anR{d:Nat}:∀ {fs:D1}{j i:Nat}{L:aG}{f:dL},d<I L->fs[i]?=some f->d∈f.di->(∀m F,fs[m]?=some F->d∈F.di->m=i)->(rI fs j L)[d]?=some (j+i):=by
 intro fs
 induction fs with
 |nil=>intro j i L f _ h;simp at h
 |cons g fs z=>
  intro j i L f n H hf v;show(rI fs (j+1) _)[d]?=_;cases i with
  |zero=>
   simp at H;subst H;rw[awI (by rw[SX];exact n),aje n,aD hf]
   .rfl
   intro F u y;obtain⟨m,Z⟩:=fK u;have:=v (m+1) F (by grind) y;omega
  |succ i=>simp at H;rw[z (by rw[SX];exact n) H hf λm F A x=>by have:=v (m+1) F (by grind) x;omega];congr 1;omega
def left_at{d:Nat}(x:d<2*I h)(hf:(fZ F h)[j]?=some f)(H:d∈f.di):(kX F h)[d]?=some j:=by unfold kX;rw[anR (by grind) hf H λv u m n=>alq m hf n H];congr 1;omega
def OP{d:Nat}(H:d<2*I h):∃j,(fZ F h)[j]?=some (gJ F h d)/\d∈(gJ F h d).di/\(kX F h)[d]?=some j:=by
 obtain⟨j,f,hf,m⟩:=api H;have hl:=left_at H hf m;have e:gJ F h d=f:=by unfold gJ;rw[dD (l:=kX F h),hl,nM,dD,hf,nM]
 grind
theorem axa{d:Nat}(H:d<2*I h)(hf:f∈fZ F h)(m:d∈f.di):gJ F h d=f:=by
 obtain⟨j,u,n,_⟩:=OP H;obtain⟨i,v⟩:=fK hf;have:=alq v u m n
 grind
theorem Zb{d:Nat}(H:d<2*I h):gJ F h d∈fZ F h:=by obtain⟨j,f,_⟩:=OP H;exact a7 f
def ET(pl:Nat)(E:aG)(f:dL):Bool:=(I f.di==I E)&&((I f.places==pl)&&E.all λe=> !(decide (2*e∈f.di)==decide (2*e+1∈f.di)))
def sh(F:Nat)(h:af)(pl:Nat)(E:aG):Bool:=(fZ F h).any (ET pl E)
theorem azz(h:f.di.Nodup)(e:Nat):yw f e=(if 2*e∈f.di then 1 else 0)+(if 2*e+1∈f.di then 1 else 0):=by
 unfold yw;generalize f.di=D at h
 induction D with
 |nil=>simp
 |cons d D j=>grind
def alQ(h:f.di.Nodup)(pl:Nat)(E:aG):xH f pl E=ET pl E f:=by grind [xH,ET,azz]
theorem Fu{pl:Nat}{E:aG}{f:Nat}(j:E[0]?=some f)(H:f<I h):oF F h pl E f=sh F h pl E:=by
 unfold oF sh;have m:=Zb (F:=F) (h:=h) (d:=2*f) J;have M:=Zb (F:=F) (h:=h) (d:=2*f+1) J;rw[alQ (akB m),alQ (akB M),KG,uW,zr]
 grind [ET,axa]
end
abbrev iG:Nat:=31
abbrev af1:Nat:=3
def I6(k:Int)(v:Nat)(m:dJ):Prop:=m.k=k/\m.a=(v:Int)/\m.l=false/\m.o=false/\m.s=0/\EL m
def avZ{l:cL}(h:I l=2):∃a b,l=[a,b]:=by
 match l,h with
 |[a,b],_=>exact⟨a,b,rfl⟩
def aB7{l:cL}(h:I l=3):∃a b c,l=[a,b,c]:=by
 match l,h with
 |[a,b,c],_=>exact⟨a,b,c,rfl⟩
def VM(blk:aJ)(v:V)(A:aJ):Prop:=v=.tup []/\A=blk
def NU{Q:iw}{al:cF}{n:bJ}{blk:aJ}{os:fV}{d:eT}{f:Nat}{j:dZ}{P:V->aJ->Prop}(T:(j.map (qd blk)).flatten=[])(H:al=.all\/(S.sites f).all al.fs.contains)
  (h:∀m,m.fs=S.sites f->∃v A,jQ S f j m blk v A/\P v A) (x:∀v A,P v A->kG S al os Q (eQ n d v) A):kE S al (.sc f j) d os Q n blk:=by
 refine xB ?_ (h _ rfl) x;rcases H with rfl|u
 .rfl
 refine Ow ?_ u;show al.jk (j.map _).flatten=true;rw[T];rfl
def auD{al:cF}{blk:aJ}:∃v A,jQ S 184 [.one (.p .nils),aI 0,aI 0,EC] al blk v A/\VM blk v A:=by refine oZ ahB (ju rfl) ?_;have f:IntKind.i64.wrap 1=1:=aa;have h:¬((1:Int)<0):=aa;simp only[go_sem,Xr,ai,aB];refine og ?_;simp only[go_sem,Td,f,h,ai,aB];first|done|exact⟨rfl,rfl⟩|trace_state
def az2{al:cF}{blk:aJ}(F:al.fs.contains 184)(L:Int):∃v A,jQ S 163 [.one (.p .nils),aI 0,aI 0,aI L,EC] al blk v A/\VM blk v A:=by refine oZ afO (ju rfl) ?_;have j:IntKind.i64.wrap (0-0)=0:=aa;have f:((0:Int)<=12):=aa;simp only[go_sem,Y3,ai,aB];refine og ?_;simp only[go_sem,W2,j,f,agM,ai,aB];refine NU (by rfl) (.inr (by rw[show S.sites 184=[184] by kernel_rfl];simp only[wE,zO,F,zK])) (λQ _=>auD) λv A h=>?_;obtain⟨rfl,H⟩:=h;simp only[go_sem,ai,aB];exact⟨rfl,H⟩
def aoM{al:cF}{blk:aJ}(F:(S.sites 163).all al.fs.contains):∃v A,jQ S 131 [.one (.p .nils),EC] al blk v A/\VM blk v A:=by obtain⟨k,pb⟩:=aaB 0 J;have j:IntKind.u64.wrap ((0:Nat):Int)=((0:Nat):Int):=aa;refine oZ aeO (ju rfl) ?_;have f:S.shared 129=false:=ah;simp only[go_sem,ab4,j,f,Y_ pb,amR,ai,aB];refine NU (by rfl) (.inr F) (λQ h=>az2 (by rw[h];kernel_rfl) k) λv A H=>?_;obtain⟨rfl,h⟩:=H;simp only[go_sem,ai,aB];exact⟨rfl,h⟩
def lJ(u:Int)(v:Nat)(D:aG)(m:fM):Prop:=
 (u≠8->∀b:Nat,v<b->I D=2->(∃d∈D,d/2=v)->(∃d∈D,d/2=b)->(⟨u,v,b,0,false,false,0⟩:dJ)∈m)/\
 (u=8->∀b c:Nat,v<b->b<c->I D=3->(∃d∈D,d/2=v)->(∃d∈D,d/2=b)->(∃d∈D,d/2=c)->(⟨u,v,b,c,false,false,0⟩:dJ)∈m)
def lJ.app(h:lJ u v D m)(x:fM):lJ u v D (m++x):=
 ⟨λa b c d e f=>Fy _ (h.1 a b c d e f),λa b c d e f g i j=>Fy _ (h.2 a b c d e f g i j)⟩
theorem aug(h:I D=2)(f:x∈D)(H:y∈D)(A:x≠y):∀z∈D,z=x\/z=y:=by
 match D,h with
 |[a,b],_=>grind
theorem axT(h:I D=3){w:Nat}(j:x∈D)(f:y∈D)(H:w∈D)(n:x≠y)(N:x≠w)(m:y≠w):∀z∈D,z=x\/z=y\/z=w:=by
 match D,h with
 |[a,b,c],_=>grind
def lJ.low{d:Nat}(H:d∈D)(h:d/2<v):lJ u v D m:=by
 constructor
 .grind [aug]
 grind [axT]
def lJ.xV(h:I D=1\/3<I D):lJ u v D m:=
 ⟨λ_ b _ f=>J,λ_ b c _ _ H=>J⟩
def lJ.two8(h:I D=2)(H:u=8):lJ u v D m:=
 ⟨λh=>absurd H h,λ_ b c _ _ f=>J⟩
def lJ.three(h:I D=3)(H:u≠8):lJ u v D m:=
 ⟨λ_ b _ f=>J,λh=>absurd h H⟩
def lJ.two(h:I D=2)(hp:[H,A].Perm (D.map λd=>((d/2:Nat):Int)))(ae:xx vl [H,A] 0 2)(f:u≠8)(L:(⟨u,v,A,0,false,false,0⟩:dJ)∈m):lJ u v D m:=by
 refine⟨?_,λh=>absurd h f⟩;rintro _ b M _ ⟨x,n,E⟩ ⟨y,j,z⟩
 have N:=hp.mem_iff.2 (ch.2 ⟨x,n,by rw[E]⟩);have B:=hp.mem_iff.2 (ch.2 ⟨y,j,by rw[z]⟩);have F:=ae 0 1 H A J J J rfl rfl
 grind
def lJ.thr{Y:Int}(h:I D=3)(hp:[H,A,Y].Perm (D.map λd=>((d/2:Nat):Int)))(ae:xx vl [H,A,Y] 0 3)(N:(⟨u,v,A,Y,false,false,0⟩:dJ)∈m):lJ u v D m:=by
 refine⟨λ_ b _ j=>J,?_⟩;rintro _ b c Q M _ ⟨x,z,E⟩ ⟨y,n,B⟩ ⟨w,f,F⟩
 have R:=hp.mem_iff.2 (ch.2 ⟨x,z,by rw[E]⟩);have j:=hp.mem_iff.2 (ch.2 ⟨y,n,by rw[B]⟩);have O:=hp.mem_iff.2 (ch.2 ⟨w,f,by rw[F]⟩);have L:=ae 0 1 H A J J J rfl rfl;have T:=ae 1 2 A Y J J J rfl rfl
 grind
def amO{l:fM}{x:dJ}(h:l.Nodup)(H:x∉l):(l++[x]).Nodup:=by grind
def aAd{f:fM}{k:Int}(A:∀m∈f,I6 k v m)(u:f.Nodup)(ae:xx sH f 0 (I f)):f.Pairwise λx y=>sH x y=true:=by
 rw[LA];intro i j H h z;have N:=ae i j f[i] f[j] (bZ _) z h (tH H) (tH h);have n:f[i]≠f[j]:=λe=>by have:=(List.getElem_inj u).1 e;omega
 have k1:=A _ (ZV H);have k2:=A _ (ZV h);generalize f[i]=x at*;generalize f[j]=y at*;cases F:sH x y with
 |true=>rfl
 |false=>
  exfalso;apply n;obtain⟨L,M,O,B,Q,_⟩:=k1;obtain⟨c1,D,c3,c4,E,_⟩:=k2;cases x;cases y
  grind [sH]
def auA{F:Nat}{h:af}(g:bj F h)(u:Int)(ha:v<I h):∃m:fM,(I m<=2/\(∀ac∈m,I6 u v ac)/\(∀j,j<2->lJ u v (gJ F h (2*v+j)).di m)/\m.Pairwise λx y=>sH x y=true)/\aL S 93 [.one (.p (eK F h)),aI u,aI v] (.one (cU iG 7 (cO m))):=by
 have a9:=g.len;have hN:aT h<=1600:=by have:=xo h (I h);unfold aT;have:I (aA h)<=I h:=xo h (I h);omega
 suffices N:∃r,(∃m:fM,(I m<=2/\(∀ac∈m,I6 u v ac)/\(∀j,j<2->lJ u v (gJ F h (2*v+j)).di m)/\m.Pairwise λx y=>sH x y=true)/\r=.one (cU iG 7 (cO m)))/\aL S 93 [.one (.p (eK F h)),aI u,aI v] r by obtain⟨r,⟨m,h1,rfl⟩,Y⟩:=N;exact⟨m,h1,Y⟩
 refine AQ rfl atH (ju rfl) ?_;simp only[go_sem,afp];refine dt (λk aj blk=>aj 0=.one (.p (eK F h))/\aj 1=aI u/\aj 2=aI v/\aj 14=aI k/\ ∃m c,I m<=k/\(∀ac∈m,I6 u v ac)/\(∀j,j<k->lJ u v (gJ F h (2*v+j)).di m)/\m.Nodup/\aj 7=.one c/\bh 5953280192 iG 7 (cO m) (.one c) blk) 0 2 (bZ _) ?_ ?_
 .simp only[go_sem];exact⟨rfl,[],.p .nils,cJ _,λac N=>(by cases N),λj N=>absurd N (o6 _),qK,rfl,bh.nil⟩
 rintro k aj blk hk ⟨h0,h1,Y,uE,m,c,DU,Q,F8,fN,h7,gm⟩
 by_cases M:k<2
 .have aM:((k:Int)<2):=J;obtain⟨j,Hs,mV,vB⟩:=OA g (d:=2*v+k) J;have Zj:=a7 mV;have Ar:=jy Hs;have Cw:=NS mV;have m2:=rQ (a:=v) J;have m3:=tm (a:=2*v) (b:=k) J;have O:=cS (n:=k) J;have zi:2*v+k<I (kX F h):=by rw[GA];omega
  have DM:=aag Zj;have a4:=YK g.ok Zj;obtain⟨_,_,aH,_⟩:=OP (h:=h) (d:=2*v+k) J;have X:∀Re:fM,lJ u v (gJ F h (2*v+k)).di (m++Re)->∀j,j<k+1->lJ u v (gJ F h (2*v+j)).di (m++Re):=λRe N j hj=>by
   by_cases e:j=k
   .rw[e];exact N
   exact(F8 j J).app Re
  have Ky:lJ u v (gJ F h (2*v+k)).di m->∀j,j<k+1->lJ u v (gJ F h (2*v+j)).di m:=λN=>by have:=X [] (by rw[ic];exact N);rwa[ic]at this
  generalize Qe:gJ F h (2*v+k)=f at*;simp only[go_sem,Yw,h0,h1,Y,h7,uE,aM,m2,m3,zi,Ar,vB,Cw,dL.ps];refine⟨aS,?_⟩;obtain⟨g9,hg9⟩:∃g9,(blk 5952321024).fst+1=g9:=⟨_,rfl⟩;rw[hg9];refine dt (λq Z bK=>Z 0=.one (.p (eK F h))/\Z 1=aI u/\Z 2=aI v/\Z 14=aI k/\Z 7=.one c/\bh 5953280192 iG 7 (cO m) (.one c) bK/\Z 9=.one (.bR 5952321024 g9 0)/\bK 5952321024=(g9,some (.var (f.ps.map .p)))/\Z 34=.one (.p (.sl (bQ f.di)))/\Z 35=aI (I f.di)/\Z 36=aI q/\(0<q->I f.di<=3)/\ ∃zs ce,I zs=q/\zs=(f.di.take q).map (λd=>((d/2:Nat):Int))/\(∀z∈zs,0<=z/\z<=1000000)/\Z 10=.one ce/\bh 5952704256 af1 1 (fJ zs) (.one ce) bK) 0 (I f.di) (bZ _) ?_ ?_
  .have aX:bh 5953280192 iG 7 (cO m) (.one c) (dV (dV blk 5952321024 (g9,some (gP.var [bd.p (PV.bool false),bd.p PV.nils,bd.p PV.nils,bd.p PV.nils,bd.p (PV.bool false)]))) 5952321024 (g9,some (gP.var (f.ps.map .p)))):=gm.of_eq ((ct aa).trans (ct aa));simp only[go_sem,h0,h1,Y,h7,uE,dL.ps]at aX |-;refine⟨aX,rfl,λN=>N.elim,[],.p .nils,rfl,rfl,λz N=>(by cases N),rfl,bh.nil⟩
  rintro q Z bK hq ⟨E,D,B,R,L,wH,p9,b9,yC,Et,Eu,h3,zs,ce,l9,QO,ad,Gm,gz⟩
  simp only[dL.ps,eZ,m_]at b9;by_cases D0:q<I f.di
  .have ZB:((q:Int)<(I f.di:Int)):=J;obtain⟨d,hd⟩:=aP D0;have nU:=jy hd;have bc:=DM d (a7 hd);have wq:=wrap_small (n:=d/2) J;have w2:=cS (n:=q) J;by_cases c1:d/2<v
   .have ab:(((d/2:Nat):Int)<(v:Int)):=J;simp only[go_sem,MX,E_,E,D,B,R,L,p9,Gm,yC,Et,Eu,b9,D0,ZB,nU,jG,mx,wq,ab,O,M];exact⟨m,c,J,Q,Ky (.low (a7 hd) c1),fN,rfl,wH⟩
   have ab:¬(((d/2:Nat):Int)<(v:Int)):=J;by_cases c2:3<I f.di
   .have am:((3:Int)<(I f.di:Int)):=J;simp only[go_sem,MX,E_,E,D,B,R,L,p9,Gm,yC,Et,Eu,b9,D0,ZB,nU,jG,mx,wq,ab,am,O,M];exact⟨m,c,J,Q,Ky (.xV (.inr c2)),fN,rfl,wH⟩
   have am:¬((3:Int)<(I f.di:Int)):=J;simp only[go_sem,MX,E,D,B,R,L,p9,Gm,yC,Et,Eu,b9,D0,ZB,nU,jG,mx,wq,ab,am,w2];refine re (B:=[[.int .i64 ((d/2:Nat):Int)]]) (gz.of_eq (ct aa)) (by simp only[hU,bG,if_true];rfl) (.inl rfl) (by simp only[vZ,fP,ga];omega) λc2 mO a2 hb=>?_;have q9:=hb 5952321024 aa aa;have T:=wH.of_eq ((hb 5953280192 aa aa).trans (ct aa));simp only[go_sem,b9]at q9;simp only[go_sem,E,D,B,R,L,p9,yC,Et,Eu,q9,w2,dL.ps];refine⟨D0,T,λ_=>J,zs++[((d/2:Nat):Int)],c2,by simp;omega,by rw[QO,k_,hd];simp,λz hz=>?_,rfl,?_⟩
   .rcases gn.1 hz with N|N
    .exact ad z N
    have:=mj.1 N;omega
   rw[show fJ (zs++[((d/2:Nat):Int)])=fJ zs++[[.int .i64 ((d/2:Nat):Int)]] by simp[fJ]];exact a2
  have:q=I f.di:=J;subst this;have a6:0<I f.di:=Ns aH;have vr:=h3 a6;rcases gz with⟨e,_⟩|⟨_,gg,e,bz⟩
  .have a3:I (fJ zs)=0:=by rw[e];rfl
   rw[vZ]at a3;omega
  cases e;have sS:S.shared 119:=ah;simp only[go_sem,MX,aey,E,D,B,R,L,p9,Gm,yC,Et,Eu,fF,sS,vZ];refine zG bz (by rfl) (.inl rfl) (P:=LF vl 5952704256 gg af1 zs bK) (λqc h1 Y=>aaC h1 (by rw[Y];kernel_rfl) J bz) λbe mO hP=>?_;obtain⟨rfl,⟨ws,bw,pw,sw⟩,kw⟩:=hP;have T:=wH.of_eq (kw 5953280192 aa);have tM:=pw.length_eq;have l5:ws.Perm (f.di.map λd=>((d/2:Nat):Int)):=by rw[QO,jZ]at pw;exact pw
  have ag:∀z∈ws,0<=z/\z<=1000000:=λz hz=>ad z (pw.mem_iff.1 hz);rw[l9]at tM;clear pw ad b9 bz;clear h3 D0 DM a4 Zj aH hq QO;generalize Au:I f.di=n at*;have ab9:S.shared 130=false:=ah;have CV:(((2:Nat):Int)==2):=aa;have a1:(((1:Nat):Int)==2)=false:=aa;have az:(((3:Nat):Int)==2)=false:=aa;have a5:(((1:Nat):Int)==3)=false:=aa;have nK:(((2:Nat):Int)==3)=false:=aa;have a0:(((3:Nat):Int)==3):=aa;rcases(by omega:n=1\/n=2\/n=3)with rfl|rfl|rfl
  .simp only[go_sem,E_,E,D,B,R,L,p9,Gm,yC,Et,Eu,l9,a1,a5,O,M];exact⟨m,c,J,Q,Ky (.xV (.inl Au)),fN,rfl,T.of_eq ((ct aa).trans (ct aa))⟩
  .obtain⟨H,A,rfl⟩:=avZ tM;by_cases h8:u=8
   .have e8:(u !=8)=false:=by rw[h8];rfl
    simp only[go_sem,E_,E,D,B,R,L,p9,Gm,yC,Et,Eu,l9,CV,nK,e8,O,M];exact⟨m,c,J,Q,Ky (.two8 Au h8),fN,rfl,T.of_eq ((ct aa).trans (ct aa))⟩
   have e8:(u !=8):=by simpa using h8
   simp only[go_sem,E_,E,D,B,R,L,p9,Gm,yC,Et,Eu,l9,CV,nK,e8,O,M,bw];obtain⟨bb,yc,ao⟩:=afl m ⟨u,v,A,0,false,false,0⟩ J;have ap:aL S 130 [.one (.p (.sl (cO m))),.agg [.p (.int .i64 u),.p (.int .i64 v),.p (.int .i64 A),.p (.int .i64 0),.p (.bool false),.p (.bool false),.p (.int .i64 0)]] (fv bb):=ao;obtain⟨r,ar,hr⟩:=T.NO;simp only[go_sem,E,D,B,R,L,ab9,ar,b_ ap];cases bb with
   |true=>simp only[go_sem,E,D,B,R,L,O,M];exact⟨m,c,J,Q,Ky (.two Au l5 sw h8 (yc.1 rfl)),fN,rfl,T.of_eq (by simp only[bG,Nat.reduceEqDiff,if_false])⟩
   |false=>
    simp only[go_sem,E,D,B,R,L,O,M];refine re (B:=[dJ.ps ⟨u,v,A,0,false,false,0⟩]) (T.of_eq (by simp only[bG,Nat.reduceEqDiff,if_false])) (by simp only[hU,bG,if_true];rfl) (.inl rfl) (by simp only[oI,fP,ga];omega) λc2 wg xY rT=>?_;simp only[go_sem,E,D,B,R,O,M];refine⟨m++[⟨u,v,A,0,false,false,0⟩],c2,by simp;omega,λac hm=>?_,X _ (.two Au l5 sw h8 aE),amO fN (yc.2 rfl),rfl,by rw[show cO (m++[⟨u,v,A,0,false,false,0⟩])=cO m++[dJ.ps ⟨u,v,A,0,false,false,0⟩] by simp[cO]];exact xY⟩;rcases gn.1 hm with N|N
    .exact Q ac N
    have:=mj.1 N;subst this;exact⟨rfl,rfl,rfl,rfl,rfl,ag A aE,aE⟩
  obtain⟨H,A,y2,rfl⟩:=aB7 tM;by_cases h8:u=8
  .have e8:(u==8):=by rw[h8];rfl
   simp only[go_sem,E_,E,D,B,R,L,p9,Gm,yC,Et,Eu,l9,az,a0,e8,O,M,bw];obtain⟨bb,yc,ao⟩:=afl m ⟨u,v,A,y2,false,false,0⟩ J;have ap:aL S 130 [.one (.p (.sl (cO m))),.agg [.p (.int .i64 u),.p (.int .i64 v),.p (.int .i64 A),.p (.int .i64 y2),.p (.bool false),.p (.bool false),.p (.int .i64 0)]] (fv bb):=ao;obtain⟨r,ar,hr⟩:=T.NO;refine⟨aS,?_⟩;simp only[go_sem,E,D,B,R,L,ab9,ar,b_ ap];cases bb with
   |true=>simp only[go_sem,E,D,B,R,L,O,M];exact⟨m,c,J,Q,Ky (.thr Au l5 sw (yc.1 rfl)),fN,rfl,T.of_eq (by simp only[bG,Nat.reduceEqDiff,if_false])⟩
   |false=>
    simp only[go_sem,E,D,B,R,L,O,M];refine re (B:=[dJ.ps ⟨u,v,A,y2,false,false,0⟩]) (T.of_eq (by simp only[bG,Nat.reduceEqDiff,if_false])) (by simp only[hU,bG,if_true];rfl) (.inl rfl) (by simp only[oI,fP,ga];omega) λc2 wg xY rT=>?_;simp only[go_sem,E,D,B,R,O,M];refine⟨m++[⟨u,v,A,y2,false,false,0⟩],c2,by simp;omega,λac hm=>?_,X _ (.thr Au l5 sw aE),amO fN (yc.2 rfl),rfl,by rw[show cO (m++[⟨u,v,A,y2,false,false,0⟩])=cO m++[dJ.ps ⟨u,v,A,y2,false,false,0⟩] by simp[cO]];exact xY⟩;rcases gn.1 hm with N|N
    .exact Q ac N
    have:=mj.1 N;subst this;exact⟨rfl,rfl,rfl,rfl,rfl,ag A aE,ag y2 aE⟩
  have e8:(u==8)=false:=by simpa using h8
  simp only[go_sem,E_,E,D,B,R,L,p9,Gm,yC,Et,Eu,l9,az,a0,e8,O,M];exact⟨m,c,J,Q,Ky (.three Au h8),fN,rfl,T.of_eq ((ct aa).trans (ct aa))⟩
 have:k=2:=J;subst this;have mU:¬(((2:Nat):Int)<2):=aa;have sS:S.shared 131:=ah;simp only[go_sem,Yw,ae4,h0,h1,Y,h7,uE,mU,sS];rcases gm with⟨e,e2⟩|⟨aO,gg,e2,bm⟩
 .cases e2;have:m=[]:=by simpa [cO]using e
  subst this;refine NU (by rfl) (.inl rfl) (P:=VM blk) (λqc Y=>aoM (by rw[Y];kernel_rfl)) λbe mO hP=>?_;obtain⟨rfl,rfl⟩:=hP;simp only[go_sem,h7];exact⟨_,⟨[],⟨aE,(λac N=>by cases N),F8,List.Pairwise.nil⟩,rfl⟩,rfl⟩
 cases e2;rw[oI]at h7 |-;refine zG bm (by rfl) (.inl rfl) (P:=J8 5953280192 gg iG m blk) (λqc h1 Y=>ard h1 (by rw[Y];kernel_rfl) J (λac hm=>(Q ac hm).2.2.2.2.2) bm) λbe mO hP=>?_;obtain⟨rfl,⟨ws,bw,pw,sw⟩,kw⟩:=hP;simp only[go_sem,h7];have tM:=pw.length_eq;refine⟨_,⟨ws,⟨J,λac hm=>Q ac (pw.mem_iff.1 hm),λj hj=>⟨λa b c d e f=>pw.mem_iff.2 ((F8 j hj).1 a b c d e f),λa b c d e f g i j'=>pw.mem_iff.2 ((F8 j hj).2 a b c d e f g i j')⟩,aAd (λac hm=>Q ac (pw.mem_iff.1 hm)) (pw.nodup_iff.2 fN) sw⟩,rfl⟩,?_⟩;rw[<-tM,<-oI ws];refine ve (.inr ⟨λe=>aO ?_,gg,rfl,bw⟩);have h0:I (cO ws)=0:=by rw[e];rfl
 rw[oI,tM]at h0;rw[G5.1 h0];rfl
def KK(k:Int)(n:Nat)(m:dJ):Prop:= ∃a,a<n/\I6 k a m
def Xf{k:Int}{a:Nat}(h:∀M∈m,KK k n M)(j:∀M∈B,I6 k a M)(f:a<n):∀M∈m++B,KK k n M:=λM H=>(gn.1 H).elim (h M) λu=>⟨a,f,j M u⟩
def US (F:Nat)(h:af)(u:Int)(m:fM):Prop:=(u=1\/u=4->∀a:Nat,a<I h->(⟨u,a,0,0,false,false,0⟩:dJ)∈m)/\(u=3\/u=6\/u=8->∀a,a<I h->∀j,j<2->lJ u a (gJ F h (2*a+j)).di m)
def lJ.sE(h:lJ u v D m)(x:fM):lJ u v D (x++m):=
 ⟨λa b c d e f=>uX _ (h.1 a b c d e f),λa b c d e f g i j=>uX _ (h.2 a b c d e f g i j)⟩
def J7(x y:dJ):Prop:=x.a<y.a\/(x.a=y.a/\sH x y)
section
variable {F:Nat} {h:af}
def aCh{k:Nat}(h:(∀M∈m,M.a<(k:Int))/\m.Pairwise J7)(H:∀M∈B,M.a=(k:Int))(hp:B.Pairwise λx y=>sH x y=true):(∀M∈m++B,M.a<((k+1:Nat):Int))/\(m++B).Pairwise J7:=by
 refine⟨λM u=>?_,He.2 ⟨h.2,hp.imp_of_mem λn f hl=>.inr ⟨by rw[H _ n,H _ f],hl⟩,λx n y f=>.inl (by rw[H y f];exact h.1 x n)⟩⟩;rcases gn.1 u with j|j
 .have:=h.1 M j;omega
 have:=H M j;omega
def XA(g:bj F h)(aO:0<I h)(qp:u=3\/u=6\/u=8):∃m:fM,(I m<=2*I h/\(∀M∈m,KK u (I h) M)/\US F h u m/\m.Pairwise J7)/\aL S 53 [.one (.p (eK F h)),aI u] (.one (cU iG 7 (cO m))):=by
 have ac:=g.len;have lo:S.lone 3394944256=false:=ah;have aX:I (dP (an h))=I h:=by rw[dP,cg,bY]
 have ir:(((I h:Nat):Int)==0)=false:=by rw[mM];omega
 suffices ab:∃r,(∃m:fM,(I m<=2*I h/\(∀M∈m,KK u (I h) M)/\US F h u m/\m.Pairwise J7)/\r=.one (cU iG 7 (cO m)))/\aL S 53 [.one (.p (eK F h)),aI u] r by obtain⟨r,⟨m,H,rfl⟩,h2⟩:=ab;exact⟨m,H,h2⟩
 have T:(u==2)=false:=by rw[mM];omega
 have d5:(u==5)=false:=by rw[mM];omega
 have d7:(u==7)=false:=by rw[mM];omega
 refine AQ rfl Iz (ju rfl) ?_;simp only[go_sem,i53,FH,aX,ir,T];refine dt (λk z blk=>z 0=.one (.p (eK F h))/\z 1=aI u/\z 41=aI (I h)/\z 42=aI k/\ ∃m c,I m<=2*k/\(∀M∈m,KK u (I h) M)/\(∀a,a<k->∀j,j<2->lJ u a (gJ F h (2*a+j)).di m)/\((∀M∈m,M.a<(k:Int))/\m.Pairwise J7)/\z 5=.one c/\bh 3394944320 iG 7 (cO m) (.one c) blk) 0 (I h) (bZ _) ?_ ?_
 .simp only[go_sem,aX];exact⟨rfl,[],.p .nils,aE,λM ab=>(by cases ab),λa ab=>absurd ab (o6 _),⟨λM ab=>(by cases ab),List.Pairwise.nil⟩,rfl,bh.nil⟩
 rintro k z blk hk ⟨f,H,O,L,m,c,DU,aF,D,qA,y,Z⟩
 by_cases A:k<I h
 .have aM:((k:Int)<(I h:Int)):=J;have w1:=cS (n:=k) J;obtain⟨B,⟨ad,v,Qr,Qu⟩,pc⟩:=auA g u A;have ZA:=aCh qA (λM hm=>(v M hm).2.1) Qu;have YV:∀a,a<k+1->∀j,j<2->lJ u a (gJ F h (2*a+j)).di (m++B):=λa ha j hj=>by
   by_cases e:a=k
   .rw[e];exact(Qr j hj).sE m
   exact(D a J j hj).app B
  cases Y:(u==3)with
  |true=>simp only[go_sem,vY,Fk,f,H,O,L,y,aM,T,d5,d7,Y,W7];refine nI pc lo (.inl rfl) λcc de x R=>?_;have Q:=Z.of_eq (R 3394944320 aa);obtain⟨r,N,hr⟩:=x.elems;simp only[go_sem,f,H,O,L,y];refine re (B:=cO B) Q N x.aB (by simp only[oI];omega) λE wg X rT=>?_;simp only[go_sem,f,H,O,L,w1,A];exact⟨m++B,E,by simp;omega,Xf aF v A,YV,ZA,rfl,by rw[show cO (m++B)=cO m++cO B by simp[cO]];exact X⟩
  |false=>
   cases d6:(u==6)with
   |true=>simp only[go_sem,vY,Fk,f,H,O,L,y,aM,T,d5,d7,Y,d6,W7];refine nI pc lo (.inl rfl) λcc de x R=>?_;have Q:=Z.of_eq (R 3394944320 aa);obtain⟨r,N,hr⟩:=x.elems;simp only[go_sem,f,H,O,L,y];refine re (B:=cO B) Q N x.aB (by simp only[oI];omega) λE wg X rT=>?_;simp only[go_sem,f,H,O,L,w1,A];exact⟨m++B,E,by simp;omega,Xf aF v A,YV,ZA,rfl,by rw[show cO (m++B)=cO m++cO B by simp[cO]];exact X⟩
   |false=>
    have d8:(u==8):=by
     rcases qp with rfl|rfl|rfl
     .cases Y
     .cases d6
     rfl
    simp only[go_sem,vY,Fk,f,H,O,L,y,aM,T,d5,d7,Y,d6,d8,W7];refine nI pc lo (.inl rfl) λcc de x R=>?_;have Q:=Z.of_eq (R 3394944320 aa);obtain⟨r,N,hr⟩:=x.elems;simp only[go_sem,f,H,O,L,y];refine re (B:=cO B) Q N x.aB (by simp only[oI];omega) λE wg X rT=>?_;simp only[go_sem,f,H,O,L,w1,A];exact⟨m++B,E,by simp;omega,Xf aF v A,YV,ZA,rfl,by rw[show cO (m++B)=cO m++cO B by simp[cO]];exact X⟩
 have:k=I h:=J;subst this;simp only[go_sem,vY,Gr,f,H,O,L,y,fF];exact⟨_,⟨m,⟨DU,aF,⟨λab=>J,λ_=>D⟩,qA.2⟩,rfl⟩,ve Z⟩
end
def V7(k:Int)(a:Nat):dJ:=⟨k,a,0,0,false,false,0⟩
def NA(a i:Nat):dJ:=⟨5,a,0,0,false,decide ((1:Int)<(i:Int)),IntKind.i64.wrap (IntKind.i64.wrap (2*((i:Int).tmod 2))-1)⟩
def aaD(a c i:Nat):dJ:=⟨7,a,c,0,decide ((1:Int)<(i:Int)),((i:Int).tmod 2)==1,0⟩
def y7 (n:Nat)(k:Int):fM:=(List.range n).map (V7 k)
def tj (n:Nat):fM:=(List.range n).flatMap λa=>(List.range 4).map (NA a)
def yv(a i c:Nat):fM:=if c=a then []else(List.range i).map (aaD a c)
def B5(a n:Nat):fM:=(List.range n).flatMap (yv a 4)
def fH (m n:Nat):fM:=(List.range n).flatMap λa=>B5 a m
def axt(n:Nat)(k:Int):y7 (n+1) k=y7 n k++[V7 k n]:=by simp[y7,nJ]
def aec(n:Nat):tj (n+1)=tj n++(List.range 4).map (NA n):=by simp[tj,nJ]
def alD(a n:Nat):B5 a (n+1)=B5 a n++yv a 4 n:=by simp[B5,nJ]
def afF(m n:Nat):fH m (n+1)=fH m n++B5 n m:=by simp[fH,nJ]
def aBG{f:Nat->dJ}(i:Nat):(List.range (i+1)).map f=(List.range i).map f++[f i]:=by simp[nJ]
def aif(n:Nat)(k:Int):I (y7 n k)=n:=by simp[y7]
def Wj:∀n:Nat,I (tj n)=4*n
 |0=>rfl
 |n+1=>by rw[aec,gb,Wj n,cg,wI];omega
def agS(a i c:Nat):I (yv a i c)<=i:=by unfold yv;split<;>simp
def aaJ(a:Nat):∀n:Nat,I (B5 a n)<=4*n
 |0=>cJ _
 |n+1=>by have:=aaJ a n;have:=agS a 4 n;rw[alD,gb];omega
def Zu(m:Nat):∀n:Nat,I (fH m n)<=4*(m*n)
 |0=>bZ _
 |n+1=>by have:=Zu m n;have:=aaJ n m;rw[afF,gb,Nat.mul_succ];omega
def K7(a b:fM):cO (a++b)=cO a++cO b:=by simp[cO]
section
variable {F:Nat} {h:af}
def aue(g:bj F h)(aO:0<I h)(D:(u==2)=false)(E:(u==5)=false)(T:(u==7)=false)(B:(u==3)=false)(Y:(u==6)=false)(Q:(u==8)=false):aL S 53 [.one (.p (eK F h)),aI u] (.one (cU iG 7 (cO (y7 (I h) u)))):=by
 have x:=g.len;have v:I (dP (an h))=I h:=by rw[dP,cg,bY]
 have M:(((I h:Nat):Int)==0)=false:=by rw[mM];omega
 suffices ab:∃r,r=.one (cU iG 7 (cO (y7 (I h) u)))/\aL S 53 [.one (.p (eK F h)),aI u] r by grind
 refine AQ rfl Iz (ju rfl) ?_;simp only[go_sem,i53,FH,v,M];refine dt (λk A blk=>A 0=.one (.p (eK F h))/\A 1=aI u/\A 41=aI (I h)/\A 42=aI k/\ ∃c,A 5=.one c/\bh 3392768320 iG 7 (cO (y7 k u)) (.one c) blk) 0 (I h) (bZ _) ?_ ?_
 .simp only[go_sem,v];exact⟨rfl,.p .nils,rfl,bh.nil⟩
 rintro k A blk Z ⟨H,f,O,L,c,m,j⟩
 by_cases N:k<I h
 .have R:((k:Int)<(I h:Int)):=J;have z:=cS (n:=k) J;simp only[go_sem,vY,Fk,H,f,O,L,m,R,D,E,T,B,Y,Q];refine re (B:=[dJ.ps (V7 u k)]) (j.of_eq (by simp[bG,Nat.reduceEqDiff,if_false])) (by simp only[hU,bG,if_true];rfl) (.inl rfl) (by simp only[oI,aif,fP,ga];omega) λy wg X rT=>?_;simp only[go_sem,H,f,O,L,z,N];exact⟨y,rfl,by rw[axt,K7];exact X⟩
 have:k=I h:=J;subst this;simp only[go_sem,vY,Gr,H,f,O,L,m,fF];exact⟨_,rfl,ve j⟩
def ayW(g:bj F h)(aO:0<I h):aL S 53 [.one (.p (eK F h)),aI 5] (.one (cU iG 7 (cO (tj (I h))))):=by
 have E:=g.len;have N:I (dP (an h))=I h:=by rw[dP,cg,bY]
 have Z:(((I h:Nat):Int)==0)=false:=by rw[mM];omega
 have R:((5:Int)==2)=false:=aa;have d5:((5:Int)==5):=aa;have Js:¬((2:Int)=0):=aa
 suffices ab:∃r,r=.one (cU iG 7 (cO (tj (I h))))/\aL S 53 [.one (.p (eK F h)),aI 5] r by obtain⟨r,rfl,X⟩:=ab;exact X
 refine AQ rfl Iz (ju rfl) ?_;simp only[go_sem,i53,FH,N,Z];refine dt (λk f blk=>f 0=.one (.p (eK F h))/\f 1=aI 5/\f 41=aI (I h)/\f 42=aI k/\ ∃c,f 5=.one c/\bh 3393920704 iG 7 (cO (tj k)) (.one c) blk) 0 (I h) (bZ _) ?_ ?_
 .simp only[go_sem,N];exact⟨rfl,.p .nils,rfl,bh.nil⟩
 rintro k f blk hk ⟨H,y,O,L,c,z,j⟩
 by_cases aw:k<I h
 .have aM:((k:Int)<(I h:Int)):=J;have T:=cS (n:=k) J;simp only[go_sem,vY,Fk,H,y,O,L,z,aM,R,d5];refine dt (λi A D=>A 0=.one (.p (eK F h))/\A 1=aI 5/\A 8=aI k/\A 41=aI (I h)/\A 42=aI k/\A 99=aI i/\ ∃c,A 5=.one c/\bh 3393920704 iG 7 (cO (tj k++(List.range i).map (NA k))) (.one c) D) 0 4 (bZ _) ?_ ?_
  .refine⟨?_,?_,?_,?_,?_,?_,c,?_,by simpa using j⟩<;>(simp only[go_sem,H,y,O,L,z];first|done|rfl)
  rintro i A D hi ⟨m,x,B,u,v,Q,c,M,j⟩
  have fj:I (cO (tj k++(List.range i).map (NA k)))=4*k+i:=by rw[oI,gb,Wj,cg,wI]
  by_cases qo:i<4
  .have Mt:((i:Int)<4):=J;have w2:=cS (n:=i) J;simp only[go_sem,WH,m,x,B,u,v,Q,M,Mt,Js];refine re (B:=[dJ.ps (NA k i)]) (j.of_eq (by simp only[bG,Nat.reduceEqDiff,if_false])) (by simp only[hU,bG,if_true];rfl) (.inl rfl) (by rw[fj];simp only[fP,ga];omega) λc2 wg Y rT=>?_;simp only[go_sem,m,x,B,u,v,Q,w2,qo];exact⟨c2,rfl,by rw[fL,<-lf,K7];exact Y⟩
  have:i=4:=J;subst this;have h4:¬(((4:Nat):Int)<4):=aa;simp only[go_sem,WH,m,x,B,u,v,Q,M,h4,T,aw];exact⟨c,rfl,by rw[aec];exact j⟩
 have:k=I h:=J;subst this;simp only[go_sem,vY,Gr,H,y,O,L,z,fF];exact⟨_,rfl,ve j⟩
def aAn(g:bj F h)(aO:0<I h):aL S 53 [.one (.p (eK F h)),aI 7] (.one (cU iG 7 (cO (fH (I h) (I h))))):=by
 have H:=g.len;have aX:I (dP (an h))=I h:=by rw[dP,cg,bY]
 have ir:(((I h:Nat):Int)==0)=false:=by rw[mM];omega
 have d2:((7:Int)==2)=false:=aa;have d5:((7:Int)==5)=false:=aa;have d7:((7:Int)==7):=aa;have Js:¬((2:Int)=0):=aa
 suffices ac:∃r,r=.one (cU iG 7 (cO (fH (I h) (I h))))/\aL S 53 [.one (.p (eK F h)),aI 7] r by obtain⟨r,rfl,h2⟩:=ac;exact h2
 refine AQ rfl Iz (ju rfl) ?_;simp only[go_sem,i53,FH,aX,ir];refine dt (λk m blk=>m 0=.one (.p (eK F h))/\m 1=aI 7/\m 6=aI (I h)/\m 41=aI (I h)/\m 42=aI k/\ ∃c,m 5=.one c/\bh 3394560704 iG 7 (cO (fH (I h) k)) (.one c) blk) 0 (I h) (bZ _) ?_ ?_
 .simp only[go_sem,aX];exact⟨rfl,.p .nils,rfl,bh.nil⟩
 rintro k m blk hk ⟨O,Z,h6,ot,lD,c,h5,f⟩
 by_cases aw:k<I h
 .have aM:((k:Int)<(I h:Int)):=J;have w1:=cS (n:=k) J;have hb:=O0 H J;have dF:=Zu (I h) k;simp only[go_sem,vY,Fk,O,Z,h6,ot,lD,h5,aM,d2,d5,d7];refine dt (λj A ao=>A 0=.one (.p (eK F h))/\A 1=aI 7/\A 6=aI (I h)/\A 8=aI k/\A 41=aI (I h)/\A 42=aI k/\A 117=aI (I h)/\A 118=aI j/\ ∃c,A 5=.one c/\bh 3394560704 iG 7 (cO (fH (I h) k++B5 k j)) (.one c) ao) 0 (I h) (bZ _) ?_ ?_
  .refine⟨?_,?_,?_,?_,?_,?_,?_,?_,c,?_,by simpa [B5]using f⟩<;>(simp only[go_sem,O,Z,h6,ot,lD,h5];first|done|rfl)
  rintro j A ao hj ⟨Q,Y,T,q8,X,N,v,x,c,q5,f⟩
  by_cases sP:j<I h
  .have ab:((j:Int)<(I h:Int)):=J;have w2:=cS (n:=j) J;have mu:=aaJ k j;simp only[go_sem,Y5,aeW,Q,Y,T,q8,X,N,v,x,q5,ab];refine dt (λi u Fj=>u 0=.one (.p (eK F h))/\u 1=aI 7/\u 6=aI (I h)/\u 8=aI k/\u 14=aI j/\u 41=aI (I h)/\u 42=aI k/\u 117=aI (I h)/\u 118=aI j/\u 121=aI i/\ ∃c,u 5=.one c/\bh 3394560704 iG 7 (cO (fH (I h) k++B5 k j++yv k i j)) (.one c) Fj) 0 4 (bZ _) ?_ ?_
   .refine⟨?_,?_,?_,?_,?_,?_,?_,?_,?_,?_,c,?_,by simpa [yv]using f⟩<;>(simp only[go_sem,Q,Y,T,q8,X,N,v,x,q5];first|done|rfl)
   rintro i u Fj hi ⟨r0,r1,B,L,R,E,z,y,D,M,c,r5,f⟩
   have fj:I (cO (fH (I h) k++B5 k j++yv k i j))<=4*(400*400)+4*400+4:=by have:=agS k i j;rw[oI,gb,gb];omega
   by_cases qo:i<4
   .have Mt:((i:Int)<4):=J;have w3:=cS (n:=i) J;by_cases Qm:j=k
    .subst Qm;have e1:((j:Int)!=(j:Int))=false:=aE;simp only[go_sem,Rf,r0,r1,B,L,R,E,z,y,D,M,r5,Mt,qo,e1,w3];exact⟨c,rfl,by simpa [yv]using f⟩
    have e1:((j:Int)!=(k:Int)):=by simp;omega
    simp only[go_sem,Rf,r0,r1,B,L,R,E,z,y,D,M,r5,Mt,Js,e1];refine re (B:=[dJ.ps (aaD k j i)]) (f.of_eq (by simp only[bG,Nat.reduceEqDiff,if_false])) (by simp only[hU,bG,if_true];rfl) (.inl rfl) (by simp only[fP,ga];omega) λc2 wg xY rT=>?_;simp only[go_sem,r0,r1,B,L,R,E,z,y,D,M,w3,qo];exact⟨c2,rfl,by rw[show yv k (i+1) j=yv k i j++[aaD k j i] by rw[yv,yv,aC Qm,aC Qm,aBG],<-lf,K7];exact xY⟩
   have:i=4:=J;subst this;have h4:¬(((4:Nat):Int)<4):=aa;simp only[go_sem,Rf,r0,r1,B,L,R,E,z,y,D,M,r5,h4,w2,sP];exact⟨c,rfl,by rw[alD,<-lf];exact f⟩
  have:j=I h:=J;subst this;simp only[go_sem,Y5,Q,Y,T,q8,X,N,v,x,q5,fF,w1,aw];exact⟨c,rfl,by rw[afF];exact f⟩
 have:k=I h:=J;subst this;simp only[go_sem,vY,Gr,O,Z,h6,ot,lD,h5,fF];exact⟨_,rfl,ve f⟩
end
abbrev auR(p:Int×Int):dW:=[.int .i64 p.1,.int .i64 p.2]
abbrev qZ(l:jd):dI:=l.map auR
def K8{l:jd}{k:Nat}{x:Int×Int}(h:l[k]?=some x):(qZ l)[k]?=some [.int .i64 x.1,.int .i64 x.2]:=by rw[fz,h];rfl
def U_(l:jd):I (qZ l)=I l:=cg ..
def afz(l:jd)(k:Nat)(x:Int×Int):(qZ l).set k [.int .i64 x.1,.int .i64 x.2]=qZ (l.set k x):=by rw[qZ,qZ,Ew]
def aCp{f:jd}{k:Nat}(h:k<=I f):List.take k (qZ f)++List.replicate (I f-k) [PV.int .i64 0,PV.int .i64 0]++List.drop (k+(I f-k)) (qZ f)=qZ (f.take k++List.replicate (I f-k) (0,0)):=by simp_all
def o_(l:jd):jd:=l.foldl (λr x=>if r.getLast?=some x then r else r++[x]) []
theorem Oy(l:jd)(x:Int×Int):o_ (l++[x])=if(o_ l).getLast?=some x then o_ l else o_ l++[x]:=by rw[o_,A8];rfl
def abF{α:Type}{p:List α->Prop}(j:p [])(H:∀l x,p l->p (l++[x]))(l:List α):p l:=by
 have:∀l:List α,p l.reverse:=λl=>by
  induction l with
  |nil=>exact j
  |cons x l f=>rw[Xm];exact H _ _ f
 have h:=this l.reverse
 grind
theorem amp(l:jd):(o_ l).getLast?=l.getLast?:=by
 refine abF (p:=λl=>(o_ l).getLast?=l.getLast?) rfl (λl x f=>?_) l;rw[Oy]
 grind
theorem Dx{α:Type}{l:List α}{k:Nat}{x:α}(h:l[k]?=some x):l.take (k+1)=l.take k++[x]:=by rw[List.take_succ,h];rfl
theorem ake{α:Type}{l:List α}{k:Nat}{x:α}(h:l[k]?=some x):(l.take (k+1)).getLast?=some x:=by rw[Dx h];simp
def aic{l:jd}{k:Nat}{x:Int×Int}(H:l[k]?=some x)(h:l[k+1]?=some x):o_ (l.take (k+2))=o_ (l.take (k+1)):=by rw[Dx h,Oy,amp,ake H,aD rfl]
def SG{l:jd}{k:Nat}{x y:Int×Int}(f:l[k]?=some x)(H:l[k+1]?=some y)(h:x≠y):o_ (l.take (k+2))=o_ (l.take (k+1))++[y]:=by grind [Dx,Oy,amp,ake,kA]
def aw1(l:jd)(z:Int×Int):z∈o_ l↔z∈l:=by
 refine abF (p:=λl=>z∈o_ l↔z∈l) Iff.rfl (λl x f=>?_) l;rw[Oy]
 grind
def acJ{l:jd}(h:I l<2):o_ l=l:=by
 rcases l with _|⟨x,_|⟨y,l⟩⟩
 .rfl
 .rfl
 simp at h;omega
def atv(id g E:Nat)(h:jd)(blk:aJ)(v:V)(A:aJ):Prop:=(∃(m:Nat) (f:jd),m<=I h/\I f=I h/\f.take m=o_ h/\v=.one (.hsl id g 2 0 m)/\A id=(g,some (.arr E 2 (qZ f))))/\d_ (· =id) blk A
def asi{al:cF}{blk:aJ}{id g:Nat}{f:jd}(o:al.ok id)(hl:I f<=1000000)(L:blk id=(g,some (.arr E 2 (qZ f)))):
  ∃v D,jQ S 92 [.one (.hsl id g 2 0 (I f))] al blk v D/\atv id g E f blk v D:=by
 refine oZ afs (ju rfl) ?_;by_cases h2:I f<2
 .have ki:((I f:Int)<2):=J;simp only[go_sem,Vf,ki,ai,aB];exact⟨⟨I f,f,cJ _,rfl,by rw[jZ];exact(acJ h2).symm,rfl,L⟩,d_.refl _ _⟩
 have ki:¬((I f:Int)<2):=J;simp only[go_sem,Vf,ki,ai,aB];refine dt (λq B D=>B 0=.one (.hsl id g 2 0 (I f))/\B 3=aI ((q+1:Nat):Int)/\D=blk/\o_ (f.take (q+1))=f.take (q+1)) 0 (I f) (bZ _) ?_ ?_
 .simp only[go_sem];exact⟨rfl,acJ (by rw[jO];omega)⟩
 rintro q B de hq ⟨R,N,rfl,Y⟩
 by_cases aw:q+1<I f
 .have M:(((q+1:Nat):Int)<(I f:Int)):=J;obtain⟨x,H⟩:=aP aw;obtain⟨y,X⟩:=aP (h:=f) (k:=q) J;have qX:=K8 H;have zy:=K8 X;have wj:IntKind.i64.wrap (((q+1:Nat):Int)-1)=(q:Int):=by rw[uA J];omega
  have wk:=cS (n:=q+1) J;have q1:q<I f:=J;have q2:q+1<=I f:=J;have qt:=U_ f;have no:(x.1==y.1)=false\/((x.1==y.1)/\(x.2==y.2)=false)\/((x.1==y.1)/\(x.2==y.2)):=by cases(x.1==y.1)<;>cases(x.2==y.2)<;>simp
  rcases no with j|⟨j,A⟩|⟨j,A⟩
  .simp only[go_sem,Ni,YI,R,N,aw,M,qX,zy,wj,wk,q1,q2,L,o,j,pg,oU,qt,ai,aB];refine⟨aS,?_⟩;exact(SG X H (λe=>by subst e;simp at j)).trans (by rw[Y,<-Dx H])
  .simp only[go_sem,Ni,YI,R,N,aw,M,qX,zy,wj,wk,q1,q2,L,o,j,A,pg,oU,qt,ai,aB];refine⟨aS,?_⟩;exact(SG X H (λe=>by subst e;simp at A)).trans (by rw[Y,<-Dx H])
  simp only[go_sem,Ni,R,N,aw,M,qX,zy,wj,q1,q2,L,o,j,A,pg,oU,qt,ai,aB];refine⟨aS,?_⟩;have JE:o_ (f.take (q+2))=f.take (q+1):=by rw[aic ((Prod.ext (by simpa using j) (by simpa using A))▸X) H,Y]
  clear j A qX zy H X;refine dt (λr B D=>B 0=.one (.hsl id g 2 0 (I f))/\B 4=.one (.hsl id g 2 (q+1) (I f-(q+1)))/\B 5=aI ((r+1:Nat):Int)/\ ∃(m:jd) (k:Nat),B 3=aI (k:Nat)/\D id=(g,some (.arr E 2 (qZ m)))/\I m=I f/\k<q+2+r/\q+2+r<=I f/\m.take k=o_ (f.take (q+2+r))/\(∀i,q+1+r<=i->m[i]?=f[i]?)/\d_ (· =id) de D) 0 (I f) (bZ _) ?_ ?_
  .simp only[go_sem,R];exact⟨rfl,f,q+1,N,L,rfl,J,J,JE.symm,λ_ _=>rfl,d_.refl _ _⟩
  rintro r dM bK hr ⟨k0,k4,k5,m,k,k3,hB,F,ag,ad,l8,uF,dN⟩
  by_cases Hy:r+1<I f-(q+1)
  .have Q:(((r+1:Nat):Int)<((I f-(q+1):Nat):Int)):=J;obtain⟨ab,hu⟩:=aP (h:=m) (k:=q+1+(r+1)) J;obtain⟨v,hv⟩:=aP (h:=m) (k:=q+1+r) J;have wu:f[q+1+r+1]?=some ab:=by rw[<-uF _ J];exact hu
   have wv:f[q+1+r]?=some v:=by rw[<-uF _ J];exact hv
   have cu:=K8 hu;have cv:=K8 hv;have wr:IntKind.i64.wrap (((r+1:Nat):Int)-1)=(r:Int):=by rw[uA J];omega
   have N8:=cS (n:=r+1) J;have O:=cS (n:=k) J;have r1:r<I f-(q+1):=J;have u:k<I f:=J;have Z:k<I m:=J;obtain⟨z,hz⟩:=aP Z;have cz:=K8 hz;have no:(ab.1==v.1)=false\/((ab.1==v.1)/\(ab.2==v.2)=false)\/((ab.1==v.1)/\(ab.2==v.2)):=by cases(ab.1==v.1)<;>cases(ab.2==v.2)<;>simp
   rcases no with j|⟨j,A⟩|⟨j,A⟩
   .simp only[go_sem,Ou,k0,k4,k5,k3,Hy,Q,r1,hB,cu,cv,wr,N8,O,u,Z,cz,o,j,pg,oU,U_,F,ai,aB];refine⟨aS,J,m.set k ab,k+1,rfl,by rw[afz],by simpa using F,J,J,?_,λi hi=>by rw[Rd J];exact uF i J,dN.dV rfl _⟩;rw[Dx (NN Z),Zd (cJ _),l8,show q+2+(r+1)=q+1+r+2 by omega,show q+2+r=q+1+r+1 by omega];exact(SG wv wu (λe=>by subst e;simp at j)).symm
   .simp only[go_sem,Ou,k0,k4,k5,k3,Hy,Q,r1,hB,cu,cv,wr,N8,O,u,Z,cz,o,j,A,pg,oU,U_,F,ai,aB];refine⟨aS,J,m.set k ab,k+1,rfl,by rw[afz],by simpa using F,J,J,?_,λi hi=>by rw[Rd J];exact uF i J,dN.dV rfl _⟩;rw[Dx (NN Z),Zd (cJ _),l8,show q+2+(r+1)=q+1+r+2 by omega,show q+2+r=q+1+r+1 by omega];exact(SG wv wu (λe=>by subst e;simp at A)).symm
   simp only[go_sem,Ou,k0,k4,k5,k3,Hy,Q,r1,hB,cu,cv,wr,N8,o,j,A,pg,oU,ai,aB];refine⟨aS,J,m,k,rfl,rfl,F,J,J,?_,λi hi=>uF i J,dN⟩;rw[l8,show q+2+(r+1)=q+1+r+2 by omega,show q+2+r=q+1+r+1 by omega];exact(aic wv ((Prod.ext (by simpa using j) (by simpa using A))▸wu)).symm
  have Q:¬(((r+1:Nat):Int)<((I f-(q+1):Nat):Int)):=J;have T:k<=I f:=J;have ac:k+(I f-k)<=I m:=J;by_cases hz:I f-k=0
  .exact absurd hz J
  have qV:=aCp (f:=m) (k:=k) J;rw[F]at qV;simp only[go_sem,Ou,aln,k0,k4,k5,k3,Q,hB,o,T,ac,hz,Ph,U_,qV,ai,aB];refine⟨⟨k,_,T,by simp;omega,?_,rfl,zI⟩,dN.dV rfl _⟩;rw[List.take_left' (by rw[jO];omega),l8,f_ J]
 have M:¬(((q+1:Nat):Int)<(I f:Int)):=J;simp only[go_sem,Ni,agO,R,N,M,ai,aB];exact⟨⟨I f,f,cJ _,rfl,by rw[jZ];rw[f_ J]at Y;exact Y.symm,rfl,L⟩,d_.refl _ _⟩
abbrev Sw:V:=.one (.p (.fn 91 [] []))
def aqZ(f:Nat)(A:dZ)(al:cF)(blk:aJ):S.primS f A al blk=BF oG A al blk:=rfl
def aqP{al:cF}{blk:aJ}{id g:Nat}{l:jd}(H:al.ok id)(f:blk id=(g,some (.arr E 2 (qZ l))))(hl:I l<4611686018427387904)(h:l.all CX):∃v A,jQ S 90 [.one (.hsl id g 2 0 (I l)),Sw] al blk v A/\v=.tup []/\A=dV blk id (g,some (.arr E 2 (qZ (rK oG l)))):=
 ⟨_,_,⟨1,by rw[jw,aD (show S.trig 90 [.one _,Sw]=true from rfl),aqZ,afX f rfl hl h H];rfl⟩,rfl,rfl⟩
def aos{al:cF}{blk:aJ}:∃v A,jQ S 90 [.one (.p .nils),Sw] al blk v A/\v=.tup []/\A=blk:=
 ⟨_,_,⟨1,by rw[jw,aD (show S.trig 90 [.one _,Sw]=true from rfl)];rfl⟩,rfl,rfl⟩
def axS{al:cF}{blk:aJ}:∃v A,jQ S 92 [.one (.p .nils)] al blk v A/\v=.one (.p .nils)/\A=blk:=by refine oZ afs (ju rfl) ?_;have h:(((0:Nat):Int)<2):=aa;simp only[go_sem,Vf,h,ai,aB];first|done|exact _|trace_state
def xk(l:qO):jd:=l.map λp=>((p.1:Int),(p.2:Int))
def ayn(l:qO):qZ (xk l)=lN l:=by rw[qZ,xk,h_];rfl
def zb(F:Nat)(h:af)(k s:Nat):qO:=(List.range s).flatMap λj=>(gJ F h (2*k+j)).places
def Wy(k:Nat)(x:Int×Int):dJ:=⟨2,k,x.1,x.2,false,false,0⟩
def E3(F:Nat)(h:af)(k:Nat):jd:=o_ (rK oG (xk (zb F h k 2)))
def xh (F:Nat)(h:af)(n:Nat):fM:=(List.range n).flatMap λk=>(E3 F h k).map (Wy k)
def awR(F:Nat)(h:af)(k s:Nat):zb F h k (s+1)=zb F h k s++(gJ F h (2*k+s)).places:=by simp[zb,nJ]
def auB(F:Nat)(h:af)(n:Nat):xh F h (n+1)=xh F h n++(E3 F h n).map (Wy n):=by simp[xh,nJ]
def avD(l:jd):I (o_ l)<=I l:=by
 refine abF (p:=λl=>I (o_ l)<=I l) (cJ _) (λl x f=>?_) l;rw[Oy]
 grind
section
variable {F:Nat} {h:af}
def aBm(g:bj F h)(aO:0<I h)(vH:∀f∈fZ F h,I f.places<=200000/\ ∀p∈f.places,p.1<=1000000/\p.2<=1000000):I (xh F h (I h))<=400000*I h/\aL S 53 [.one (.p (eK F h)),aI 2] (.one (cU iG 7 (cO (xh F h (I h))))):=by
 have az:=g.len;have aX:I (dP (an h))=I h:=by rw[dP,cg,bY]
 have ir:(((I h:Nat):Int)==0)=false:=by rw[mM];omega
 have d2:((2:Int)==2):=aa
 suffices ar:∃r,(I (xh F h (I h))<=400000*I h/\r=.one (cU iG 7 (cO (xh F h (I h)))))/\aL S 53 [.one (.p (eK F h)),aI 2] r by obtain⟨r,⟨Y,rfl⟩,h2⟩:=ar;exact⟨Y,h2⟩
 refine AQ rfl Iz (ju rfl) ?_;simp only[go_sem,i53,FH,aX,ir];refine dt (λk aj blk=>aj 0=.one (.p (eK F h))/\aj 1=aI 2/\aj 41=aI (I h)/\aj 42=aI k/\ ∃c,I (xh F h k)<=400000*k/\aj 5=.one c/\bh 3393536576 iG 7 (cO (xh F h k)) (.one c) blk) 0 (I h) (bZ _) ?_ ?_
 .simp only[go_sem,aX];exact⟨rfl,.p .nils,bZ _,rfl,bh.nil⟩
 rintro k aj blk hk ⟨h0,Y,ot,lD,c,DU,h5,y⟩
 by_cases aw:k<I h
 .have aM:((k:Int)<(I h:Int)):=J;have w1:=cS (n:=k) J;simp only[go_sem,vY,Fk,h0,Y,ot,lD,h5,aM,d2];refine dt (λs B ao=>B 0=.one (.p (eK F h))/\B 1=aI 2/\B 8=aI k/\B 41=aI (I h)/\B 42=aI k/\B 54=aI s/\B 5=.one c/\bh 3393536576 iG 7 (cO (xh F h k)) (.one c) ao/\ ∃cp:bd,I (zb F h k s)<=200000*s/\(∀p∈zb F h k s,p.1<=1000000/\p.2<=1000000)/\B 9=.one cp/\bh 3393153152 135 2 (lN (zb F h k s)) (.one cp) ao) 0 2 (bZ _) ?_ ?_
  .refine⟨?_,?_,?_,?_,?_,?_,?_,y,.p .nils,bZ _,(λp ar=>by cases ar),?_,bh.nil⟩<;>(simp only[go_sem,h0,Y,ot,lD,h5];first|done|rfl)
  rintro s B ao ae ⟨H,L,E,z,u,N,A,y,cp,a0,eE,Q,gp⟩
  by_cases hsl:s<2
  .have am:((s:Int)<2):=J;obtain⟨j,Hs,mV,vB⟩:=OA g (d:=2*k+s) J;obtain⟨a1,Zy⟩:=vH _ (a7 mV);have Ar:=jy Hs;have Cw:=NS mV;have m2:=rQ (a:=k) J;have m3:=tm (a:=2*k) (b:=s) J;have w2:=cS (n:=s) J;have zi:2*k+s<I (kX F h):=by rw[GA];omega
   have BH:=awR F h k s;generalize gJ F h (2*k+s)=f at*;generalize zb F h k s=ps at*;simp only[go_sem,acG,H,L,E,z,u,N,A,Q,am,m2,m3,zi,Ar,vB,Cw,dL.ps];refine s_ (gp.of_eq (by simp only[bG,Nat.reduceEqDiff,if_false])) rfl (.inr (by simp[aB])) (by simp only[cg];omega) λc' mO r1 u1 g1 mS kN=>?_;rw[show lN ps++lN f.places=lN (ps++f.places) by simp[lN]]at g1;simp only[go_sem,H,L,E,z,u,N,A,w2,hsl];rw[BH];refine⟨?_,y.of_eq (mS 3393536576 aa aa),c',by rw[gb];omega,λp hp=>?_,rfl,g1⟩
   .rcases kN with⟨rfl,rfl⟩|⟨rfl,rfl⟩|⟨rfl,rfl⟩<;>kernel_rfl
   rcases gn.1 hp with ar|ar
   .exact eE p ar
   exact Zy p ar
  have:s=2:=J;subst this;have h2:¬(((2:Nat):Int)<2):=aa;have dF:I (E3 F h k)<=400000:=by
   have Y:=avD (rK oG (xk (zb F h k 2)));rw[YD]at Y;have h2:I (xk (zb F h k 2))=I (zb F h k 2):=by simp[xk]
   unfold E3;omega
  have M:=auB F h k;have JB:E3 F h k=o_ (rK oG (xk (zb F h k 2))):=rfl;generalize xh F h k=m at*;generalize E3 F h k=ck at*;generalize zb F h k 2=ps at*;have nW:I (xh F h (k+1))<=400000*(k+1):=by rw[M,gb,cg];omega
  simp only[go_sem,acG,ahQ,H,L,E,z,u,N,A,Q,h2,asL];rcases gp with⟨he,hc⟩|⟨he,Z,hc,hC⟩
  .cases hc;refine NU (by rfl) (.inl rfl) (λqc _=>aos) λv b T=>?_;obtain⟨rfl,rfl⟩:=T;simp only[go_sem,H,L,E,z,u,N,A,Q,adh];refine NU (by rfl) (.inl rfl) (λqc _=>axS) λv b2 T=>?_;obtain⟨rfl,rfl⟩:=T;have z0:¬((0:Int)<((0:Nat):Int)):=aa;simp only[go_sem,H,L,E,z,u,N,A,Q];refine og ?_;simp only[go_sem,Vk,H,L,E,z,u,N,A,Q,z0,w1,aw];have ap:ps=[]:=by simpa using he
   subst ap;subst JB;exact⟨c,nW,rfl,by rw[M];simpa [xk,rK,o_]using y⟩
  cases hc;rw[<-ayn]at hC;have l9:I (xk ps)=I ps:=by simp[xk]
  have D0:I (lN ps)=I (xk ps):=by simp[xk]
  have ad:(xk ps).all CX:=j4.2 λx hx=>by obtain⟨p,hp,rfl⟩:=ch.1 hx;have:=eE p hp;simp only[CX,cP,iJ];omega
  rw[D0]at Q |-;refine zG hC (by rfl) (.inl rfl) (λqc o1 o2=>aqP o1 hC J ad) λv b T=>?_;obtain⟨rfl,rfl⟩:=T;simp only[go_sem,H,L,E,z,u,N,A,Q,adh];have hsl:=YD oG (xk ps);rw[<-hsl]at Q |-;generalize rK oG (xk ps)=so at*;subst JB;have Bz:dV ao 3393153152 (Z,some (.arr 135 2 (qZ so))) 3393153152=(Z,some (.arr 135 2 (qZ so))):=zI;have wH:bh 3393536576 iG 7 (cO m) (.one c) (dV ao 3393153152 (Z,some (.arr 135 2 (qZ so)))):=y.of_eq (ct aa);generalize dV ao 3393153152 (Z,some (.arr 135 2 (qZ so)))=bK at*;refine zG Bz (by rfl) (.inl rfl) (λqc o1 o2=>asi o1 J Bz) λv mO T=>?_
  obtain⟨⟨ac,cs,hm,eh,l8,rfl,hb⟩,dN⟩:=T;rw[<-l8]at dF M;have aF:I (cs.take ac)=ac:=by rw[jO];omega
  simp only[go_sem,H,L,E,z,u,N,A,Q];refine dt (λi D wg=>D 0=.one (.p (eK F h))/\D 1=aI 2/\D 8=aI k/\D 41=aI (I h)/\D 42=aI k/\D 80=.one (.hsl 3393153152 Z 2 0 ac)/\D 81=aI ac/\D 82=aI i/\wg 3393153152=(Z,some (.arr 135 2 (qZ cs)))/\ ∃c,D 5=.one c/\bh 3393536576 iG 7 (cO (m++((cs.take i).map (Wy k)))) (.one c) wg) 0 ac (bZ _) ?_ ?_
  .refine⟨?_,?_,?_,?_,?_,?_,?_,?_,hb,c,?_,by simpa using(wH.of_eq (dN 3393536576 aa))⟩<;>(simp only[go_sem,H,L,E,z,u,A];first|done|rfl)
  rintro i D wg hi ⟨r0,r1,r8,Im,Io,O,R,X,fv,c,r5,y⟩
  by_cases qo:i<ac
  .have Mt:((i:Int)<(ac:Int)):=J;obtain⟨x,hx⟩:=aP (h:=cs) (k:=i) J;have w3:=cS (n:=i) J;simp only[go_sem,Vk,r0,r1,r8,Im,Io,O,R,X,r5,fv,qo,Mt,K8 hx];refine re (y.of_eq (by simp only[bG,Nat.reduceEqDiff,if_false])) (by simp only[hU,bG,if_true];rfl) (.inl rfl) (by simp only[oI,gb,cg,jO,fP,ga];omega) λc2 OG ag FP=>?_;have ab:=FP 3393153152 aa aa;simp only[go_sem,fv]at ab;simp only[go_sem,r0,r1,r8,Im,Io,O,R,X,w3,qo];exact⟨ab,c2,rfl,by rw[Dx hx,fL,<-lf,K7];exact ag⟩
  have:i=ac:=J;subst this;simp only[go_sem,Vk,r0,r1,r8,Im,Io,O,R,X,r5,fF,w1,aw];exact⟨c,nW,rfl,by rw[M];exact y⟩
 have:k=I h:=J;subst this;simp only[go_sem,vY,Gr,h0,Y,ot,lD,h5,fF];exact⟨_,⟨DU,rfl⟩,ve y⟩
end
abbrev FN:Nat:=31
abbrev QT:Nat:=24
def Fi(i:Nat):dW:=[.int .i64 2,.int .i64 0,.int .i64 i,.int .i64 0,.bool false,.bool false,.int .i64 0]
def vT(n:Nat):dI:=(List.range n).map Fi
def ai4(F i:Nat):dW:=[.int .i64 F,.sl (cX (nq i))]
def Fv(F n:Nat):dI:=(List.range n).map (ai4 F)
def ajM(n:Nat):vT (n+1)=vT n++[Fi n]:=by simp[vT,nJ]
def atr(F n:Nat):Fv F (n+1)=Fv F n++[ai4 F n]:=by simp[Fv,nJ]
def VC(n:Nat):I (vT n)=n:=by simp[vT]
def aCe(F n:Nat):I (Fv F n)=n:=by simp[Fv]
def anD{k:Nat}(h:k<n):(vT n)[k]?=some (Fi k):=by simp[vT,h]
section
variable {F:Nat}
def ah3(O:F<=40):aL S 53 [Ei F,aI 2] (.one (cU FN 7 (vT (F+1)))):=by
 have H:(((0:Nat):Int)==0):=aa;refine cG Iz ?_;simp only[go_sem,i53,H];refine dt (λk A blk=>A 0=Ei F/\A 1=aI 2/\A 6=aI ((0:Nat):Int)/\A 7=aI k/\ ∃c,A 5=.one c/\bh 3392448320 FN 7 (vT k) (.one c) blk) 0 (F+1) (bZ _) ?_ ?_
 .simp only[go_sem];first|exact⟨rfl,.p .nils,rfl,.inl ⟨rfl,rfl⟩⟩|exact⟨rfl,rfl,.p .nils,rfl,.inl ⟨rfl,rfl⟩⟩|exact⟨.p .nils,rfl,.inl ⟨rfl,rfl⟩⟩
 rintro k A blk L ⟨E,h,j,f,c,m,u⟩
 by_cases y:k<F+1
 .have z:((k:Int)<=(F:Int)):=J;have v:=cS (n:=k) J;have ae:=ajM k;simp only[go_sem,aaw,E,h,m,j,f,z];refine re (m:=3392448320) (id:=3392448320) (bytes:=48) (B:=[Fi k]) (rd:=[3392448256]) (u.of_eq (ct aa)) (by simp[hU,bG,Fi]) (.inl rfl) (by simp only[VC,fP,ga];omega) λx M B D=>?_;simp only[go_sem,E,h,j,f,v,y];refine⟨x,rfl,?_⟩;rw[ae];exact B
 have:k=F+1:=J;subst this;have N:¬(((F+1:Nat):Int)<=(F:Int)):=J;simp only[go_sem,aaw,FH,E,h,m,j,f,N];refine og ?_;simp only[go_sem,vY,Gr,E,h,m,j,f,we];exact ve u
def ai5{k:Int}(H:(k==2)=false):aL S 53 [Ei F,aI k] (.one (cU FN 7 [])):=by have h:(((0:Nat):Int)==0):=aa;refine cG Iz ?_;simp only[go_sem,i53,FH,h,H];refine og ?_;simp only[go_sem,vY,Gr,we];rfl
end
def aBa{k:Nat}(h:k<10):aL S 101 [.one (.p (.sl (bQ (kinds 10)))),aI ((k+1:Nat):Int)] (fv true):=by
 have:∀k,k<10->Fm S 20 101 [.one (.p (.sl (bQ (kinds 10)))),aI ((k+1:Nat):Int)]=some (fv true):=by intro k h;rcases(show k=0\/k=1\/k=2\/k=3\/k=4\/k=5\/k=6\/k=7\/k=8\/k=9 by omega)with rfl|rfl|rfl|rfl|rfl|rfl|rfl|rfl|rfl|rfl<;>kernel_rfl
 exact acq S 20 (this k h)
def Lr{a:PV}{id g z o l:Nat}:Dk [[.p a,.hsl id g z o l]]=none:=rfl
def adU{blk:aJ}{s g h T z:Nat}{x:Int}{f:bd}{D:dI}(H:blk s=(g,some (.lh E 2 [[.p (.int .i64 x),f]])))(gd:bh h T z D (.one f) blk):
  ∃fr,hU blk (.one (.hsl s g 2 0 1))=some ([[.int .i64 x,.sl D]],[s],fr)/\yU blk fr/\(fr=[]\/fr=[h]):=by
 obtain⟨r1,n,A,Q⟩:=gd.V5;refine⟨r1,?_,A,Q⟩;simp only[hU,H];simp[iB,n,Xh,PV.norm]
end
end Go.Abs
