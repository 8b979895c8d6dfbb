/- A part. -/
import Derived.Test.YtgjjncbeombnbaaGreatDoorWg
set_option linter.all false
open List renaming length->I
set_option maxRecDepth 100000
set_option maxHeartbeats 16000000
namespace Go.Abs
variable{j y m:Nat}{Q:gX}{A:bj}{M:dC}{L B:Int}{h:af}{H:fO}{R E N:Nat->Nat->Prop}
section
variable{z n x:Nat}{f:c9}{v:Int}{D:aC}{u:fO}
def amZ{S:fT}(h:dO S x=false):x<I S:=by grind
def aie(next:Nat->Nat):∀(k x:Nat) (S:fT),(∀y∈(gG next k x S).1,dO S y=false)/\(gG next k x S).1.Nodup/\ ∀y,dO (gG next k x S).2 y=(dO S y||decide (y∈(gG next k x S).1)):=by
 intro k
 induction k with
 |zero=>intro x S;simp[gG]
 |succ k f=>
  intro x S;unfold gG
  grind
def axL(next:Nat->Nat)(N:Nat):∀k,(fi next N k).1.flatten.Nodup/\(∀y,y<N->dO (fi next N k).2 y=decide (y∈(fi next N k).1.flatten))/\(∀y∈(fi next N k).1.flatten,y<N)/\ ∀x,x<k->x<N->dO (fi next N k).2 x:=by
 intro k
 induction k with
 |zero=>
  refine⟨by simp[fi],λy H=>?_,by simp[fi],λx f=>absurd f (nJ x)⟩
  grind [fi]
 |succ k B=>
  obtain⟨L,u,F,v⟩:=B;rw[yJ];unfold u6;have j:=FZ next N k;cases A:(fi next N k).2.getD k true with
  |true=>grind
  |false=>
   rw[ai aa];have n:k<N:=by have:=amZ A;omega
   obtain⟨g1,D,m⟩:=aie next ((fi next N k).2.length+1) k (fi next N k).2;have z:=adO next ((fi next N k).2.length+1) k (fi next N k).2 (by have:=IX (fi next N k).2;omega);refine⟨?_,λy H=>?_,?_,λx f E=>?_⟩
   .grind
   .rw[m,u y H,Gx,Ik];simp
   .intro y H;rw[Gx,iR]at H
    grind
   rcases wT.1 f with h|rfl
   .rw[m,v x h E];rfl
   exact z
theorem yZ(next:Nat->Nat)(N:Nat):(fF next N).flatten.Nodup/\ ∀y,y<N->y∈(fF next N).flatten:=by obtain⟨f,H,_,j⟩:=axL next N N;refine⟨f,λy h=>?_⟩;have:=j y h h;rw[H y h]at this;exact D1 this
def T8{L:List aC}(h:L.flatten.Nodup){i:Nat}{a b:aC}(H:L[i]?=some a)(f:L[j]?=some b)(m:x∈a)(u:x∈b):i=j:=by
 induction L generalizing i j with
 |nil=>simp at H
 |cons l L n=>grind [BH]
section
variable {F:Nat} {h:af}
def OB(H:(fB F h)[j]?=some f):∃w,(fF (aO h) (nD h))[j]?=some w/\f=kO F h w:=by
 unfold fB at H
 grind
def agE{i:Nat}{a b:c9}{d:Nat}(x:(fB F h)[i]?=some a)(n:(fB F h)[j]?=some b)(H:d∈a.cT)(f:d∈b.cT):i=j:=by obtain⟨v,u,rfl⟩:=OB x;obtain⟨w,m,rfl⟩:=OB n;rw[y8]at H f;exact T8 (yZ _ _).1 u m (pg.1 H).1 (pg.1 f).1
def agf(j:f∈fB F h):f.cT.Nodup:=by
 obtain⟨w,H,rfl⟩:=cD.1 j;rw[y8];have:=(yZ (aO h) (nD h)).1
 grind
def al3{d:Nat}(n:d<2*I h):∃(j:Nat) (f:c9),(fB F h)[j]?=some f/\d∈f.cT:=by
 have:=(yZ (aO h) (nD h)).2 d (by grind);obtain⟨w,H,A⟩:=BH.1 this;obtain⟨j,m⟩:=fX H;refine⟨j,kO F h w,by unfold fB;rw[dy,m];rfl,?_⟩;rw[y8]
 grind
theorem aeP{D:aC}{v:Nat}{d:Nat}:∀ {L:aC},d<I L->(qI L D v)[d]?=if d∈D then some v else L[d]? :=by
 induction D with
 |nil=>intro L _;simp[qI]
 |cons e D f=>
  intro L h;show(qI _ D v)[d]?=_;rw[f (by grind),pA]
  grind
def av0{d:Nat}:∀ {fs:BC}{j:Nat}{L:aC},d<I L->(∀f∈fs,d∉f.cT)->(qe fs j L)[d]?=L[d]? :=by
 intro fs
 induction fs with
 |nil=>intro j L _ _;rfl
 |cons f fs h=>grind [qe,aeP]
def api{d:Nat}:∀ {fs:BC}{j i:Nat}{L:aC}{f:c9},d<I L->fs[i]?=some f->d∈f.cT->(∀m F,fs[m]?=some F->d∈F.cT->m=i)->(qe fs j L)[d]?=some (j+i):=by
 intro fs
 induction fs with
 |nil=>intro j i L f _ h;simp at h
 |cons g fs y=>
  intro j i L f n H hf v;show(qe fs (j+1) _)[d]?=_;cases i with
  |zero=>
   simp at H;subst H;rw[av0 (by rw[RH];exact n),aeP n,an hf]
   .rfl
   intro F u D;obtain⟨m,z⟩:=fX u;have:=v (m+1) F (by grind) D;omega
  |succ i=>simp at H;rw[y (by rw[RH];exact n) H hf λm F A x=>by have:=v (m+1) F (by grind) x;omega];congr 1;omega
def left_at{d:Nat}(x:d<2*I h)(hf:(fB F h)[j]?=some f)(H:d∈f.cT):(kX F h)[d]?=some j:=by unfold kX;rw[api (by grind) hf H λv u m n=>agE m hf n H];congr 1;omega
def MT{d:Nat}(H:d<2*I h):∃j,(fB F h)[j]?=some (gv F h d)/\d∈(gv F h d).cT/\(kX F h)[d]?=some j:=by
 obtain⟨j,f,hf,m⟩:=al3 H;have hl:=left_at H hf m;have e:gv F h d=f:=by unfold gv;rw[dz (l:=kX F h),hl,nm,dz,hf,nm]
 grind
theorem amC{d:Nat}(H:d<2*I h)(hf:f∈fB F h)(m:d∈f.cT):gv F h d=f:=by
 obtain⟨j,u,n,_⟩:=MT H;obtain⟨i,v⟩:=fX hf;have:=agE v u m n
 grind
theorem Yw{d:Nat}(H:d<2*I h):gv F h d∈fB F h:=by obtain⟨j,f,_⟩:=MT H;exact aX f
def Gu(pl:Nat)(E:aC)(f:c9):Bool:=(I f.cT==I E)&&((I f.places==pl)&&E.all λe=> !(decide (2*e∈f.cT)==decide (2*e+1∈f.cT)))
def zy(F:Nat)(h:af)(pl:Nat)(E:aC):Bool:=(fB F h).any (Gu pl E)
theorem akz(h:f.cT.Nodup)(e:Nat):wa f e=(if 2*e∈f.cT then 1 else 0)+(if 2*e+1∈f.cT then 1 else 0):=by
 unfold wa;generalize f.cT=D at h
 induction D with
 |nil=>simp
 |cons d D j=>grind
def ahm(h:f.cT.Nodup)(pl:Nat)(E:aC):wg f pl E=Gu pl E f:=by grind [wg,Gu,akz]
theorem Hj{pl:Nat}{E:aC}{f:Nat}(j:E[0]?=some f)(H:f<I h):mI F h pl E f=zy F h pl E:=by
 unfold mI zy;have m:=Yw (F:=F) (h:=h) (d:=2*f) J;have M:=Yw (F:=F) (h:=h) (d:=2*f+1) J;rw[ahm (agf m),ahm (agf M),Ik,qZ,Fv]
 grind [Gu,amC]
end
abbrev im:Nat:=29
abbrev ac4:Nat:=3
def Hn(k:Int)(z:Nat)(m:dG):Prop:=m.k=k/\m.a=(z:Int)/\m.l=false/\m.o=false/\m.s=0/\G6 m
def asM{l:bQ}(h:I l=2):∃a b,l=[a,b]:=by
 match l,h with
 |[a,b],_=>exact⟨a,b,rfl⟩
def azU{l:bQ}(h:I l=3):∃a b c,l=[a,b,c]:=by
 match l,h with
 |[a,b,c],_=>exact⟨a,b,c,rfl⟩
def PC(blk:aG)(v:V)(A:aG):Prop:=v=.tup []/\A=blk
def Np{al:bU}{blk:aG}{os:fm}{d:dZ}{f:Nat}{P:V->aG->Prop}(R:(M.map (pk blk)).flatten=[])(H:al=.all\/(S.sites f).all al.fs.contains)
  (h:∀O,O.fs=S.sites f->∃v j,jG S f M O blk v j/\P v j) (n:∀v j,P v j->jP S al os Q (ef A d v) j):jD S al (.sc f M) d os Q A blk:=by
 refine wN ?_ (h _ rfl) n;rcases H with rfl|m
 .rfl
 refine L3 ?_ m;show al.iJ (M.map _).flatten=true;rw[R];rfl
def auA{al:bU}{blk:aG}:∃v A,jG S 189 [.one (.p .nils),aE 0,aE 0,C5] al blk v A/\PC blk v A:=by refine oX ai1 (jx rfl) ?_;have f:IntKind.i64.wrap 1=1:=aa;have h:¬((1:Int)<0):=aa;simp only[go_sem,YO];refine mP ?_;simp only[go_sem,Pq,f,h];first|done|exact⟨rfl,rfl⟩|trace_state
def ate{al:bU}{blk:aG}(f:al.fs.contains 189)(L:Int):∃v A,jG S 177 [.one (.p .nils),aE 0,aE 0,aE L,C5] al blk v A/\PC blk v A:=by refine oX ado (jx rfl) ?_;have j:IntKind.i64.wrap (0-0)=0:=aa;have y:((0:Int)<=12):=aa;simp only[go_sem,UD];refine mP ?_;simp only[go_sem,Zu,j,y,agC];refine Np (by rfl) (.inr (by rw[show S.sites 189=[189] by kernel_rfl];simp only[v_,zo,f,Dq])) (λO _=>auA) λv A h=>?_;obtain⟨rfl,H⟩:=h;simp only[go_sem];exact⟨rfl,H⟩
def ayf{al:bU}{blk:aG}(F:(S.sites 177).all al.fs.contains):∃v A,jG S 148 [.one (.p .nils),C5] al blk v A/\PC blk v A:=by obtain⟨k,pb⟩:=XS 0 J;have j:IntKind.u64.wrap ((0:Nat):Int)=((0:Nat):Int):=aa;refine oX aaq (jx rfl) ?_;have f:S.shared 144=false:=ah;simp only[go_sem,Yu,j,f,Uu pb,ab6];refine Np (by rfl) (.inr F) (λO h=>ate (by rw[h];kernel_rfl) k) λv A H=>?_;obtain⟨rfl,h⟩:=H;simp only[go_sem];exact⟨rfl,h⟩
def kA(v:Int)(z:Nat)(D:aC)(u:fO):Prop:=
 (v≠8->∀b:Nat,z<b->I D=2->(∃d∈D,d/2=z)->(∃d∈D,d/2=b)->(⟨v,z,b,0,false,false,0⟩:dG)∈u)/\
 (v=8->∀b c:Nat,z<b->b<c->I D=3->(∃d∈D,d/2=z)->(∃d∈D,d/2=b)->(∃d∈D,d/2=c)->(⟨v,z,b,c,false,false,0⟩:dG)∈u)
def kA.app(h:kA v z D u)(x:fO):kA v z D (u++x):=
 ⟨λa b c d e f=>Jv _ (h.1 a b c d e f),λa b c d e f g i j=>Jv _ (h.2 a b c d e f g i j)⟩
theorem alj(h:I D=2)(f:x∈D)(H:y∈D)(A:x≠y):∀z∈D,z=x\/z=y:=by
 match D,h with
 |[a,b],_=>grind
theorem aqe(h:I D=3){w:Nat}(j:x∈D)(f:y∈D)(H:w∈D)(n:x≠y)(N:x≠w)(m:y≠w):∀z∈D,z=x\/z=y\/z=w:=by
 match D,h with
 |[a,b,c],_=>grind
def kA.low{d:Nat}(H:d∈D)(h:d/2<z):kA v z D u:=by
 constructor
 .grind [alj]
 grind [aqe]
def kA.uG(h:I D=1\/3<I D):kA v z D u:=
 ⟨λ_ b _ f=>J,λ_ b c _ _ H=>J⟩
def kA.two8(h:I D=2)(H:v=8):kA v z D u:=
 ⟨λh=>absurd H h,λ_ b c _ _ f=>J⟩
def kA.three(h:I D=3)(H:v≠8):kA v z D u:=
 ⟨λ_ b _ f=>J,λh=>absurd h H⟩
def kA.two(h:I D=2)(hp:[L,B].Perm (D.map λd=>((d/2:Nat):Int)))(ae:tg vu [L,B] 0 2)(H:v≠8)(F:(⟨v,z,B,0,false,false,0⟩:dG)∈u):kA v z D u:=by
 refine⟨?_,λh=>absurd h H⟩;rintro _ b N _ ⟨x,j,E⟩ ⟨y,f,m⟩
 have M:=hp.mem_iff.2 (cD.2 ⟨x,j,by rw[E]⟩);have n:=hp.mem_iff.2 (cD.2 ⟨y,f,by rw[m]⟩);have A:=ae 0 1 L B J J J rfl rfl
 grind
def kA.thr{Y:Int}(h:I D=3)(hp:[L,B,Y].Perm (D.map λd=>((d/2:Nat):Int)))(ae:tg vu [L,B,Y] 0 3)(N:(⟨v,z,B,Y,false,false,0⟩:dG)∈u):kA v z D u:=by
 refine⟨λ_ b _ f=>J,?_⟩;rintro _ b c T M _ ⟨x,m,E⟩ ⟨y,j,n⟩ ⟨w,H,A⟩
 have Q:=hp.mem_iff.2 (cD.2 ⟨x,m,by rw[E]⟩);have f:=hp.mem_iff.2 (cD.2 ⟨y,j,by rw[n]⟩);have O:=hp.mem_iff.2 (cD.2 ⟨w,H,by rw[A]⟩);have F:=ae 0 1 L B J J J rfl rfl;have R:=ae 1 2 B Y J J J rfl rfl
 grind
def aaF{l:fO}{x:dG}(h:l.Nodup)(H:x∉l):(l++[x]).Nodup:=by grind
def axK{f:fO}{k:Int}(A:∀m∈f,Hn k z m)(v:f.Nodup)(ae:tg r9 f 0 (I f)):f.Pairwise λx y=>r9 x y=true:=by
 rw[F_];intro i j H h u;have N:=ae i j f[i] f[j] (bN _) u h (re H) (re h);have n:f[i]≠f[j]:=λe=>by have:=(List.getElem_inj v).1 e;omega
 have k1:=A _ (XK H);have k2:=A _ (XK h);generalize f[i]=x at*;generalize f[j]=y at*;cases F:r9 x y with
 |true=>rfl
 |false=>
  exfalso;apply n;obtain⟨L,M,O,B,Q,_⟩:=k1;obtain⟨c1,D,c3,c4,E,_⟩:=k2;cases x;cases y
  grind [r9]
def amT{F:Nat}(g:a_ F h)(v:Int)(ha:z<I h):∃u:fO,(I u<=2/\(∀m∈u,Hn v z m)/\(∀j,j<2->kA v z (gv F h (2*z+j)).cT u)/\u.Pairwise λx y=>r9 x y=true)/\aI S 125 [.one (.p (ez F h)),aE v,aE z] (.one (cP im 7 (cY u))):=by
 have bc:=g.len;have hN:nD h<=1600:=by have:=uW h (I h);unfold nD;have:I (ay h)<=I h:=uW h (I h);omega
 suffices H:∃r,(∃u:fO,(I u<=2/\(∀m∈u,Hn v z m)/\(∀j,j<2->kA v z (gv F h (2*z+j)).cT u)/\u.Pairwise λx y=>r9 x y=true)/\r=.one (cP im 7 (cY u)))/\aI S 125 [.one (.p (ez F h)),aE v,aE z] r by obtain⟨r,⟨u,h1,rfl⟩,Y⟩:=H;exact⟨u,h1,Y⟩
 refine Cd rfl avg (jx rfl) ?_;simp only[go_sem,adJ];refine df (λk A blk=>A 0=.one (.p (ez F h))/\A 1=aE v/\A 2=aE z/\A 14=aE k/\ ∃u c,I u<=k/\(∀m∈u,Hn v z m)/\(∀j,j<k->kA v z (gv F h (2*z+j)).cT u)/\u.Nodup/\A 7=.one c/\a8 8001280192 im 7 (cY u) (.one c) blk) 0 2 (bN _) ?_ ?_
 .simp only[go_sem];exact⟨rfl,[],.p .nils,ct _,λm H=>(by cases H),λj H=>absurd H (nJ _),qX,rfl,a8.nil⟩
 rintro k A blk hk ⟨h0,h1,Y,yg,u,c,Ef,E,ab,T,h7,gm⟩
 by_cases aB:k<2
 .have aL:((k:Int)<2):=J;obtain⟨j,Kv,lH,FM⟩:=KL g (d:=2*z+k) J;have Wx:=aX lH;have vW:=iY Kv;have Bb:=Mr lH;have m2:=qg (a:=z) J;have m3:=rX (a:=2*z) (b:=k) J;have w1:=cE (n:=k) J;have A6:2*z+k<I (kX F h):=by rw[Gf];omega
  have Kj:=Xy Wx;have a5:=Vf g.ok Wx;obtain⟨_,_,az,_⟩:=MT (h:=h) (d:=2*z+k) J;have Q:∀OZ:fO,kA v z (gv F h (2*z+k)).cT (u++OZ)->∀j,j<k+1->kA v z (gv F h (2*z+j)).cT (u++OZ):=λOZ H j hj=>by
   by_cases e:j=k
   .rw[e];exact H
   exact(ab j J).app OZ
  have Ir:kA v z (gv F h (2*z+k)).cT u->∀j,j<k+1->kA v z (gv F h (2*z+j)).cT u:=λH=>by have:=Q [] (by rw[i_];exact H);rwa[i_]at this
  generalize HC:gv F h (2*z+k)=f at*;simp only[go_sem,UU,h0,Y,yg,aL,m2,m3,vW,Bb,c9.ps];refine⟨aS,?_⟩;obtain⟨g9,hg9⟩:∃g9,(blk 8000321024).fst+1=g9:=⟨_,rfl⟩;rw[hg9];refine df (λq O aZ=>O 0=.one (.p (ez F h))/\O 1=aE v/\O 2=aE z/\O 14=aE k/\O 7=.one c/\a8 8001280192 im 7 (cY u) (.one c) aZ/\O 9=.one (.bh 8000321024 g9 0)/\aZ 8000321024=(g9,some (.var (f.ps.map .p)))/\O 34=.one (.p (.sl (bt f.cT)))/\O 35=aE (I f.cT)/\O 36=aE q/\(0<q->I f.cT<=3)/\ ∃zs ce,I zs=q/\zs=(f.cT.take q).map (λd=>((d/2:Nat):Int))/\(∀a1∈zs,0<=a1/\a1<=1000000)/\O 10=.one ce/\a8 8000704256 ac4 1 (dR zs) (.one ce) aZ) 0 (I f.cT) (bN _) ?_ ?_
  .have aF:a8 8001280192 im 7 (cY u) (.one c) (dN (dN blk 8000321024 (g9,some (fZ.var [a7.p (PV.bool false),a7.p PV.nils,a7.p PV.nils,a7.p PV.nils,a7.p (PV.bool false)]))) 8000321024 (g9,some (fZ.var (f.ps.map .p)))):=gm.of_eq ((cF aa).trans (cF aa));simp only[go_sem,h0,h1,Y,h7,yg,c9.ps]at aF |-;refine⟨aF,rfl,λH=>H.elim,[],.p .nils,rfl,rfl,λa1 H=>(by cases H),rfl,a8.nil⟩
  rintro q O aZ hq ⟨Z,N,D,X,M,uJ,p9,b9,Gi,O9,Pa,h3,zs,ce,mR,Oz,ad,EA,gz⟩
  simp only[c9.ps,eQ,oO]at b9;by_cases F0:q<I f.cT
  .have WI:((q:Int)<(I f.cT:Int)):=J;obtain⟨d,hd⟩:=aM F0;have ot:=iY hd;have be:=Kj d (aX hd);have wq:=wrap_small (n:=d/2) J;have w2:=cE (n:=q) J;by_cases c1:d/2<z
   .have ac:(((d/2:Nat):Int)<(z:Int)):=J;simp only[go_sem,K5,C6,Z,N,D,X,M,p9,EA,Gi,O9,Pa,b9,F0,WI,ot,jX,nq,wq,ac,w1,aB];exact⟨u,c,J,E,Ir (.low (aX hd) c1),T,rfl,uJ⟩
   have ac:¬(((d/2:Nat):Int)<(z:Int)):=J;by_cases c2:3<I f.cT
   .have ak:((3:Int)<(I f.cT:Int)):=J;simp only[go_sem,K5,C6,Z,N,D,X,M,p9,EA,Gi,O9,Pa,b9,F0,WI,ot,jX,nq,wq,ac,ak,w1,aB];exact⟨u,c,J,E,Ir (.uG (.inr c2)),T,rfl,uJ⟩
   have ak:¬((3:Int)<(I f.cT:Int)):=J;simp only[go_sem,K5,D,p9,EA,Gi,O9,Pa,b9,WI,ot,jX,nq,wq,ac,ak];refine ri (B:=[[.int .i64 ((d/2:Nat):Int)]]) (gz.of_eq (cF aa)) (by simp only[gP,ba,if_true];rfl) (.inl rfl) (by simp only[vC,fG,gk];omega) λc2 lQ a3 hb=>?_;have q9:=hb 8000321024 aa aa;have R:=uJ.of_eq ((hb 8001280192 aa aa).trans (cF aa));simp only[go_sem,b9]at q9;simp only[go_sem,Z,N,D,X,M,p9,Gi,O9,Pa,q9,w2,c9.ps];refine⟨F0,R,λ_=>J,zs++[((d/2:Nat):Int)],c2,by simp;omega,by rw[Oz,jB,hd];simp,λa1 hz=>?_,rfl,?_⟩
   .rcases iR.1 hz with H|H
    .exact ad a1 H
    have:=nY.1 H;omega
   rw[show dR (zs++[((d/2:Nat):Int)])=dR zs++[[.int .i64 ((d/2:Nat):Int)]] by simp[dR]];exact a3
  have:q=I f.cT:=J;subst this;have a6:0<I f.cT:=K4 az;have wU:=h3 a6;rcases gz with⟨e,_⟩|⟨_,gg,e,bz⟩
  .have a4:I (dR zs)=0:=by rw[e];rfl
   rw[vC]at a4;omega
  cases e;have sS:S.shared 116:=ah;simp only[go_sem,K5,aiB,EA,O9,Pa,ff,sS,vC];refine xN bz (by rfl) (.inl rfl) (P:=S4 vu 8000704256 gg ac4 zs aZ) (λoh h1 Y=>VU h1 (by rw[Y];kernel_rfl) J bz) λbf lQ hP=>?_;obtain⟨rfl,⟨ws,bw,pw,sw⟩,kw⟩:=hP;have R:=uJ.of_eq (kw 8001280192 aa);have ud:=pw.length_eq;have lV:ws.Perm (f.cT.map λd=>((d/2:Nat):Int)):=by rw[Oz,jz]at pw;exact pw
  have ag:∀a1∈ws,0<=a1/\a1<=1000000:=λa1 hz=>ad a1 (pw.mem_iff.1 hz);rw[mR]at ud;clear pw ad b9 bz;clear h3 F0 Kj a5 Wx az hq Oz;generalize yz:I f.cT=n at*;have M9:S.shared 147=false:=ah;have Bt:(((2:Nat):Int)==2):=aa;have a2:(((1:Nat):Int)==2)=false:=aa;have ar:(((3:Nat):Int)==2)=false:=aa;have a9:(((1:Nat):Int)==3)=false:=aa;have rV:(((2:Nat):Int)==3)=false:=aa;have a0:(((3:Nat):Int)==3):=aa;rcases(by omega:n=1\/n=2\/n=3)with rfl|rfl|rfl
  .simp only[go_sem,C6,Z,N,D,X,M,EA,mR,a2,a9,w1,aB];exact⟨u,c,J,E,Ir (.uG (.inl yz)),T,rfl,R.of_eq ((cF aa).trans (cF aa))⟩
  .obtain⟨L,B,rfl⟩:=asM ud;by_cases h8:v=8
   .have e8:(v !=8)=false:=by rw[h8];rfl
    simp only[go_sem,C6,Z,N,D,X,M,EA,mR,Bt,rV,e8,w1,aB];exact⟨u,c,J,E,Ir (.two8 yz h8),T,rfl,R.of_eq ((cF aa).trans (cF aa))⟩
   have e8:(v !=8):=by simpa using h8
   simp only[go_sem,C6,N,D,M,EA,mR,Bt,e8,bw];obtain⟨bb,vO,am⟩:=ahY u ⟨v,z,B,0,false,false,0⟩ J;have XJ:aI S 147 [.one (.p (.sl (cY u))),.agg [.p (.int .i64 v),.p (.int .i64 z),.p (.int .i64 B),.p (.int .i64 0),.p (.bool false),.p (.bool false),.p (.int .i64 0)]] (eh bb):=am;obtain⟨r,ap,hr⟩:=R.LR;simp only[go_sem,M9,ap,eU XJ];cases bb with
   |true=>simp only[go_sem,Z,N,D,X,M,w1,aB];exact⟨u,c,J,E,Ir (.two yz lV sw h8 (vO.1 rfl)),T,rfl,R.of_eq (by simp only[ba,Nat.reduceEqDiff,if_false])⟩
   |false=>
    simp only[go_sem,M];refine ri (B:=[dG.ps ⟨v,z,B,0,false,false,0⟩]) (R.of_eq (by simp only[ba,Nat.reduceEqDiff,if_false])) (by simp only[gP,ba,if_true];rfl) (.inl rfl) (by simp only[sV,fG,gk];omega) λc2 vE ye qK=>?_;simp only[go_sem,Z,N,D,X,w1,aB];refine⟨u++[⟨v,z,B,0,false,false,0⟩],c2,by simp;omega,λm hm=>?_,Q _ (.two yz lV sw h8 aH),aaF T (vO.2 rfl),rfl,by rw[show cY (u++[⟨v,z,B,0,false,false,0⟩])=cY u++[dG.ps ⟨v,z,B,0,false,false,0⟩] by simp[cY]];exact ye⟩;rcases iR.1 hm with H|H
    .exact E m H
    have:=nY.1 H;subst this;exact⟨rfl,rfl,rfl,rfl,rfl,ag B aH,aH⟩
  obtain⟨L,B,y2,rfl⟩:=azU ud;by_cases h8:v=8
  .have e8:(v==8):=by rw[h8];rfl
   simp only[go_sem,C6,N,D,M,EA,mR,ar,a0,e8,bw];obtain⟨bb,vO,am⟩:=ahY u ⟨v,z,B,y2,false,false,0⟩ J;have XJ:aI S 147 [.one (.p (.sl (cY u))),.agg [.p (.int .i64 v),.p (.int .i64 z),.p (.int .i64 B),.p (.int .i64 y2),.p (.bool false),.p (.bool false),.p (.int .i64 0)]] (eh bb):=am;obtain⟨r,ap,hr⟩:=R.LR;refine⟨aS,?_⟩;simp only[go_sem,M9,ap,eU XJ];cases bb with
   |true=>simp only[go_sem,Z,N,D,X,M,w1,aB];exact⟨u,c,J,E,Ir (.thr yz lV sw (vO.1 rfl)),T,rfl,R.of_eq (by simp only[ba,Nat.reduceEqDiff,if_false])⟩
   |false=>
    simp only[go_sem,M];refine ri (B:=[dG.ps ⟨v,z,B,y2,false,false,0⟩]) (R.of_eq (by simp only[ba,Nat.reduceEqDiff,if_false])) (by simp only[gP,ba,if_true];rfl) (.inl rfl) (by simp only[sV,fG,gk];omega) λc2 vE ye qK=>?_;simp only[go_sem,Z,N,D,X,w1,aB];refine⟨u++[⟨v,z,B,y2,false,false,0⟩],c2,by simp;omega,λm hm=>?_,Q _ (.thr yz lV sw aH),aaF T (vO.2 rfl),rfl,by rw[show cY (u++[⟨v,z,B,y2,false,false,0⟩])=cY u++[dG.ps ⟨v,z,B,y2,false,false,0⟩] by simp[cY]];exact ye⟩;rcases iR.1 hm with H|H
    .exact E m H
    have:=nY.1 H;subst this;exact⟨rfl,rfl,rfl,rfl,rfl,ag B aH,ag y2 aH⟩
  have e8:(v==8)=false:=by simpa using h8
  simp only[go_sem,C6,Z,N,D,X,M,EA,mR,ar,a0,e8,w1,aB];exact⟨u,c,J,E,Ir (.three yz h8),T,rfl,R.of_eq ((cF aa).trans (cF aa))⟩
 have:k=2:=J;subst this;have mr:¬(((2:Nat):Int)<2):=aa;have sS:S.shared 148:=ah;simp only[go_sem,UU,aer,h7,yg,mr,sS];rcases gm with⟨e,e2⟩|⟨aN,gg,e2,bm⟩
 .cases e2;have:u=[]:=by simpa [cY]using e
  subst this;refine Np (by rfl) (.inl rfl) (P:=PC blk) (λoh Y=>ayf (by rw[Y];kernel_rfl)) λbf lQ hP=>?_;obtain⟨rfl,rfl⟩:=hP;simp only[go_sem,h7];exact⟨_,⟨[],⟨aH,(λm H=>by cases H),ab,List.Pairwise.nil⟩,rfl⟩,rfl⟩
 cases e2;rw[sV]at h7 |-;refine xN bm (by rfl) (.inl rfl) (P:=Ph 8001280192 gg im u blk) (λoh h1 Y=>arS h1 (by rw[Y];kernel_rfl) J (λm hm=>(E m hm).2.2.2.2.2) bm) λbf lQ hP=>?_;obtain⟨rfl,⟨ws,bw,pw,sw⟩,kw⟩:=hP;simp only[go_sem,h7];have ud:=pw.length_eq;refine⟨_,⟨ws,⟨J,λm hm=>E m (pw.mem_iff.1 hm),λj hj=>⟨λa b c d e f=>pw.mem_iff.2 ((ab j hj).1 a b c d e f),λa b c d e f g i j'=>pw.mem_iff.2 ((ab j hj).2 a b c d e f g i j')⟩,axK (λm hm=>E m (pw.mem_iff.1 hm)) (pw.nodup_iff.2 T) sw⟩,rfl⟩,?_⟩;rw[<-ud,<-sV ws];refine xT (.inr ⟨λe=>aN ?_,gg,rfl,bw⟩);have h0:I (cY ws)=0:=by rw[e];rfl
 rw[sV,ud]at h0;rw[Ho.1 h0];rfl
def I0(k:Int)(n:Nat)(m:dG):Prop:= ∃a,a<n/\Hn k a m
def ae7{k:Int}{a:Nat}(h:∀m∈u,I0 k n m)(v:∀m∈H,Hn k a m)(j:a<n):∀m∈u++H,I0 k n m:=λm f=>(iR.1 f).elim (h m) λx=>⟨a,j,v m x⟩
def R0 (F:Nat)(h:af)(v:Int)(u:fO):Prop:=(v=1\/v=4->∀a:Nat,a<I h->(⟨v,a,0,0,false,false,0⟩:dG)∈u)/\(v=3\/v=6\/v=8->∀a,a<I h->∀j,j<2->kA v a (gv F h (2*a+j)).cT u)
def kA.qG(h:kA v z D u)(x:fO):kA v z D (x++u):=
 ⟨λa b c d e f=>vx _ (h.1 a b c d e f),λa b c d e f g i j=>vx _ (h.2 a b c d e f g i j)⟩
def Iq(x y:dG):Prop:=x.a<y.a\/(x.a=y.a/\r9 x y)
section
variable {F:Nat} {h:af}
def arO{k:Nat}(h:(∀m∈u,m.a<(k:Int))/\u.Pairwise Iq)(n:∀m∈H,m.a=(k:Int))(hp:H.Pairwise λx y=>r9 x y=true):(∀m∈u++H,m.a<((k+1:Nat):Int))/\(u++H).Pairwise Iq:=by
 refine⟨λm v=>?_,FL.2 ⟨h.2,hp.imp_of_mem λj f hl=>.inr ⟨by rw[n _ j,n _ f],hl⟩,λx j y f=>.inl (by grind)⟩⟩
 grind
def Xf(g:a_ F h)(aN:0<I h)(uP:v=3\/v=6\/v=8):∃u:fO,(I u<=2*I h/\(∀m∈u,I0 v (I h) m)/\R0 F h v u/\u.Pairwise Iq)/\aI S 86 [.one (.p (ez F h)),aE v] (.one (cP im 7 (cY u))):=by
 have ab:=g.len;have lo:S.lone 5506944256=false:=ah;have cA:I (dB (aA h))=I h:=by rw[dB,bG,cZ]
 have iU:(((I h:Nat):Int)==0)=false:=by rw[mE];omega
 suffices Q:∃r,(∃u:fO,(I u<=2*I h/\(∀m∈u,I0 v (I h) m)/\R0 F h v u/\u.Pairwise Iq)/\r=.one (cP im 7 (cY u)))/\aI S 86 [.one (.p (ez F h)),aE v] r by obtain⟨r,⟨u,f,rfl⟩,h2⟩:=Q;exact⟨u,f,h2⟩
 have R:(v==2)=false:=by rw[mE];omega
 have d5:(v==5)=false:=by rw[mE];omega
 have Z:(v==7)=false:=by rw[mE];omega
 refine Cd rfl Gz (jx rfl) ?_;simp only[go_sem,D4,DQ,cA,iU];refine df (λk A blk=>A 0=.one (.p (ez F h))/\A 1=aE v/\A 41=aE (I h)/\A 42=aE k/\ ∃u c,I u<=2*k/\(∀m∈u,I0 v (I h) m)/\(∀a,a<k->∀j,j<2->kA v a (gv F h (2*a+j)).cT u)/\((∀m∈u,m.a<(k:Int))/\u.Pairwise Iq)/\A 5=.one c/\a8 5506944320 im 7 (cY u) (.one c) blk) 0 (I h) (bN _) ?_ ?_
 .simp only[go_sem];exact⟨rfl,[],.p .nils,aH,λm Q=>(by cases Q),λa Q=>absurd Q (nJ _),⟨λm Q=>(by cases Q),List.Pairwise.nil⟩,rfl,a8.nil⟩
 rintro k A blk hk ⟨B,f,y,M,u,c,Ef,T,Ki,tY,O,X⟩
 by_cases D:k<I h
 .have Y:((k:Int)<(I h:Int)):=J;have w1:=cE (n:=k) J;obtain⟨H,⟨ac,x,N8,Oa⟩,pc⟩:=amT g v D;have L:=arO tY (λm hm=>(x m hm).2.1) Oa;have E:∀a,a<k+1->∀j,j<2->kA v a (gv F h (2*a+j)).cT (u++H):=λa ha j hj=>by
   by_cases e:a=k
   .rw[e];exact(N8 j hj).qG u
   exact(Ki a J j hj).app H
  cases N:(v==3)with
  |true=>simp only[go_sem,u_,DD,B,f,y,M,O,Y,R,d5,Z,N,T7];refine nQ pc lo (.inl rfl) λcc cK z de=>?_;obtain⟨r,hx,hr⟩:=z.elems;simp only[go_sem];refine ri (X.of_eq (de 5506944320 aa)) hx z.jq (by simp only[sV];omega) λc2 vE ye qK=>?_;simp only[go_sem,B,f,y,M,w1,D];exact⟨u++H,c2,by simp;omega,ae7 T x D,E,L,rfl,by rw[show cY (u++H)=cY u++cY H by simp[cY]];exact ye⟩
  |false=>
   cases d6:(v==6)
   case' true=>simp only[go_sem,u_,DD,B,f,y,M,O,Y,R,d5,Z,N,d6,T7]
   case' false=>
    have d8:(v==8):=by
     rcases uP with rfl|rfl|rfl
     .cases N
     .cases d6
     rfl
    simp only[go_sem,u_,DD,B,f,y,M,O,Y,R,d5,Z,N,d6,d8,T7]
   all_goals
    refine nQ pc lo (.inl rfl) λcc cK z de=>?_;obtain⟨r,hx,hr⟩:=z.elems;simp only[go_sem];refine ri (X.of_eq (de 5506944320 aa)) hx z.jq (by simp only[sV];omega) λc2 vE ye qK=>?_;simp only[go_sem,B,f,y,M,w1,D];exact⟨u++H,c2,by simp;omega,ae7 T x D,E,L,rfl,by rw[show cY (u++H)=cY u++cY H by simp[cY]];exact ye⟩
 have:k=I h:=J;subst this;simp only[go_sem,u_,EF,y,M,O,ff];exact⟨_,⟨u,⟨Ef,T,⟨λQ=>J,λ_=>Ki⟩,tY.2⟩,rfl⟩,xT X⟩
end
abbrev aw(w:bQ):PV:=.sl (dR w)
structure M6 (w:bQ):Prop where
 even:I w%2=0
 len:I w<=400
 gate:∀g∈w,0<=g/\g<=40
def azc{g:Int}(h:0<=g/\g<=40):aI S 150 [aE g] (eh false):=by have H:¬g<0:=J;have f:¬g>40:=J;refine bR anP ?_;simp only[go_sem,aet,H,f]
def akT(o:bQ)(hl:I o<=1000000){f:Nat}(F:S.shared f=false)(u:∀v∈o,aI S f [aE v] (eh false)):
  aI S 156 [.one (.p (aw o)),.one (.p (.fn f [] []))] (jv (-1)):=by
 refine bR ain ?_;simp only[go_sem,WK];refine df (λk A blk=>A 0=.one (.p (aw o))/\A 1=.one (.p (.fn f [] []))/\A 7=aE (I o)/\A 8=aE k) 0 (I o) (bN _) ?_ ?_
 .simp only[go_sem];rfl
 rintro k A blk L ⟨y,E,j,h⟩
 by_cases m:k<I o
 .have B:((k:Int)<(I o:Int)):=J;obtain⟨v,H⟩:=aM m;have D:=r4 H;have x:=cE (n:=k) J;have z:=u v (aX H);simp only[go_sem,Jg,y,E,j,h,m,B,D,F,eU z,x]
 have:k=I o:=J;subst this;simp only[go_sem,Jg,VT,j,h,ff]
def ak2(o:bQ)(hl:I o<=1000000){f:Nat}(F:S.shared f=false)(h:∀v∈o,aI S f [aE v] (eh false)):
  aI S 139 [.one (.p (aw o)),.one (.p (.fn f [] []))] (eh false):=by
 have j:=akT o hl F h;refine bR aid ?_;have m:¬(0:Int)<= -1:=aa;simp only[go_sem,SS,Tm,hI j,m]
def atm{w:bQ}(h:M6 w):aI S 127 [.one (.p (aw w))] (eh true):=by
 have pc:=ak2 w (by have:=h.len;omega) akr λv H=>azc (h.gate v H);have j:((I w:Int).tmod 2)=0:=by rw[QO J];have:=h.even;omega
 have f:(I w:Int)<=400:=by have:=h.len;omega
 have m:((0:Int)==0):=rfl;have z:¬((2:Int)=0):=aa;refine bR axw ?_;simp only[go_sem,acI,j,f,m,z,agb,eU pc]
def awB{k:Int}(h:0<=k/\k<=40):aI S 126 [aE k] (eh true):=by have H:k≥0:=h.1;have f:k<=40:=h.2;refine bR aoG ?_;simp only[go_sem,ajs,H,f]
def azw{w:bQ}(F:w≠[])(hl:I w<=1000000){b:Int}(h:∀g∈w,g<=b):∃r,(∃m,m<=b/\r=jv m)/\aI S 128 [.one (.p (aw w))] r:=by
 have j:=gA.2 F;have Q:¬(I w:Int)<1:=J;obtain⟨x,v⟩:=aM j;have N:=r4 v;refine Cd rfl aqT (jx rfl) ?_;simp only[go_sem,ahr,Q,N];refine df (λk A blk=>A 0=.one (.p (aw w))/\A 4=aE k/\ ∃m,m<=b/\A 3=aE m) 1 (I w) j ?_ ?_
 .simp only[go_sem];exact⟨rfl,x,h x (aX v),rfl⟩
 rintro k A blk R ⟨f,z,m,M,u⟩
 by_cases B:k<I w
 .have L:((k:Int)<(I w:Int)):=J;obtain⟨y,H⟩:=aM B;have D:=r4 H;have E:=cE (n:=k) J;have O:=h y (aX H);simp only[go_sem,U5,f,u,z,B,L,D,E];exact⟨_,by split<;>assumption,rfl⟩
 have:k=I w:=J;subst this;simp only[go_sem,U5,aia,f,u,z,ff];exact⟨_,⟨m,M,rfl⟩,rfl⟩
def anA{k:Int}(j:0<=k/\k<=40){w:bQ}(h:M6 w)(v:∀g∈w,g<=k):aI S 87 [aE k,.one (.p (aw w))] (eh true):=by
 have f:=awB j;have pw:=atm h;have hl:=h.len;by_cases A:w=[]
 .have H:((I w:Int)==0):=by rw[A];rfl
  refine bR aao ?_;simp only[go_sem,UH,afW,eU f,adf,eU pw,H]
 obtain⟨r,⟨m,n,rfl⟩,u⟩:=azw A J v;have H:((I w:Int)==0)=false:=mE.2 (by have:=gA.2 A;omega);refine bR aao ?_;simp only[go_sem,UH,afW,eU f,adf,eU pw,H,alo,hI u,n]
def apd{k:Int}(H:0<=k/\k<=40){w:bQ}(h:M6 w)(j:∀g∈w,g<=k):aI S 51 [aE k,.one (.p (aw w))] (jv 0):=by
 have pv:=anA H h j;have f:¬(I w:Int)>400:=by have:=h.len;omega
 refine bR awL ?_;simp only[go_sem,i51,f,aui,eU pv]
abbrev nu:=Int×Bool
abbrev gq:=List nu
def inv(x:nu):nu:=(x.1,!x.2)
def zX(x:nu):inv (inv x)=x:=by simp[inv]
def aeE{x y:nu}(h:inv x=inv y):x=y:=by rw[<-zX x,h,zX]
def tf(s:gq)(x:nu):gq:=if s.getLast?=some (inv x)then s.dropLast else s++[x]
def vK(x:nu):gq->gq
 |[]=>[x]
 |y::s=>if y=inv x then s else x::y::s
def tk(w:gq):gq:=w.foldl tf []
def Wl(w:gq)(x:nu):tk (w++[x])=tf (tk w) x:=by simp[tk,zx]
def om:gq->Prop
 |[]=>True
 |[_]=>True
 |x::y::s=>y≠inv x/\om (y::s)
def om.tail{x:nu}{s:gq}(h:om (x::s)):om s:=by
 cases s with
 |nil=>trivial
 |cons y s=>exact h.2
def om.head{x y:nu}{s:gq}(h:om (x::y::s)):y≠inv x:=h.1
def akn:∀ {s:gq}{x y:nu}{t:gq},om (s++[x])->om (y::t)->y≠inv x->om (s++[x]++y::t):=by
 intro s
 induction s with
 |nil=>intro x y t _ h H;exact⟨H,h⟩
 |cons a s j=>
  intro x y t f h H;cases s with
  |nil=>exact⟨f.1,j trivial h H⟩
  |cons b s=>exact⟨f.1,j f.2 h H⟩
def atP:∀ {s t:gq},om (s++t)->om s:=by
 intro s
 induction s with
 |nil=>intro t _;trivial
 |cons a s f=>
  intro t h;cases s with
  |nil=>trivial
  |cons b s=>exact⟨h.1,f h.2⟩
def an7:∀ {s t:gq},om (s++t)->om t:=by
 intro s
 induction s with
 |nil=>intro t h;exact h
 |cons a s f=>intro t h;exact f (om.tail h)
def azz{s t:gq}{x y:nu}(h:om (s++x::y::t)):y≠inv x:=(an7 h).1
def NY(s:gq):s=[]\/ ∃t z,s=t++[z]:=by
 rcases List.eq_nil_or_concat s with h|⟨t,z,h⟩
 .exact .inl h
 exact .inr ⟨t,z,by rw[h,List.concat_eq_append]⟩
def yk(s:gq)(x:nu):tf (s++[inv x]) x=s:=by simp[tf]
def yN{s:gq}{x z:nu}(h:z≠inv x):tf (s++[z]) x=s++[z]++[x]:=by
 unfold tf;rw[ai]
 simpa using h
def amg{s:gq}{x:nu}(h:om s):om (tf s x):=by
 rcases NY s with rfl|⟨t,z,rfl⟩
 .trivial
 by_cases e:z=inv x
 .subst e;rw[yk];exact atP h
 rw[yN e];exact akn h trivial (λH=>e (by rw[H,zX]))
def abx(w:gq):om (tk w):=by
 suffices h:∀(w s:gq),om s->om (w.foldl tf s)from h w [] trivial
 intro w
 induction w with
 |nil=>intro s h;exact h
 |cons x w f=>intro s h;exact f _ (amg h)
def Eh(x:nu)(s:gq):vK x (inv x::s)=s:=by simp[vK]
def Dh{x y:nu}{s:gq}(h:y≠inv x):vK x (y::s)=x::y::s:=by simp[vK,h]
def azC{s:gq}(h:om s)(x y:nu):tf (vK x s) y=vK x (tf s y):=by
 rcases NY s with rfl|⟨t,z,rfl⟩
 .show tf [x] y=vK x [y];by_cases e:y=inv x
  .subst e;rw[Eh];have:=yk [] (inv x);rw[zX]at this;exact this
  rw[Dh e];exact yN (s:=[]) (λm=>e (by rw[m,zX]))
 cases t with
 |nil=>
  show tf (vK x [z]) y=vK x (tf ([]++[z]) y);by_cases f:z=inv x
  .subst f;rw[Eh];by_cases E:inv x=inv y
   .have:=aeE E;subst this;rw[yk];rfl
   rw[yN E];exact(Eh x [y]).symm
  rw[Dh f];by_cases E:z=inv y
  .subst E;rw[yk];exact yk [x] y
  rw[yN E];have:=yN (s:=[x]) E;exact this.trans (Dh (s:=[y]) f).symm
 |cons a t=>
  by_cases f:a=inv x
  .subst f;rw[ko,Eh];by_cases E:z=inv y
   .subst E;rw[yk,<-ko,yk,Eh]
   rw[yN E,<-ko,yN E];exact(Eh x _).symm
  rw[ko,Dh f];by_cases E:z=inv y
  .subst E;have j:=yk (x::a::t) y;have H:=yk (a::t) y;simp only[ko]at j H;rw[j,H,Dh f]
  have j:=yN (s:=x::a::t) E;have H:=yN (s:=a::t) E;simp only[ko]at j H;rw[j,H,Dh f]
def aqj(x:nu)(t:gq):tk (x::t)=vK x (tk t):=by
 suffices h:∀(n:Nat) (t:gq),I t=n->tk (x::t)=vK x (tk t)from h _ t rfl
 intro n
 induction n with
 |zero=>intro t H;obtain rfl:=Ho.1 H;rfl
 |succ n f=>
  intro t H;rcases NY t with rfl|⟨t,z,rfl⟩
  .cases H
  rw[Wl,<-ko,Wl,f t (by simpa using H),azC (abx t)]
def EE:Nat->gq->gq
 |0,s=>s
 |n+1,s=>match s with
  |[]=>[]
  |x::t=>if t.getLast?=some (inv x)then EE n t.dropLast else x::t
def rZ(s:gq):gq:=EE (I s) s
def axg:∀(n m:Nat) (s:gq),I s<=n->I s<=m->EE n s=EE m s:=by
 intro n
 induction n with
 |zero=>intro m s h _;obtain rfl:=Ho.1 (Nat.le_zero.1 h);cases m<;>rfl
 |succ n f=>
  intro m s j H;cases s with
  |nil=>cases m<;>rfl
  |cons x t=>
   cases m with
   |zero=>simp at H
   |succ m=>simp only[fG]at j H;show(if t.getLast?=some (inv x)then EE n t.dropLast else x::t)=(if t.getLast?=some (inv x)then EE m t.dropLast else x::t);rw[f m t.dropLast (by rw[Zg];omega) (by rw[Zg];omega)]
def acN(x:nu)(t:gq):rZ (x::t++[inv x])=rZ t:=by unfold rZ;show(if(t++[inv x]).getLast?=some (inv x)then EE (I (t++[inv x])) (t++[inv x]).dropLast else _)=_;rw[an aH,List.dropLast_concat];exact axg _ _ _ aH (ct _)
def Iz{x z:nu}{t:gq}(h:z≠inv x):rZ (x::t++[z])=x::t++[z]:=by unfold rZ;show(if(t++[z]).getLast?=some (inv x)then EE (I (t++[z])) (t++[z]).dropLast else _)=_;rw[ai (by simpa using h)];rfl
def kh(a b:gq):Prop:= ∃u v,a=u++v/\b=v++u
def kh.refl(a:gq):kh a a:=⟨a,[],aH,aH⟩
def kh.symm{a b:gq}(h:kh a b):kh b a:=by obtain⟨u,v,H,f⟩:=h;exact⟨v,u,f,H⟩
def kh.trans{a b c:gq}(h:kh a b)(k:kh b c):kh a c:=by
 obtain⟨u,v,rfl,rfl⟩:=h;obtain⟨p,q,H,rfl⟩:=k;rcases Yr.1 H with⟨e,rfl,rfl⟩|⟨e,rfl,rfl⟩
 .exact⟨e,q++v,aH,aH⟩
 exact⟨u++p,e,aH,aH⟩
def ant{s:gq}(h:om s)(A:s≠[])(x:nu):kh (rZ (vK x s)) (rZ (tf s x)):=by
 rcases NY s with rfl|⟨t,z,rfl⟩
 .exact(A rfl).elim
 cases t with
 |nil=>
  by_cases e:z=inv x
  .subst e;rw[yk];show kh (rZ (vK x [inv x])) _;rw[Eh];exact kh.refl _
  rw[yN e];show kh (rZ (vK x [z])) (rZ (z::[]++[x]));rw[Dh e];show kh (rZ (x::[]++[z])) _;rw[Iz e,Iz (λH=>e (by rw[H,zX]))];exact⟨[x],[z],rfl,rfl⟩
 |cons a t=>
  by_cases j:a=inv x
  .subst j;rw[ko,Eh];by_cases E:z=inv x
   .subst E;rw[<-ko,yk];rcases NY t with rfl|⟨T,y,f⟩
    .exact kh.refl _
    have m:y≠inv (inv x):=λH=>by subst H;rw[zX]at f;rw[f,show inv x::(T++[x])++[inv x]=(inv x::T)++x::inv x::[] by simp]at h;exact azz h rfl
    have k2:rZ (inv x::t)=inv x::t:=by rw[f];exact Iz (t:=T) m
    rw[k2];cases t with
    |nil=>simp at f
    |cons b t=>
     have n:inv x≠inv b:=λH=>by have:=aeE H;subst this;exact om.head h (zX x).symm
     rw[Iz n];exact⟨b::t,[inv x],rfl,rfl⟩
   rw[<-ko,yN E];have:=acN (inv x) (t++[z]);rw[zX]at this;rw[show inv x::t++[z]++[x]=inv x::(t++[z])++[x] by simp,this];exact kh.refl _
  rw[ko,Dh j];by_cases E:z=inv x
  .subst E;rw[<-ko,yk,show x::(a::t++[inv x])=x::(a::t)++[inv x] by simp,acN];exact kh.refl _
  rw[<-ko,yN E,show x::(a::t++[z])=x::(a::t)++[z] by simp,Iz E];have u:x≠inv a:=λH=>j (by rw[H,zX]);rw[show a::t++[z]++[x]=a::(t++[z])++[x] by simp,Iz u];exact⟨[x],a::t++[z],aH,aH⟩
def ak0(w:gq):I (tk w)%2=I w%2:=by
 suffices h:∀(w s:gq),I (w.foldl tf s)%2=(I s+I w)%2 by
  have:=h w []
  simpa [tk]using this
 intro w
 induction w with
 |nil=>intro s;simp
 |cons x w f=>
  intro s;rw[zg,f,fG];unfold tf;split
  .rename_i h;have:s≠[]:=λe=>by subst e;cases h
   have:=gA.2 this;rw[Zg];omega
  rw[fU,List.length_singleton];omega
def aj4{x:nu}{t:gq}(H:I (x::t)%2=0):kh (rZ (tk (x::t))) (rZ (tk (t++[x]))):=by rw[aqj,Wl];refine ant (abx t) (λe=>?_) x;have h:=ak0 t;rw[e]at h;simp only[fG,gk]at H h;omega
def arY:∀(u v:gq),I (u++v)%2=0->kh (rZ (tk (u++v))) (rZ (tk (v++u))):=by
 intro u
 induction u with
 |nil=>intro v _;rw[fz,i_];exact kh.refl _
 |cons x u f=>intro v h;have j:=aj4 (x:=x) (t:=u++v) h;have H:=f (v++[x]) (by simp only[fU,fG,gk]at h |-;omega);rw[<-kr]at H;rw[ko,show v++x::u=v++[x]++u by simp];exact j.trans H
def kh.cr{a b:gq}(h:kh a b)(H:I a%2=0):kh (rZ (tk a)) (rZ (tk b)):=by obtain⟨u,v,rfl,rfl⟩:=h;exact arY u v H
def th:Bool->bQ->gq
 |_,[]=>[]
 |p,g::t=>(g,p)::th (!p) t
def At(p:Bool)(k:Nat):Bool:=if k%2=0 then p else !p
def aq5(p:Bool)(k:Nat):At p (k+1)= !At p k:=by
 unfold At;by_cases h:k%2=0
 .rw[an h,ai J]
 rw[ai h,an J];simp
def ayK(p:Bool)(k:Nat):At (!p) k= !At p k:=by unfold At;split<;>rfl
def aya:∀(p:Bool) (u v:bQ),th p (u++v)=th p u++th (At p (I u)) v:=by
 intro p u
 induction u generalizing p with
 |nil=>intro v;rfl
 |cons g u f=>intro v;show(g,p)::th (!p) (u++v)=(g,p)::(th (!p) u++th (At p (I u+1)) v);rw[f,aq5,ayK]
def aql(p:Bool)(u:bQ)(g:Int):th p (u++[g])=th p u++[(g,At p (I u))]:=aya p u [g]

abbrev D3:Nat:=3
def agl(k:Nat):((k:Int).tmod 2)=((k%2:Nat):Int):=by rw[QO J];omega
def lJ(h:af):bQ:=(h.filter U.aw).map (·.gate)
def aw0{k:Nat}{x:U}(H:h[k]?=some x):lJ (h.take (k+1))=lJ (h.take k)++(if x.aw then [x.gate]else []):=by unfold lJ;rw[jB,H,BF,fE];cases hp:x.aw<;>simp[List.filter,hp]
def anV{f:Int}(H:dM f h=0):∃F j X x4 m x,IL f h=wi (HX F h j X x4 m x) (.int .i64 0):=by
 rw[Gj H];by_cases hl:h=[]
 .subst hl;exact⟨_,_,_,_,_,_,rfl⟩
 rw[ai hl];exact⟨_,_,_,_,_,_,rfl⟩
def amN{f:Int}(ab:dM f h=0)(hl:I h<=1000000):aI S 25 [fc f h] (.tup [.one (cP D3 1 (dR (lJ h))),.one (.p (.int .i64 0))]):=by
 have pr:=KV f h hl;obtain⟨R,T,X,x4,Y,x6,e⟩:=anV ab;rw[e]at pr;have Z:((0:Int)!=0)=false:=rfl;refine bR ak7 ?_;simp only[go_sem,aep,J3,dJ pr jg,Z];refine df (λk A blk=>A 21=.one (.p (od h))/\A 22=aE (I h)/\A 23=aE k/\ ∃c,A 6=.one c/\a8 1600576256 D3 1 (dR (lJ (h.take k))) (.one c) blk) 0 (I h) (bN _) ?_ ?_
 .simp only[go_sem];exact⟨rfl,.p .nils,rfl,a8.nil⟩
 rintro k A blk Q ⟨z,j,m,c,B,u⟩
 by_cases y:k<I h
 .obtain⟨x,L⟩:=aM y;have F:=jh L;have E:((k:Int)<(I h:Int)):=J;have D:=cE (n:=k) J;have ae:=aw0 L;have N:I (dR (lJ (h.take k)))<=k:=by
   unfold lJ;rw[bG,bG];have:=So U.aw (h.take k);rw[jw]at this;omega
  cases H:(x.kind==1)with
  |true=>
   have hp:x.aw:=H;rw[hp]at ae;simp only[go_sem,Sm,z,j,m,B,F,U.ps,E,H];refine ri (m:=1600576256) (id:=1600576256) (B:=[[.int .i64 x.gate]]) (rd:=[1600576192]) (u.of_eq (by simp only[ba,Nat.reduceEqDiff,if_false])) (by simp[gP,ba]) (.inl rfl) (by simp only[fG,gk];omega) λM O v de=>?_;simp only[go_sem,z,j,m,D];refine⟨y,M,rfl,?_⟩;rw[ae]
   simpa using v
  |false=>
   have hp:x.aw=false:=H;rw[hp]at ae;simp only[go_sem,Sm,z,j,m,B,F,U.ps,y,E,H,D];refine⟨c,rfl,?_⟩;rw[ae]
   simpa using u.of_eq (by simp only[ba,Nat.reduceEqDiff,if_false])
 have:k=I h:=J;subst this;rw[jz]at u;simp only[go_sem,Sm,agZ,j,m,B,ff];exact tN u
def mx(w:bQ):Nat->Int->Int
 |0,_=>0
 |n+1,j=>mx w n j+(if w.getD n 0<=j then(if n%2=0 then 1 else -1)else 0)
def azG(w:bQ)(j:Int):∀n:Nat,-(n:Int)<=mx w n j/\mx w n j<=n:=by
 intro n
 induction n with
 |zero=>exact⟨NU _,NU _⟩
 |succ n f=>
  unfold mx;split
  .split<;>omega
  omega
def oi(k:Nat)(w:bQ):bQ:=(List.range k).map λj:Nat=>mx w (I w) (j:Int)
def oU(k:Nat)(w:bQ)(n m:Nat):bQ:=(List.range k).map λj:Nat=>if j<m then mx w (n+1) j else mx w n j
def PQ{k:Nat}{w:bQ}(h:j<k):(oU k w n m)[j]?=some (if j<m then mx w (n+1) j else mx w n j):=by simp[oU,h]
def ajR{k:Nat}{w:bQ}(h:m<k):(oU k w n m).set m (mx w (n+1) m)=oU k w n (m+1):=by
 apply nj;intro i;rw[pA];by_cases H:i<k
 .rw[PQ H,PQ H];by_cases e:m=i
  .subst e;rw[an rfl,an (by simp[oU];exact h),an J]
  rw[ai e];by_cases f:i<m
  .rw[an f,an J]
  rw[ai f,ai J]
 have e:m≠i:=J;rw[ai e];have:∀m,(oU k w n m)[i]?=none:=λm=>kQ (by simp[oU];omega);rw[this,this]
def avV(k:Nat)(w:bQ)(n:Nat)(m:Nat)(H:∀j,j<m->mx w (n+1) (j:Nat)=mx w n (j:Nat)):oU k w n 0=oU k w n m:=by
 unfold oU;refine kD λj _=>?_;rw[ai (nJ j)];split
 .rename_i h;rw[H j h]
 rfl
def ax7(k:Nat)(w:bQ)(n:Nat):oU k w n k=oU k w (n+1) 0:=by unfold oU;refine kD λj h=>?_;rw[an (fA.1 h),ai (nJ j)]
def ahH{z:Int}(h: -100000<=z/\z<=100000):IntKind.i64.wrap z=z:=by simp only[IntKind.wrap,IntKind.bits,IntKind.signed];simp;omega
def amo{blk:aG}{os:fm}{d:dZ}{f:Nat}{s T z:Nat}{rd:aC}{E:dh}{x:PV}(hp:aI S f M (.tup [.one (.own T z E),.one (.p x)]))(j:S.lone s=false)(ae:(E.all λe=>e.all PV.scalar))(m:x.scalar)
  (n:∀h g,h s=(g,some (.arr T z E))->(∀i,i≠s->h i=blk i)->jP S .all os Q (ef A d (.tup [.one (.hsl s g z 0 (I E)),.one (.p x)])) h):jD S .all (.pc f M rd s) d os Q A blk:=by
 refine(dJ (v:=.tup [.one (.hsl s ((blk s).1+1) z 0 (I E)),.one (.p x)]) (u:=[(s,((blk s).1+1,some (.arr T z E)))]) hp ?_).2 (n _ _ w_ λi H=>cF H);rw[j,AR];have y:(RV.tup [.one (.own T z E),.one (.p x)]).alone:=by simp only[RV.alone,ll,rm,mf,ko,fz,i_,v_,zo,GH,l6.alone,ae,zB];exact m
 unfold fR;rw[an (.inr y)];simp[kV,ll,rm,mf,kY,uD,uj,pW,hs]
def ar9{k:Nat}(hk:k<=40){w:bQ}(h:M6 w)(T:∀g∈w,g<=k):aI S 26 [aE k,.one (.p (aw w))] (.tup [.one (.own D3 1 (dR (oi k w))),.one (.p (.int .i64 0))]):=by
 have pc:=apd (k:=(k:Int)) J h T;have z0:((0:Int)!=0)=false:=rfl;have ab:=h.len;have HN:(k:Nat)*8<=140737488355328:=J;have Ej:List.replicate k [PV.int .i64 0]=dR (oU k w 0 0):=by
  apply nj;intro i;by_cases O:i<k
  .rw[T4,an O,dy,PQ O];rfl
  rw[T4,ai O,kQ (by simp[oU];omega)]
 refine bR akQ ?_;simp only[go_sem,acO,ane,hI pc,z0,HN,Ej];refine df (λn A blk=>A 0=aE k/\A 21=.one (.p (aw w))/\A 22=aE (I w)/\A 23=aE n/\A 7=.one (.bh 1664256064 1 0)/\blk 1664256064=(1,some (.var [.p (.int .i64 1),.p (.int .i64 (-1))]))/\A 8=.one (.hsl 1664320064 1 1 0 k)/\blk 1664320064=(1,some (.arr D3 1 (dR (oU k w n 0))))) 0 (I w) (bN _) ?_ ?_
 .simp only[go_sem];rfl
 rintro n A blk hn ⟨D,y,f,M,E,F,z,b8⟩
 by_cases aB:n<I w
 .have aL:((n:Int)<(I w:Int)):=J;obtain⟨g,x⟩:=aM aB;have HG:=r4 x;have X:=aX x;have Kn:=h.gate g X;have B7:=T g X;obtain⟨B,rfl⟩:=lB Kn.1;have w1:=cE (n:=B) J;have wn:=cE (n:=n) J;have N:w.getD n 0=(B:Int):=by rw[dz,x];rfl
  have hz:oU k w n 0=oU k w n B:=avV k w n B λj hj=>by rw[mx,N,ai J,ET]
  rw[hz]at b8;simp only[go_sem,YG,y,f,M,aL,HG,w1];refine df (λm A blk=>A 0=aE k/\A 21=.one (.p (aw w))/\A 22=aE (I w)/\A 23=aE n/\A 9=aE n/\A 7=.one (.bh 1664256064 1 0)/\blk 1664256064=(1,some (.var [.p (.int .i64 1),.p (.int .i64 (-1))]))/\A 8=.one (.hsl 1664320064 1 1 0 k)/\A 11=aE ((m+1:Nat):Int)/\B<=m/\blk 1664320064=(1,some (.arr D3 1 (dR (oU k w n m))))) B k J ?_ ?_
  .simp only[go_sem,D,y,f,M,E,z,F];first|exact⟨ct _,b8⟩|exact b8
  clear D y f M E F z b8;rintro m A blk hm ⟨D,y,f,M,h9,E,F,z,R,ac,b8⟩
  by_cases Y:m<k
  .have H:((m+1:Nat):Int)<=(k:Int):=J;have wm:IntKind.i64.wrap (((m+1:Nat):Int)-1)=((m:Nat):Int):=by
    have:=wrap_small (n:=m) J;rw[<-this];congr 1;omega
   have L:=cE (n:=m+1) J;have Z:B<=m+1:=J;have Q:(dR (oU k w n m))[m]?=some [.int .i64 (mx w n m)]:=by rw[r4 (PQ Y),ai (Nat.lt_irrefl m)]
   have hb:=azG w (m:Int) n;have zD:¬((2:Int)=0):=aa;have qp:n%2<2:=cJ _ aa;rcases oH n with e|e
   .have ae:mx w (n+1) m=mx w n m+1:=by rw[mx,N,an J,an e]
    have S9:IntKind.i64.wrap (mx w n m+1)=mx w (n+1) m:=by rw[ae];exact ahH J
    have u:=ajR (n:=n) (w:=w) Y;simp only[go_sem,SQ,D,y,f,M,E,F,z,b8,h9,R,H,wm,L,Y,Q,zD,agl,e,S9,Ms,u,Z];exact aS
   have ae:mx w (n+1) m=mx w n m+ -1:=by rw[mx,N,an J,ai J]
   have S9:IntKind.i64.wrap (mx w n m+ -1)=mx w (n+1) m:=by rw[ae];exact ahH J
   have u:=ajR (n:=n) (w:=w) Y;simp only[go_sem,SQ,D,y,f,M,E,F,z,b8,h9,R,H,wm,L,Y,Q,zD,agl,e,S9,Ms,u,Z];exact aS
  have:m=k:=J;subst this;have H:¬((m+1:Nat):Int)<=(m:Int):=J;rw[ax7]at b8;simp only[go_sem,SQ,abu,D,y,f,M,E,F,z,b8,R,H,wn,aB]
 have:n=I w:=J;subst this;have hf:oU k w (I w) 0=oi k w:=kD λj _=>ai (nJ j);rw[hf]at b8;have v:I (dR (oi k w))=k:=by simp[oi]
 simp only[go_sem,YG,ahG,f,M,z,ff];have ht:(dR (oi k w)).take k=dR (oi k w):=fL (yV v);have fk:k<=I (dR (oi k w)):=yV v.symm;simp[lr,tq,wI,oN,nE,l7,b8,ht,v,n9,vt,CF,sX,D3]
def aua{F:Nat}(y:dM (F:Int) h=0):M6 (lJ h)/\ ∀g∈lJ h,g<=(F:Int):=by
 by_cases A:h=[]
 .subst A;exact⟨⟨rfl,bN _,λg H=>(by cases H)⟩,λg H=>(by cases H)⟩
 obtain⟨n,e,g⟩:=E4 y A;have:F=n:=J;subst this;have hf:=g.fing;have hl:I (lJ h)=au U.aw h:=by unfold lJ au;rw[bG,LJ]
 have u:au U.aw h<=I h:=IU;have H:∀x∈lJ h,0<=x/\x<=(F:Int):=by intro x f;obtain⟨l,hl,rfl⟩:=cD.1 f;obtain⟨v,m⟩:=pg.1 hl;have j:=g.ok.ax.eO l v m;exact⟨j.g0,j.g1⟩
 refine⟨⟨by rw[hl];exact g.even,by have:=g.len;omega,λx f=>?_⟩,λx f=>(H x f).2⟩;have:=H x f;omega
inductive cg (R:Nat->Nat->Prop):Nat->Nat->Prop
 |rel {a b:Nat}:R a b->cg R a b
 |refl (a:Nat):cg R a a
 |symm {a b:Nat}:cg R a b->cg R b a
 |trans {a b c:Nat}:cg R a b->cg R b c->cg R a c
def cg.mono{R':Nat->Nat->Prop}(h:∀a b,R a b->cg R' a b)(e:cg R x y):cg R' x y:=by
 induction e with
 |rel r=>exact h _ _ r
 |refl a=>exact .refl a
 |symm _ f=>exact .symm f
 |trans _ _ i1 i2=>exact .trans i1 i2
def cg.inv{α:Type}{f:Nat->α}(h:∀a b,R a b->f a=f b)(e:cg R x y):f x=f y:=by
 induction e with
 |rel r=>exact h _ _ r
 |refl a=>rfl
 |symm _ j=>exact j.symm
 |trans _ _ i1 i2=>exact i1.trans i2
def s7 (E:Nat->Nat->Prop)(x:Nat):Prop:=∀y,E x y->x<=y
noncomputable def JZ (E:Nat->Nat->Prop) (x:Nat):Bool:= @decide (s7 E x) (Classical.propDecidable _)
def HI:JZ E x↔s7 E x:=by
 unfold JZ
 grind
noncomputable def aY (E:Nat->Nat->Prop) (n:Nat):Nat:=(List.range n).countP (JZ E)
def GQ(h:∀x y,E x y↔N x y)(n:Nat):aY E n=aY N n:=by have:=funext λx=>funext λy=>propext (h x y);rw[this]
def abg{p:Nat->Prop}:∀n,p n->∃m,p m/\ ∀k,p k->m<=k:=by
 intro n
 induction n using Nat.strongRecOn with
 |ind n f=>grind
def Uz(R:Nat->Nat->Prop)(x:Nat):∃m,cg R x m/\s7 (cg R) m/\m<=x:=by obtain⟨m,h,H⟩:=abg (p:=λy=>cg R x y) x (.refl x);exact⟨m,h,λy f=>H y (h.trans f),H x (.refl x)⟩
def aAe{p:Nat->Bool}(hp:p x):∀ {l:aC},l.Nodup->x∈l->l.countP p=l.countP (λy=>p y&&y !=x)+1:=by
 intro l
 induction l with
 |nil=>intro _ h;cases h
 |cons a l f=>grind [Aa]
abbrev sv(R:Nat->Nat->Prop)(a b:Nat)(x y:Nat):Prop:=R x y\/(x=a/\y=b)
def EK{a b:Nat}:cg (sv R a b) x y↔cg R x y\/(cg R x a/\cg R b y)\/(cg R x b/\cg R a y):=by
 constructor
 .intro h
  induction h with
  |rel r=>
   rcases r with r|⟨rfl,rfl⟩
   .exact .inl (.rel r)
   exact .inr (.inl ⟨.refl _,.refl _⟩)
  |refl a=>exact .inl (.refl a)
  |symm _ j=>
   rcases j with h|⟨H,f⟩|⟨H,f⟩
   .exact .inl h.symm
   .exact .inr (.inr ⟨f.symm,H.symm⟩)
   exact .inr (.inl ⟨f.symm,H.symm⟩)
  |trans _ _ i1 i2=>
   rcases i1 with h|⟨H,f⟩|⟨H,f⟩<;>rcases i2 with k|⟨k1,k2⟩|⟨k1,k2⟩
   .exact .inl (h.trans k)
   .exact .inr (.inl ⟨h.trans k1,k2⟩)
   .exact .inr (.inr ⟨h.trans k1,k2⟩)
   .exact .inr (.inl ⟨H,f.trans k⟩)
   .grind
   .exact .inl (H.trans k2)
   .exact .inr (.inr ⟨H,f.trans k⟩)
   .exact .inl (H.trans k2)
   grind
 have up:∀ {u v},cg R u v->cg (sv R a b) u v:=λh=>h.mono λ_ _ r=>.rel (.inl r);have A:cg (sv R a b) a b:=.rel (.inr ⟨rfl,rfl⟩);rintro(h|⟨H,f⟩|⟨H,f⟩)
 .exact up h
 .exact(up H).trans (A.trans (up f))
 exact(up H).trans (A.symm.trans (up f))
theorem YI{a b:Nat}(h:cg R a b)(n:Nat):aY (cg (sv R a b)) n=aY (cg R) n:=by
 refine GQ (λx y=>?_) n;rw[EK];constructor
 .rintro (k|⟨f,H⟩|⟨f,H⟩)
  .exact k
  .exact f.trans (h.trans H)
  exact f.trans (h.symm.trans H)
 exact .inl
def aaB(H:m<n)(f:s7 E m)(h:∀x,s7 N x↔s7 E x/\x≠m):aY E n=aY N n+1:=by unfold aY;rw[aAe (HI.2 f) B0 (fA.2 H)];congr 1;refine Aa λx _=>?_;rw[HI,h,cN,HI];simp
theorem TQ{a b:Nat}(M:a<n)(L:b<n)(h:¬cg R a b):aY (cg R) n=aY (cg (sv R a b)) n+1:=by
 obtain⟨p,m,z,D⟩:=Uz R a;obtain⟨q,Q,A,N⟩:=Uz R b;have F:p≠q:=λe=>h (m.trans (e▸Q.symm));rcases Hs F with c|c
 .refine aaB J A λx=>⟨λH=>⟨λy f=>H y (EK.2 (.inl f)),?_⟩,λ⟨H,v⟩ y f=>?_⟩
  .rintro rfl
   have:=H p (EK.2 (.inr (.inr ⟨Q.symm,m⟩)));omega
  rcases EK.1 f with f|⟨j,u⟩|⟨j,u⟩
  .exact H y f
  .have E:=H p (j.trans m);have B:=A y (Q.symm.trans u);omega
  have E:=H q (j.trans Q);have B:=A x (Q.symm.trans j.symm);omega
 refine aaB J z λx=>⟨λH=>⟨λy f=>H y (EK.2 (.inl f)),?_⟩,λ⟨H,v⟩ y f=>?_⟩
 .rintro rfl
  have:=H q (EK.2 (.inr (.inl ⟨m.symm,Q⟩)));omega
 rcases EK.1 f with f|⟨j,u⟩|⟨j,u⟩
 .exact H y f
 .have E:=H p (j.trans m);have B:=z x (m.symm.trans j.symm);omega
 have E:=H q (j.trans Q);have B:=z y (m.symm.trans u);omega
def PW{α:Type}{f:Nat->α}(h:∀a b,R a b->f a=f b){j:aC}(v:∀x∈j,x<n)(u:(j.map f).Nodup):I j<=aY (cg R) n:=by
 have A:∀j:aC,(∀x∈j,x<n)->(j.map f).Nodup->∃L:aC,I L=I j/\L.Nodup/\(∀m∈L,m<n/\s7 (cg R) m)/\ ∀m∈L,f m∈j.map f:=by
  intro j
  induction j with
  |nil=>intro _ _;exact⟨[],rfl,qX,aH,aH⟩
  |cons a r F=>
   intro v u;rw[eQ,qH]at u;obtain⟨L,D,E,z,Q⟩:=F (λx H=>v x (by simp[H])) u.2;obtain⟨m,T,Z,m3⟩:=Uz R a;have y:=(T.inv h).symm;have Y:=v a aH;refine⟨m::L,by simp[D],qH.2 ⟨λX=>u.1 (y▸Q m X),E⟩,λx H=>?_,λx H=>?_⟩
   .grind
   grind
 obtain⟨L,D,E,z,_⟩:=A j v u;rw[<-D];unfold aY;rw[LJ];have B:∀(L M:aC),L.Nodup->(∀x∈L,x∈M)->I L<=I M:=by
  intro L
  induction L with
  |nil=>intro M _ _;exact bN _
  |cons a L F=>
   intro M u ae;obtain⟨O,N⟩:=qH.1 u;have Y:=ae a aH;have:=F (M.erase a) N λx H=>(O_ (by rintro rfl;exact O H)).2 (ae x (by simp[H]))
   grind
 exact B L _ E λx H=>pg.2 ⟨fA.2 (z x H).1,HI.2 (z x H).2⟩
def ajk(h:∀x,x<n->cg R x 0):aY (cg R) n<=1:=by
 unfold aY;have j:=λx H hl=>by have:=HI.1 hl 0 (h x (fA.1 H));omega
 have:∀l:aC,l.Nodup->(∀x∈l,JZ (cg R) x->x=0)->l.countP (JZ (cg R))<=1:=by
  intro l
  induction l with
  |nil=>intro _ _;simp
  |cons a l f=>grind [QZ]
 grind
end
end Go.Abs
