/- A part. -/
import Derived.Test.YtdlmpmilnbhmgaaGreatDoorWi
set_option linter.all false
open List renaming length->I
set_option maxRecDepth 100000
set_option maxHeartbeats 16000000
namespace Go.Abs
variable{x:Int×Int}{y g u:Nat}{r n:Int}{q:dm}
section
variable{h:Int}{m:dm}{D:aA}{j:Nat}
abbrev fx:Nat:=37
abbrev YQ:Nat:=3
def Cn(k:Int)(j:Nat)(m:db):Prop:=m.k=k/\m.a=(j:Int)/\m.l=false/\m.o=false/\m.s=0/\yI m
def alI{l:cS}(h:I l=2):∃a b,l=[a,b]:=by
 match l,h with
 |[a,b],_=>exact⟨a,b,rfl⟩
def ar2{l:cS}(h:I l=3):∃a b c,l=[a,b,c]:=by
 match l,h with
 |[a,b,c],_=>exact⟨a,b,c,rfl⟩
def Dy(blk:aB)(v:V)(A:aB):Prop:=v=.tup []/\A=blk
def HK{Q:fp}{al:bP}{j:bD}{blk:aB}{os:en}{d:my}{f:Nat}{g:c7}{P:V->aB->Prop}(O:(g.map (kr blk)).flatten=[])(H:al=.all\/(S.sites f).all al.fs.contains)
  (h:∀L,L.fs=S.sites f->∃v A,ia S f g L blk v A/\P v A) (n:∀v A,P v A->gV S al os Q (dx j d v) A):iM S al (.sc f g) d os Q j blk:=by
 refine sf (P:=P) ?_ (h _ rfl) n;rcases H with rfl|m
 .rfl
 refine GL ?_ m;show al.fG (g.map (kr blk)).flatten=true;rw[O];rfl
def agE{al:bP}{blk:aB}:∃v A,ia S 188 [.one (.p .nils),aq 0,aq 0,yH] al blk v A/\Dy blk v A:=by refine mU Zz (gU rfl) ?_;have f:IntKind.i64.wrap 1=1:=U;have h:¬((1:Int)<0):=U;simp only[go_sem,Se,ae,ao];refine mu ?_;simp only[go_sem,JQ,f,h,ae,ao];first|done|exact⟨rfl,rfl⟩|trace_state
def ai3{al:bP}{blk:aB}(f:al.fs.contains 188)(L:Int):∃v A,ia S 158 [.one (.p .nils),aq 0,aq 0,aq L,yH] al blk v A/\Dy blk v A:=by refine mU Y0 (gU rfl) ?_;have g:IntKind.i64.wrap (0-0)=0:=U;have j:((0:Int)<=12):=U;simp only[go_sem,U1,ae,ao];refine mu ?_;simp only[go_sem,RA,g,j,WJ,ae,ao];refine HK (by rfl) (.inr (by rw[show S.sites 188=[188] by kernel_rfl];simp only[oQ,qF,f,Ba])) (P:=Dy blk) (λm _=>agE) λv A h=>?_;obtain⟨rfl,H⟩:=h;simp only[go_sem,ae,ao];exact⟨rfl,H⟩
def ahP{al:bP}{blk:aB}(F:(S.sites 158).all al.fs.contains):∃v A,ia S 103 [.one (.p .nils),yH] al blk v A/\Dy blk v A:=by obtain⟨k,g⟩:=Ow 0 J;have j:IntKind.u64.wrap ((0:Nat):Int)=((0:Nat):Int):=U;refine mU acL (gU rfl) ?_;have f:S.shared 100=false:=ah;simp only[go_sem,UT,j,f,Uv g,ZC,ae,ao];refine HK (by rfl) (.inr F) (P:=Dy blk) (λL h=>ai3 (by rw[h];kernel_rfl) k) λv A H=>?_;obtain⟨rfl,h⟩:=H;simp only[go_sem,ae,ao];exact⟨rfl,h⟩
def ja(h:Int)(j:Nat)(D:aA)(m:dm):Prop:=
 (h≠8->∀b:Nat,j<b->I D=2->(∃d∈D,d/2=j)->(∃d∈D,d/2=b)->(⟨h,j,b,0,false,false,0⟩:db)∈m)/\
 (h=8->∀b c:Nat,j<b->b<c->I D=3->(∃d∈D,d/2=j)->(∃d∈D,d/2=b)->(∃d∈D,d/2=c)->(⟨h,j,b,c,false,false,0⟩:db)∈m)
def ja.app(H:ja h j D m)(x:dm):ja h j D (m++x):=
 ⟨λa b c d e f=>List.mem_append_left _ (H.1 a b c d e f),λa b c d e f g i n=>List.mem_append_left _ (H.2 a b c d e f g i n)⟩
def ahH(h:I D=2){x:Nat}(f:x∈D)(H:y∈D)(A:x≠y):∀z∈D,z=x\/z=y:=by
 match D,h with
 |[a,b],_=>intro z g;simp only[dL,mV,or_false]at f H g;omega
def asm(h:I D=3){x w:Nat}(g:x∈D)(f:y∈D)(H:w∈D)(n:x≠y)(N:x≠w)(m:y≠w):∀z∈D,z=x\/z=y\/z=w:=by
 match D,h with
 |[a,b,c],_=>intro z j;simp only[dL,mV,or_false]at g f H j;omega
def ja.low{d:Nat}(g:d∈D)(A:d/2<j):ja h j D m:=by
 constructor
 .rintro _ b v q ⟨x,f,E⟩ ⟨y,H,u⟩
  have:=ahH q f H J d g;omega
 rintro _ b c v F r ⟨x,f,E⟩ ⟨y,H,u⟩ ⟨w,n,z⟩
 have:=asm r f H n J J J d g;omega
def ja.far(g:I D=1\/3<I D):ja h j D m:=
 ⟨λ_ b _ f=>J,λ_ b c _ _ H=>J⟩
def ja.two8(f:I D=2)(H:h=8):ja h j D m:=
 ⟨λf=>absurd H f,λ_ b c _ _ g=>J⟩
def ja.three(f:I D=3)(H:h≠8):ja h j D m:=
 ⟨λ_ b _ g=>J,λf=>absurd f H⟩
def ja.two(B:I D=2)(hp:[r,n].Perm (D.map λd=>((d/2:Nat):Int)))(aa:ry oI [r,n] 0 2)(H:h≠8)(v:(⟨h,j,n,0,false,false,0⟩:db)∈m):ja h j D m:=by
 refine⟨?_,λB=>absurd B H⟩;rintro _ b F _ ⟨x,u,E⟩ ⟨y,g,z⟩
 have A:((j:Nat):Int)∈[r,n]:=hp.mem_iff.2 (eJ.2 ⟨x,u,by rw[E]⟩);have f:((b:Nat):Int)∈[r,n]:=hp.mem_iff.2 (eJ.2 ⟨y,g,by rw[z]⟩);have q:=aa 0 1 r n J J J rfl rfl;simp only[decide_eq_false_iff_not]at q;simp only[dL,mV,or_false]at A f;have:n=(b:Int):=J;rw[<-this];exact v
def ja.thr{Y:Int}(R:I D=3)(hp:[r,n,Y].Perm (D.map λd=>((d/2:Nat):Int)))(aa:ry oI [r,n,Y] 0 3)(z:(⟨h,j,n,Y,false,false,0⟩:db)∈m):ja h j D m:=by
 refine⟨λ_ b _ H=>J,?_⟩;rintro _ b c Q O _ ⟨x,v,E⟩ ⟨y,q,F⟩ ⟨w,g,N⟩
 have L:((j:Nat):Int)∈[r,n,Y]:=hp.mem_iff.2 (eJ.2 ⟨x,v,by rw[E]⟩);have H:((b:Nat):Int)∈[r,n,Y]:=hp.mem_iff.2 (eJ.2 ⟨y,q,by rw[F]⟩);have B:((c:Nat):Int)∈[r,n,Y]:=hp.mem_iff.2 (eJ.2 ⟨w,g,by rw[N]⟩);have u:=aa 0 1 r n J J J rfl rfl;have M:=aa 1 2 n Y J J J rfl rfl;simp only[decide_eq_false_iff_not]at u M;simp only[dL,mV,or_false]at L H B;have f:n=(b:Int):=J;have A:Y=(c:Int):=J;rw[<-f,<-A];exact z
def ZI{l:dm}{x:db}(h:l.Nodup)(g:x∉l):(l++[x]).Nodup:=by rw[xh];refine⟨h,aG,λa H b f e=>?_⟩;rw[pA.1 f]at e;exact g (e▸H)
def ajX{f:dm}{k:Int}(g:∀m∈f,Cn k j m)(E:f.Nodup)(aa:ry lZ f 0 (I f)):f.Pairwise λx y=>lZ x y=true:=by
 rw[List.pairwise_iff_getElem];intro i u n h Q;have q:=aa i u f[i] f[u] (bC _) Q h (oO n) (oO h);have B:f[i]≠f[u]:=λe=>by have:=(List.getElem_inj E).1 e;omega
 have v:=g _ (J5 n);have F:=g _ (J5 h);generalize f[i]=x at*;generalize f[u]=y at*;cases H:lZ x y with
 |true=>rfl
 |false=>exfalso;apply B;obtain⟨L,M,r,A,N,_⟩:=v;obtain⟨O,z,cP,fv,D,_⟩:=F;cases x;cases y;unfold lZ at q H;simp only[Aj,Bool.and_eq_false_iff,decide_eq_false_iff_not]at q H L M r A N O z cP fv D;simp only[db.mk.injEq];refine⟨J,J,J,J,by rw[r,cP],by rw[A,fv],J⟩
def afO{F:Nat}{f:aI}(g:ch F f)(h:Int)(ha:j<I f):∃m:dm,(I m<=2/\(∀am∈m,Cn h j am)/\(∀X,X<2->ja h j (cK F f (2*j+X)).aT m)/\m.Pairwise λx y=>lZ x y=true)/\aC S 67 [.one (.p (df F f)),aq h,aq j] (.one (bn fx 7 (bh m))):=by
 have bd:=g.len;have hN:bH f<=1600:=by have:=mv f (I f);unfold bH;have:I (aH f)<=I f:=mv f (I f);omega
 suffices H:∃be,(∃m:dm,(I m<=2/\(∀am∈m,Cn h j am)/\(∀X,X<2->ja h j (cK F f (2*j+X)).aT m)/\m.Pairwise λx y=>lZ x y=true)/\be=.one (bn fx 7 (bh m)))/\aC S 67 [.one (.p (df F f)),aq h,aq j] be by obtain⟨be,⟨m,h1,rfl⟩,Q⟩:=H;exact⟨m,h1,Q⟩
 refine vm rfl aiQ (gU rfl) ?_;simp only[go_sem,acY];refine cD (λk aj blk=>aj 0=.one (.p (df F f))/\aj 1=aq h/\aj 2=aq j/\aj 14=aq k/\ ∃m c,I m<=k/\(∀am∈m,Cn h j am)/\(∀X,X<k->ja h j (cK F f (2*j+X)).aT m)/\m.Nodup/\aj 7=.one c/\aW 4289280192 fx 7 (bh m) (.one c) blk) 0 2 (bC _) ?_ ?_
 .simp only[go_sem];exact⟨rfl,[],.p .nils,cH _,λam H=>(by cases H),λX H=>absurd H (l_ _),um,rfl,aW.nil⟩
 rintro k aj blk hk ⟨h0,h1,Q,qO,m,c,bi,N,ag,fD,h7,gm⟩
 by_cases L:k<2
 .have aL:((k:Int)<2):=J;obtain⟨X,CT,jJ,rZ⟩:=FU g (d:=2*j+k) J;have CY:=bY jJ;have uf:=fC CT;have ud:=BP jJ;have m2:=lR (a:=j) J;have m3:=oo (a:=2*j) (b:=k) J;have M:=bJ (n:=k) J;have og:2*j+k<I (gK F f):=by rw[AH];omega
  have a1:=Ue CY;have a8:=DT g.ok CY;obtain⟨_,_,a2,_⟩:=wP (F:=F) (h:=f) (d:=2*j+k) J;have O:∀ad:dm,ja h j (cK F f (2*j+k)).aT (m++ad)->∀X,X<k+1->ja h j (cK F f (2*j+X)).aT (m++ad):=λad H X hj=>by
   by_cases e:X=k
   .rw[e];exact H
   exact(ag X J).app ad
  have DB:ja h j (cK F f (2*j+k)).aT m->∀X,X<k+1->ja h j (cK F f (2*j+X)).aT m:=λH=>by have:=O [] (by rw[jE];exact H);rwa[jE]at this
  generalize Iw:cK F f (2*j+k)=ab at*;simp only[go_sem,T4,h0,h1,Q,h7,qO,aL,m2,m3,og,uf,rZ,ud,cM.ps];refine⟨aw,?_⟩;obtain⟨g9,hg9⟩:∃g9,(blk 4288321024).fst+1=g9:=⟨_,rfl⟩;rw[hg9];refine cD (λq R aV=>R 0=.one (.p (df F f))/\R 1=aq h/\R 2=aq j/\R 14=aq k/\R 7=.one c/\aW 4289280192 fx 7 (bh m) (.one c) aV/\R 9=.one (.bg 4288321024 g9 0)/\aV 4288321024=(g9,some (.var (ab.ps.map .p)))/\R 34=.one (.p (.sl (aS ab.aT)))/\R 35=aq (I ab.aT)/\R 36=aq q/\(0<q->I ab.aT<=3)/\ ∃zs ce,I zs=q/\zs=(ab.aT.take q).map (λd=>((d/2:Nat):Int))/\(∀z∈zs,0<=z/\z<=1000000)/\R 10=.one ce/\aW 4288704256 YQ 1 (dz zs) (.one ce) aV) 0 (I ab.aT) (bC _) ?_ ?_
  .have a3:aW 4289280192 fx 7 (bh m) (.one c) (cQ (cQ blk 4288321024 (g9,some (eN.var [b_.p (PV.bool false),b_.p PV.nils,b_.p PV.nils,b_.p PV.nils,b_.p (PV.bool false)]))) 4288321024 (g9,some (eN.var (ab.ps.map .p)))):=gm.of_eq ((bo U).trans (bo U));simp only[go_sem,h0,h1,Q,h7,qO,cM.ps]at a3 |-;refine⟨a3,rfl,λH=>H.elim,[],.p .nils,rfl,rfl,λz H=>(by cases H),rfl,aW.nil⟩
  rintro q R aV hq ⟨D,B,u,A,E,zi,p9,b9,Y,Z,yz,h3,zs,ce,mI,FG,an,yx,gz⟩
  simp only[cM.ps,ew,jn]at b9;by_cases yd:q<I ab.aT
  .have S8:((q:Int)<(I ab.aT:Int)):=J;obtain⟨d,hd⟩:=bq yd;have rX:=fC hd;have bf:=a1 d (bY hd);have wq:=wrap_small (n:=d/2) J;have w2:=bJ (n:=q) J;by_cases c1:d/2<j
   .have ak:(((d/2:Nat):Int)<(j:Int)):=J;simp only[go_sem,E1,Ab,D,B,u,A,E,p9,yx,Y,Z,yz,b9,yd,S8,rX,de,dZ,wq,ak,M,L];exact⟨m,c,J,N,DB (.low (bY hd) c1),fD,rfl,zi⟩
   have ak:¬(((d/2:Nat):Int)<(j:Int)):=J;by_cases c2:3<I ab.aT
   .have ar:((3:Int)<(I ab.aT:Int)):=J;simp only[go_sem,E1,Ab,D,B,u,A,E,p9,yx,Y,Z,yz,b9,yd,S8,rX,de,dZ,wq,ak,ar,M,L];exact⟨m,c,J,N,DB (.far (.inr c2)),fD,rfl,zi⟩
   have ar:¬((3:Int)<(I ab.aT:Int)):=J;simp only[go_sem,E1,D,B,u,A,E,p9,yx,Y,Z,yz,b9,yd,S8,rX,de,dZ,wq,ak,ar,w2];refine iR (A:=[[.int .i64 ((d/2:Nat):Int)]]) (gz.of_eq (bo U)) (by simp only[eO,bj,if_true];rfl) (.inl rfl) (by simp only[mD,dE,eR];omega) λc2 gh a6 hb=>?_;have q9:=hb 4288321024 U U;have T:=zi.of_eq ((hb 4289280192 U U).trans (bo U));simp only[go_sem,b9]at q9;simp only[go_sem,D,B,u,A,E,p9,Y,Z,yz,q9,w2,cM.ps];refine⟨yd,T,λ_=>J,zs++[((d/2:Nat):Int)],c2,by simp;omega,by rw[FG,jN,hd];simp,λz hz=>?_,rfl,?_⟩
   .rcases fB.1 hz with H|H
    .exact an z H
    have:=pA.1 H;omega
   rw[show dz (zs++[((d/2:Nat):Int)])=dz zs++[[.int .i64 ((d/2:Nat):Int)]] by simp[dz]];exact a6
  have:q=I ab.aT:=J;subst this;have a7:0<I ab.aT:=Md a2;have qQ:=h3 a7;rcases gz with⟨e,_⟩|⟨_,gg,e,bz⟩
  .have a9:I (dz zs)=0:=by rw[e];rfl
   rw[mD]at a9;omega
  cases e;have sS:S.shared 101:=ah;simp only[go_sem,E1,W9,D,B,u,A,E,p9,yx,Y,Z,yz,dF,sS,mD];refine tJ bz (by rfl) (.inl rfl) (P:=z_ oI 4288704256 gg YQ zs aV) (λlQ h1 Q=>TE h1 (by rw[Q];kernel_rfl) J bz) λv gh hP=>?_;obtain⟨rfl,⟨ws,bw,pw,sw⟩,kw⟩:=hP;have T:=zi.of_eq (kw 4289280192 U);have nj:=pw.length_eq;have me:ws.Perm (ab.aT.map λd=>((d/2:Nat):Int)):=by rw[FG,iV]at pw;exact pw
  have ap:∀z∈ws,0<=z/\z<=1000000:=λz hz=>an z (pw.mem_iff.1 hz);rw[mI]at nj;clear pw an b9 bz;clear h3 yd a1 a8 CY a2 hq FG;generalize sY:I ab.aT=bc at*;have MU:S.shared 102=false:=ah;have w8:(((2:Nat):Int)==2):=U;have a5:(((1:Nat):Int)==2)=false:=U;have a0:(((3:Nat):Int)==2)=false:=U;have ba:(((1:Nat):Int)==3)=false:=U;have mM:(((2:Nat):Int)==3)=false:=U;have a4:(((3:Nat):Int)==3):=U;rcases(by omega:bc=1\/bc=2\/bc=3)with rfl|rfl|rfl
  .simp only[go_sem,Ab,D,B,u,A,E,p9,yx,Y,Z,yz,mI,a5,ba,M,L];exact⟨m,c,J,N,DB (.far (.inl sY)),fD,rfl,T.of_eq ((bo U).trans (bo U))⟩
  .obtain⟨r,n,rfl⟩:=alI nj;by_cases h8:h=8
   .have e8:(h !=8)=false:=by rw[h8];rfl
    simp only[go_sem,Ab,D,B,u,A,E,p9,yx,Y,Z,yz,mI,w8,mM,e8,M,L];exact⟨m,c,J,N,DB (.two8 sY h8),fD,rfl,T.of_eq ((bo U).trans (bo U))⟩
   have e8:(h !=8):=by simpa using h8
   simp only[go_sem,Ab,D,B,u,A,E,p9,yx,Y,Z,yz,mI,w8,mM,e8,M,L,bw];obtain⟨bb,rW,az⟩:=aag m ⟨h,j,n,0,false,false,0⟩ J;have TU:aC S 102 [.one (.p (.sl (bh m))),.agg [.p (.int .i64 h),.p (.int .i64 j),.p (.int .i64 n),.p (.int .i64 0),.p (.bool false),.p (.bool false),.p (.int .i64 0)]] (bK bb):=az;obtain⟨be,aE,hr⟩:=T.DP;simp only[go_sem,D,B,u,A,E,MU,aE,ai TU];cases bb with
   |true=>simp only[go_sem,D,B,u,A,E,M,L];exact⟨m,c,J,N,DB (.two sY me sw h8 (rW.1 rfl)),fD,rfl,T.of_eq (by simp only[bj,Nat.reduceEqDiff,if_false])⟩
   |false=>
    simp only[go_sem,D,B,u,A,E,M,L];refine iR (A:=[db.ps ⟨h,j,n,0,false,false,0⟩]) (T.of_eq (by simp only[bj,Nat.reduceEqDiff,if_false])) (by simp only[eO,bj,if_true];rfl) (.inl rfl) (by simp only[j4,dE,eR];omega) λc2 qb rV ef=>?_;simp only[go_sem,D,B,u,A,M,L];refine⟨m++[⟨h,j,n,0,false,false,0⟩],c2,by simp;omega,λam hm=>?_,O _ (.two sY me sw h8 aG),ZI fD (rW.2 rfl),rfl,by rw[show bh (m++[⟨h,j,n,0,false,false,0⟩])=bh m++[db.ps ⟨h,j,n,0,false,false,0⟩] by simp[bh]];exact rV⟩;rcases fB.1 hm with H|H
    .exact N am H
    have:=pA.1 H;subst this;exact⟨rfl,rfl,rfl,rfl,rfl,ap n aG,aG⟩
  obtain⟨r,n,y2,rfl⟩:=ar2 nj;by_cases h8:h=8
  .have e8:(h==8):=by rw[h8];rfl
   simp only[go_sem,Ab,D,B,u,A,E,p9,yx,Y,Z,yz,mI,a0,a4,e8,M,L,bw];obtain⟨bb,rW,az⟩:=aag m ⟨h,j,n,y2,false,false,0⟩ J;have TU:aC S 102 [.one (.p (.sl (bh m))),.agg [.p (.int .i64 h),.p (.int .i64 j),.p (.int .i64 n),.p (.int .i64 y2),.p (.bool false),.p (.bool false),.p (.int .i64 0)]] (bK bb):=az;obtain⟨be,aE,hr⟩:=T.DP;refine⟨aw,?_⟩;simp only[go_sem,D,B,u,A,E,MU,aE,ai TU];cases bb with
   |true=>simp only[go_sem,D,B,u,A,E,M,L];exact⟨m,c,J,N,DB (.thr sY me sw (rW.1 rfl)),fD,rfl,T.of_eq (by simp only[bj,Nat.reduceEqDiff,if_false])⟩
   |false=>
    simp only[go_sem,D,B,u,A,E,M,L];refine iR (A:=[db.ps ⟨h,j,n,y2,false,false,0⟩]) (T.of_eq (by simp only[bj,Nat.reduceEqDiff,if_false])) (by simp only[eO,bj,if_true];rfl) (.inl rfl) (by simp only[j4,dE,eR];omega) λc2 qb rV ef=>?_;simp only[go_sem,D,B,u,A,M,L];refine⟨m++[⟨h,j,n,y2,false,false,0⟩],c2,by simp;omega,λam hm=>?_,O _ (.thr sY me sw aG),ZI fD (rW.2 rfl),rfl,by rw[show bh (m++[⟨h,j,n,y2,false,false,0⟩])=bh m++[db.ps ⟨h,j,n,y2,false,false,0⟩] by simp[bh]];exact rV⟩;rcases fB.1 hm with H|H
    .exact N am H
    have:=pA.1 H;subst this;exact⟨rfl,rfl,rfl,rfl,rfl,ap n aG,ap y2 aG⟩
  have e8:(h==8)=false:=by simpa using h8
  simp only[go_sem,Ab,D,B,u,A,E,p9,yx,Y,Z,yz,mI,a0,a4,e8,M,L];exact⟨m,c,J,N,DB (.three sY h8),fD,rfl,T.of_eq ((bo U).trans (bo U))⟩
 have:k=2:=J;subst this;have im:¬(((2:Nat):Int)<2):=U;have sS:S.shared 103:=ah;simp only[go_sem,T4,abP,h0,h1,Q,h7,qO,im,sS];rcases gm with⟨e,e2⟩|⟨aY,gg,e2,bm⟩
 .cases e2;have:m=[]:=by simpa [bh]using e
  subst this;refine HK (by rfl) (.inl rfl) (P:=Dy blk) (λlQ Q=>ahP (by rw[Q];kernel_rfl)) λv gh hP=>?_;obtain⟨rfl,rfl⟩:=hP;simp only[go_sem,h7];exact⟨_,⟨[],⟨aG,(λam H=>by cases H),ag,List.Pairwise.nil⟩,rfl⟩,rfl⟩
 cases e2;rw[j4]at h7 |-;refine tJ bm (by rfl) (.inl rfl) (P:=CP 4289280192 gg fx m blk) (λlQ h1 Q=>ap2 h1 (by rw[Q];kernel_rfl) J (λam hm=>(N am hm).2.2.2.2.2) bm) λv gh hP=>?_;obtain⟨rfl,⟨ws,bw,pw,sw⟩,kw⟩:=hP;simp only[go_sem,h7];have nj:=pw.length_eq;refine⟨_,⟨ws,⟨J,λam hm=>N am (pw.mem_iff.1 hm),λX hj=>⟨λa b c d e ab=>pw.mem_iff.2 ((ag X hj).1 a b c d e ab),λa b c d e ab g i j'=>pw.mem_iff.2 ((ag X hj).2 a b c d e ab g i j')⟩,ajX (λam hm=>N am (pw.mem_iff.1 hm)) (pw.nodup_iff.2 fD) sw⟩,rfl⟩,?_⟩;rw[<-nj,<-j4 ws];refine nV (.inr ⟨λe=>aY ?_,gg,rfl,bw⟩);have h0:I (bh ws)=0:=by rw[e];rfl
 rw[j4,nj]at h0;rw[List.length_eq_zero_iff.1 h0];rfl
def Cm(k:Int)(n:Nat)(m:db):Prop:= ∃a,a<n/\Cn k a m
def P2{k:Int}{n a:Nat}(h:∀M∈m,Cm k n M)(g:∀M∈q,Cn k a M)(f:a<n):∀M∈m++q,Cm k n M:=λM H=>(fB.1 H).elim (h M) λj=>⟨a,f,g M j⟩
def Mw (F:Nat)(f:aI)(h:Int)(m:dm):Prop:=(h=1\/h=4->∀a:Nat,a<I f->(⟨h,a,0,0,false,false,0⟩:db)∈m)/\(h=3\/h=6\/h=8->∀a,a<I f->∀j,j<2->ja h a (cK F f (2*a+j)).aT m)
def ja.uJ(H:ja h j D m)(x:dm):ja h j D (x++m):=
 ⟨λa b c d e f=>List.mem_append_right _ (H.1 a b c d e f),λa b c d e f g i n=>List.mem_append_right _ (H.2 a b c d e f g i n)⟩
def wJ(x y:db):Prop:=x.a<y.a\/(x.a=y.a/\lZ x y)
section
variable {F:Nat} {f:aI}
def anE{k:Nat}(h:(∀M∈m,M.a<(k:Int))/\m.Pairwise wJ)(H:∀M∈q,M.a=(k:Int))(hp:q.Pairwise λx y=>lZ x y=true):(∀M∈m++q,M.a<((k+1:Nat):Int))/\(m++q).Pairwise wJ:=by
 refine⟨λM n=>?_,Bv.2 ⟨h.2,hp.imp_of_mem λj f hl=>.inr ⟨by rw[H _ j,H _ f],hl⟩,λx j y f=>.inl (by rw[H y f];exact h.1 x j)⟩⟩;rcases fB.1 n with g|g
 .have:=h.1 M g;omega
 have:=H M g;omega
def US(g:ch F f)(aY:0<I f)(qS:h=3\/h=6\/h=8):∃m:dm,(I m<=2*I f/\(∀N∈m,Cm h (I f) N)/\Mw F f h m/\m.Pairwise wJ)/\aC S 43 [.one (.p (df F f)),aq h] (.one (bn fx 7 (bh m))):=by
 have ag:=g.len;have lo:S.lone 2754944256=false:=ah;have bd:I (bX (a_ f))=I f:=by rw[bX,cT,bR]
 have dH:(((I f:Nat):Int)==0)=false:=by rw[pQ];omega
 suffices ab:∃r,(∃m:dm,(I m<=2*I f/\(∀N∈m,Cm h (I f) N)/\Mw F f h m/\m.Pairwise wJ)/\r=.one (bn fx 7 (bh m)))/\aC S 43 [.one (.p (df F f)),aq h] r by obtain⟨r,⟨m,H,rfl⟩,h2⟩:=ab;exact⟨m,H,h2⟩
 have Q:(h==2)=false:=by rw[pQ];omega
 have d5:(h==5)=false:=by rw[pQ];omega
 have d7:(h==7)=false:=by rw[pQ];omega
 refine vm rfl BC (gU rfl) ?_;simp only[go_sem,Af,Aq,bd,dH,Q];refine cD (λk D blk=>D 0=.one (.p (df F f))/\D 1=aq h/\D 41=aq (I f)/\D 42=aq k/\ ∃m c,I m<=2*k/\(∀N∈m,Cm h (I f) N)/\(∀a,a<k->∀j,j<2->ja h a (cK F f (2*a+j)).aT m)/\((∀N∈m,N.a<(k:Int))/\m.Pairwise wJ)/\D 5=.one c/\aW 2754944320 fx 7 (bh m) (.one c) blk) 0 (I f) (bC _) ?_ ?_
 .simp only[go_sem,bd];exact⟨rfl,[],.p .nils,aG,λN ab=>(by cases ab),λa ab=>absurd ab (l_ _),⟨λN ab=>(by cases ab),List.Pairwise.nil⟩,rfl,aW.nil⟩
 rintro k D blk hk ⟨u,H,x,v,m,c,ad,Y,E,ot,A,X⟩
 by_cases B:k<I f
 .have aL:((k:Int)<(I f:Int)):=J;have w1:=bJ (n:=k) J;obtain⟨q,⟨ak,y,zG,ug⟩,pc⟩:=afO g h B;have S7:=anE ot (λN hm=>(y N hm).2.1) ug;have SM:∀a,a<k+1->∀j,j<2->ja h a (cK F f (2*a+j)).aT (m++q):=λa ha j hj=>by
   by_cases e:a=k
   .rw[e];exact(zG j hj).uJ m
   exact(E a J j hj).app q
  cases T:(h==3)with
  |true=>simp only[go_sem,rf,Al,u,H,x,v,A,aL,Q,d5,d7,T,Ok];refine ke pc lo (.inl rfl) λcc bp z L=>?_;have Z:=X.of_eq (L 2754944320 U);obtain⟨r,O,hr⟩:=z.elems;simp only[go_sem,u,H,x,v,A];refine iR (A:=bh q) Z O z.ao (by simp only[j4];omega) λM qb R ef=>?_;simp only[go_sem,u,H,x,v,w1,B];exact⟨m++q,M,by simp;omega,P2 Y y B,SM,S7,rfl,by rw[show bh (m++q)=bh m++bh q by simp[bh]];exact R⟩
  |false=>
   cases d6:(h==6)with
   |true=>simp only[go_sem,rf,Al,u,H,x,v,A,aL,Q,d5,d7,T,d6,Ok];refine ke pc lo (.inl rfl) λcc bp z L=>?_;have Z:=X.of_eq (L 2754944320 U);obtain⟨r,O,hr⟩:=z.elems;simp only[go_sem,u,H,x,v,A];refine iR (A:=bh q) Z O z.ao (by simp only[j4];omega) λM qb R ef=>?_;simp only[go_sem,u,H,x,v,w1,B];exact⟨m++q,M,by simp;omega,P2 Y y B,SM,S7,rfl,by rw[show bh (m++q)=bh m++bh q by simp[bh]];exact R⟩
   |false=>
    have d8:(h==8):=by
     rcases qS with rfl|rfl|rfl
     .cases T
     .cases d6
     rfl
    simp only[go_sem,rf,Al,u,H,x,v,A,aL,Q,d5,d7,T,d6,d8,Ok];refine ke pc lo (.inl rfl) λcc bp z L=>?_;have Z:=X.of_eq (L 2754944320 U);obtain⟨r,O,hr⟩:=z.elems;simp only[go_sem,u,H,x,v,A];refine iR (A:=bh q) Z O z.ao (by simp only[j4];omega) λM qb R ef=>?_;simp only[go_sem,u,H,x,v,w1,B];exact⟨m++q,M,by simp;omega,P2 Y y B,SM,S7,rfl,by rw[show bh (m++q)=bh m++bh q by simp[bh]];exact R⟩
 have:k=I f:=J;subst this;simp only[go_sem,rf,zc,u,H,x,v,A,dF];exact⟨_,⟨m,⟨ad,Y,⟨λab=>J,λ_=>E⟩,ot.2⟩,rfl⟩,nV X⟩
end
def NG(k:Int)(a:Nat):db:=⟨k,a,0,0,false,false,0⟩
def CJ(a i:Nat):db:=⟨5,a,0,0,false,decide ((1:Int)<(i:Int)),IntKind.i64.wrap (IntKind.i64.wrap (2*((i:Int).tmod 2))-1)⟩
def L7(a c i:Nat):db:=⟨7,a,c,0,decide ((1:Int)<(i:Int)),((i:Int).tmod 2)==1,0⟩
def rb (n:Nat)(k:Int):dm:=(List.range n).map (NG k)
def mL (n:Nat):dm:=(List.range n).flatMap λa=>(List.range 4).map (CJ a)
def rD(a i c:Nat):dm:=if c=a then []else(List.range i).map (L7 a c)
def uA(a n:Nat):dm:=(List.range n).flatMap (rD a 4)
def qA (m n:Nat):dm:=(List.range n).flatMap λa=>uA a m
def aqn(n:Nat)(k:Int):rb (n+1) k=rb n k++[NG k n]:=by simp[rb,j0]
def Xi(n:Nat):mL (n+1)=mL n++(List.range 4).map (CJ n):=by simp[mL,j0]
def Xs(a n:Nat):uA a (n+1)=uA a n++rD a 4 n:=by simp[uA,j0]
def Xy(m n:Nat):qA m (n+1)=qA m n++uA n m:=by simp[qA,j0]
def alK{f:Nat->db}(i:Nat):(List.range (i+1)).map f=(List.range i).map f++[f i]:=by simp[j0]
def YV(n:Nat)(k:Int):I (rb n k)=n:=by simp[rb]
def Uj:∀n:Nat,I (mL n)=4*n
 |0=>rfl
 |n+1=>by rw[Xi,ep,Uj n,cT,Ff];omega
def W0(a i c:Nat):I (rD a i c)<=i:=by unfold rD;split<;>simp
def TS(a:Nat):∀n:Nat,I (uA a n)<=4*n
 |0=>cH _
 |n+1=>by have:=TS a n;have:=W0 a 4 n;rw[Xs,ep];omega
def P3(m:Nat):∀n:Nat,I (qA m n)<=4*(m*n)
 |0=>bC _
 |n+1=>by have:=P3 m n;have:=TS n m;rw[Xy,ep,Nat.mul_succ];omega
def EB(a b:dm):bh (a++b)=bh a++bh b:=by simp[bh]
section
variable {F:Nat} {f:aI}
def ad9(g:ch F f)(aY:0<I f)(D:(h==2)=false)(N:(h==5)=false)(T:(h==7)=false)(E:(h==3)=false)(X:(h==6)=false)(O:(h==8)=false):aC S 43 [.one (.p (df F f)),aq h] (.one (bn fx 7 (bh (rb (I f) h)))):=by
 have x:=g.len;have B:I (bX (a_ f))=I f:=by rw[bX,cT,bR]
 have M:(((I f:Nat):Int)==0)=false:=by rw[pQ];omega
 suffices ab:∃r,r=.one (bn fx 7 (bh (rb (I f) h)))/\aC S 43 [.one (.p (df F f)),aq h] r by obtain⟨r,rfl,L⟩:=ab;exact L
 refine vm rfl BC (gU rfl) ?_;simp only[go_sem,Af,Aq,B,M];refine cD (λk A blk=>A 0=.one (.p (df F f))/\A 1=aq h/\A 41=aq (I f)/\A 42=aq k/\ ∃c,A 5=.one c/\aW 2752768320 fx 7 (bh (rb k h)) (.one c) blk) 0 (I f) (bC _) ?_ ?_
 .simp only[go_sem,B];exact⟨rfl,.p .nils,rfl,aW.nil⟩
 rintro k A blk hk ⟨H,m,q,j,c,v,u⟩
 by_cases Y:k<I f
 .have Q:((k:Int)<(I f:Int)):=J;have z:=bJ (n:=k) J;simp only[go_sem,rf,Al,H,m,q,j,v,Q,D,N,T,E,X,O];refine iR (A:=[db.ps (NG h k)]) (u.of_eq (by simp only[bj,Nat.reduceEqDiff,if_false])) (by simp only[eO,bj,if_true];rfl) (.inl rfl) (by simp only[j4,YV,dE,eR];omega) λy qb R Z=>?_;simp only[go_sem,H,m,q,j,z,Y];exact⟨y,rfl,by rw[aqn,EB];exact R⟩
 have:k=I f:=J;subst this;simp only[go_sem,rf,zc,H,m,q,j,v,dF];exact⟨_,rfl,nV u⟩
def asf(g:ch F f)(aY:0<I f):aC S 43 [.one (.p (df F f)),aq 5] (.one (bn fx 7 (bh (mL (I f))))):=by
 have L:=g.len;have N:I (bX (a_ f))=I f:=by rw[bX,cT,bR]
 have dH:(((I f:Nat):Int)==0)=false:=by rw[pQ];omega
 have R:((5:Int)==2)=false:=U;have d5:((5:Int)==5):=U;have X:¬((2:Int)=0):=U
 suffices h:∃r,r=.one (bn fx 7 (bh (mL (I f))))/\aC S 43 [.one (.p (df F f)),aq 5] r by obtain⟨r,rfl,Y⟩:=h;exact Y
 refine vm rfl BC (gU rfl) ?_;simp only[go_sem,Af,Aq,N,dH];refine cD (λk j blk=>j 0=.one (.p (df F f))/\j 1=aq 5/\j 41=aq (I f)/\j 42=aq k/\ ∃c,j 5=.one c/\aW 2753920704 fx 7 (bh (mL k)) (.one c) blk) 0 (I f) (bC _) ?_ ?_
 .simp only[go_sem,N];exact⟨rfl,.p .nils,rfl,aW.nil⟩
 rintro k j blk hk ⟨H,v,E,z,c,x,m⟩
 by_cases au:k<I f
 .have aL:((k:Int)<(I f:Int)):=J;have T:=bJ (n:=k) J;simp only[go_sem,rf,Al,H,v,E,z,x,aL,R,d5];refine cD (λi A O=>A 0=.one (.p (df F f))/\A 1=aq 5/\A 8=aq k/\A 41=aq (I f)/\A 42=aq k/\A 99=aq i/\ ∃c,A 5=.one c/\aW 2753920704 fx 7 (bh (mL k++(List.range i).map (CJ k))) (.one c) O) 0 4 (bC _) ?_ ?_
  .refine⟨?_,?_,?_,?_,?_,?_,c,?_,by simpa using m⟩<;>(simp only[go_sem,H,v,E,z,x];first|done|rfl)
  rintro i A O hi ⟨Q,u,D,y,B,q,c,M,m⟩
  have kE:I (bh (mL k++(List.range i).map (CJ k)))=4*k+i:=by rw[j4,ep,Uj,cT,Ff]
  by_cases dV:i<4
  .have Z:((i:Int)<4):=J;have w2:=bJ (n:=i) J;simp only[go_sem,NJ,Q,u,D,y,B,q,M,Z,X];refine iR (A:=[db.ps (CJ k i)]) (m.of_eq (by simp only[bj,Nat.reduceEqDiff,if_false])) (by simp only[eO,bj,if_true];rfl) (.inl rfl) (by rw[kE];simp only[dE,eR];omega) λc2 qb rV ef=>?_;simp only[go_sem,Q,u,D,y,B,q,w2,dV];exact⟨c2,rfl,by rw[q_,<-jL,EB];exact rV⟩
  have:i=4:=J;subst this;have h4:¬(((4:Nat):Int)<4):=U;simp only[go_sem,NJ,Q,u,D,y,B,q,M,h4,T,au];exact⟨c,rfl,by rw[Xi];exact m⟩
 have:k=I f:=J;subst this;simp only[go_sem,rf,zc,H,v,E,z,x,dF];exact⟨_,rfl,nV m⟩
def anA(g:ch F f)(aY:0<I f):aC S 43 [.one (.p (df F f)),aq 7] (.one (bn fx 7 (bh (qA (I f) (I f))))):=by
 have H:=g.len;have bd:I (bX (a_ f))=I f:=by rw[bX,cT,bR]
 have dH:(((I f:Nat):Int)==0)=false:=by rw[pQ];omega
 have d2:((7:Int)==2)=false:=U;have d5:((7:Int)==5)=false:=U;have d7:((7:Int)==7):=U;have xO:¬((2:Int)=0):=U
 suffices h:∃r,r=.one (bn fx 7 (bh (qA (I f) (I f))))/\aC S 43 [.one (.p (df F f)),aq 7] r by obtain⟨r,rfl,h2⟩:=h;exact h2
 refine vm rfl BC (gU rfl) ?_;simp only[go_sem,Af,Aq,bd,dH];refine cD (λk q blk=>q 0=.one (.p (df F f))/\q 1=aq 7/\q 6=aq (I f)/\q 41=aq (I f)/\q 42=aq k/\ ∃c,q 5=.one c/\aW 2754560704 fx 7 (bh (qA (I f) k)) (.one c) blk) 0 (I f) (bC _) ?_ ?_
 .simp only[go_sem,bd];exact⟨rfl,.p .nils,rfl,aW.nil⟩
 rintro k q blk hk ⟨D,N,h6,kB,iS,c,X,m⟩
 by_cases au:k<I f
 .have aL:((k:Int)<(I f:Int)):=J;have w1:=bJ (n:=k) J;have hb:I f*k<=400*400:=A_ H J;have dt:=P3 (I f) k;simp only[go_sem,rf,Al,D,N,h6,kB,iS,X,aL,d2,d5,d7];refine cD (λj A ak=>A 0=.one (.p (df F f))/\A 1=aq 7/\A 6=aq (I f)/\A 8=aq k/\A 41=aq (I f)/\A 42=aq k/\A 117=aq (I f)/\A 118=aq j/\ ∃c,A 5=.one c/\aW 2754560704 fx 7 (bh (qA (I f) k++uA k j)) (.one c) ak) 0 (I f) (bC _) ?_ ?_
  .refine⟨?_,?_,?_,?_,?_,?_,?_,?_,c,?_,by simpa [uA]using m⟩<;>(simp only[go_sem,D,N,h6,kB,iS,X];first|done|rfl)
  rintro j A ak hj ⟨Q,L,E,q8,qx,qy,T7,T,c,Z,m⟩
  by_cases jm:j<I f
  .have zC:((j:Int)<(I f:Int)):=J;have w2:=bJ (n:=j) J;have mE:=TS k j;simp only[go_sem,N7,WL,Q,L,E,q8,qx,qy,T7,T,Z,zC];refine cD (λi O yX=>O 0=.one (.p (df F f))/\O 1=aq 7/\O 6=aq (I f)/\O 8=aq k/\O 14=aq j/\O 41=aq (I f)/\O 42=aq k/\O 117=aq (I f)/\O 118=aq j/\O 121=aq i/\ ∃c,O 5=.one c/\aW 2754560704 fx 7 (bh (qA (I f) k++uA k j++rD k i j)) (.one c) yX) 0 4 (bC _) ?_ ?_
   .refine⟨?_,?_,?_,?_,?_,?_,?_,?_,?_,?_,c,?_,by simpa [rD]using m⟩<;>(simp only[go_sem,Q,L,E,q8,qx,qy,T7,T,Z];first|done|rfl)
   rintro i O yX hi ⟨r0,r1,u,y,R,z,B,v,M,x,c,Y,m⟩
   have kE:I (bh (qA (I f) k++uA k j++rD k i j))<=4*(400*400)+4*400+4:=by have:=W0 k i j;rw[j4,ep,ep];omega
   by_cases dV:i<4
   .have nN:((i:Int)<4):=J;have w3:=bJ (n:=i) J;by_cases IF:j=k
    .subst IF;have e1:((j:Int)!=(j:Int))=false:=aG;simp only[go_sem,Lw,r0,r1,u,y,R,z,B,v,M,x,Y,nN,dV,e1,w3];exact⟨c,rfl,by simpa [rD]using m⟩
    have e1:((j:Int)!=(k:Int)):=by simp;omega
    simp only[go_sem,Lw,r0,r1,u,y,R,z,B,v,M,x,Y,nN,xO,e1];refine iR (A:=[db.ps (L7 k j i)]) (m.of_eq (by simp only[bj,Nat.reduceEqDiff,if_false])) (by simp only[eO,bj,if_true];rfl) (.inl rfl) (by simp only[dE,eR];omega) λc2 qb rV ef=>?_;simp only[go_sem,r0,r1,u,y,R,z,B,v,M,x,w3,dV];exact⟨c2,rfl,by rw[show rD k (i+1) j=rD k i j++[L7 k j i] by rw[rD,rD,aD IF,aD IF,alK],<-jL,EB];exact rV⟩
   have:i=4:=J;subst this;have h4:¬(((4:Nat):Int)<4):=U;simp only[go_sem,Lw,r0,r1,u,y,R,z,B,v,M,x,Y,h4,w2,jm];exact⟨c,rfl,by rw[Xs,<-jL];exact m⟩
  have:j=I f:=J;subst this;simp only[go_sem,N7,Q,L,E,q8,qx,qy,T7,T,Z,dF,w1,au];exact⟨c,rfl,by rw[Xy];exact m⟩
 have:k=I f:=J;subst this;simp only[go_sem,rf,zc,D,N,h6,kB,iS,X,dF];exact⟨_,rfl,nV m⟩
end
abbrev akF(p:Int×Int):c_:=[.int .i64 p.1,.int .i64 p.2]
abbrev lq(l:tE):dC:=l.map akF
def C_{l:tE}{k:Nat}(h:l[k]?=some x):(lq l)[k]?=some [.int .i64 x.1,.int .i64 x.2]:=by rw[gZ,h];rfl
def Lv(l:tE):I (lq l)=I l:=cT ..
def Zb(l:tE)(k:Nat)(x:Int×Int):(lq l).set k [.int .i64 x.1,.int .i64 x.2]=lq (l.set k x):=by rw[lq,lq,tK]
def ag0{f:tE}{k:Nat}(h:k<=I f):List.take k (lq f)++List.replicate (I f-k) [PV.int .i64 0,PV.int .i64 0]++List.drop (k+(I f-k)) (lq f)=lq (f.take k++List.replicate (I f-k) (0,0)):=by rw[Jn (by simp;omega),jE];simp only[lq,q_,List.map_replicate,GN]
def kL(l:tE):tE:=l.foldl (λr x=>if r.getLast?=some x then r else r++[x]) []
def Cp(l:tE)(x:Int×Int):kL (l++[x])=if(kL l).getLast?=some x then kL l else kL l++[x]:=by rw[kL,yq];rfl
def LN{α:Type}{p:List α->Prop}(g:p [])(H:∀l x,p l->p (l++[x]))(l:List α):p l:=by
 have:∀l:List α,p l.reverse:=λl=>by
  induction l with
  |nil=>exact g
  |cons x l f=>rw[List.reverse_cons];exact H _ _ f
 have h:=this l.reverse;rwa[List.reverse_reverse]at h
def R1(l:tE):(kL l).getLast?=l.getLast?:=by
 refine LN (p:=λl=>(kL l).getLast?=l.getLast?) rfl (λl x f=>?_) l;rw[Cp];split
 .rename_i h;rw[h];simp
 simp
def tw{α:Type}{l:List α}{k:Nat}{x:α}(h:l[k]?=some x):l.take (k+1)=l.take k++[x]:=by rw[List.take_succ,h];rfl
def ab9{α:Type}{l:List α}{k:Nat}{x:α}(h:l[k]?=some x):(l.take (k+1)).getLast?=some x:=by rw[tw h];simp
def ab3{l:tE}{k:Nat}(H:l[k]?=some x)(h:l[k+1]?=some x):kL (l.take (k+2))=kL (l.take (k+1)):=by rw[tw h,Cp,R1,ab9 H,aM rfl]
def Ni{l:tE}{k:Nat}{y:Int×Int}(f:l[k]?=some x)(H:l[k+1]?=some y)(h:x≠y):kL (l.take (k+2))=kL (l.take (k+1))++[y]:=by rw[tw H,Cp,R1,ab9 f,aD (λe=>h (xH e))]
def ad7(l:tE)(z:Int×Int):z∈kL l↔z∈l:=by
 refine LN (p:=λl=>z∈kL l↔z∈l) Iff.rfl (λl x f=>?_) l;rw[Cp];split
 .rename_i h;rw[f,fB,pA];refine⟨.inl,λH=>H.elim id λe=>?_⟩;subst e;exact f.1 (List.mem_of_getLast? h)
 rw[fB,fB,f]
def apD{R L:Int×Int->Int×Int->Prop}(u:∀x y,L x y->x≠y->R x y)(A:∀x y z,L x y->L y z->L x z)(v:∀x y,L x y->L y x->x=y)(l:tE):l.Pairwise L->(kL l).Pairwise R:=by
 refine LN (p:=λl=>l.Pairwise L->(kL l).Pairwise R) (λ_=>List.Pairwise.nil) (λl x m hp=>?_) l;rw[Bv]at hp;obtain⟨g,_,j⟩:=hp;rw[Cp];split
 .exact m g
 rename_i q;rw[Bv];refine⟨m g,OE _ _,λa r b f=>?_⟩;have f:=pA.1 f;subst f;have H:=(ad7 l a).1 r;refine u _ _ (j a H b aG) λe=>q ?_;subst e;rw[R1]
 cases hl:l.getLast? with
 |none=>rw[List.getLast?_eq_none_iff.1 hl]at H;cases H
 |some w=>
  have n:=List.mem_of_getLast? hl;obtain⟨B,rfl⟩:=List.getLast?_eq_some_iff.1 hl;rcases fB.1 H with h|h
  .have Q:=(Bv.1 g).2.2 a h w aG;exact congrArg some (v _ _ (j w n a aG) Q)
  rw[pA.1 h]
def ada{l:tE}(h:I l<2):kL l=l:=by
 rcases l with _|⟨x,_|⟨y,l⟩⟩
 .rfl
 .rfl
 simp at h;omega
def YZ(id g u:Nat)(h:tE)(blk:aB)(v:V)(A:aB):Prop:=(∃(m:Nat) (f:tE),m<=I h/\I f=I h/\f.take m=kL h/\v=.one (.hsl id g 2 0 m)/\A id=(g,some (.arr u 2 (lq f))))/\c8 (· =id) blk A
def aoG{al:bP}{blk:aB}{id:Nat}{j:tE}(o:al.ok id)(hl:I j<=1000000)(N:blk id=(g,some (.arr u 2 (lq j)))):
  ∃v D,ia S 66 [.one (.hsl id g 2 0 (I j))] al blk v D/\YZ id g u j blk v D:=by
 refine mU adV (gU rfl) ?_;by_cases h2:I j<2
 .have gk:((I j:Int)<2):=J;simp only[go_sem,Kq,gk,ae,ao];exact⟨⟨I j,j,cH _,rfl,by rw[iV];exact(ada h2).symm,rfl,N⟩,c8.refl _ _⟩
 have gk:¬((I j:Int)<2):=J;simp only[go_sem,Kq,gk,ae,ao];refine cD (λq B D=>B 0=.one (.hsl id g 2 0 (I j))/\B 3=aq ((q+1:Nat):Int)/\D=blk/\kL (j.take (q+1))=j.take (q+1)) 0 (I j) (bC _) ?_ ?_
 .simp only[go_sem];exact⟨rfl,ada (by rw[iU];omega)⟩
 rintro q B bp hq ⟨Y,Q,rfl,Ip⟩
 by_cases au:q+1<I j
 .have O:(((q+1:Nat):Int)<(I j:Int)):=J;obtain⟨x,H⟩:=bq (h:=j) (k:=q+1) au;obtain⟨y,hy⟩:=bq (h:=j) (k:=q) J;have kY:=C_ H;have th:=C_ hy;have wj:IntKind.i64.wrap (((q+1:Nat):Int)-1)=(q:Int):=by rw[oe J];omega
  have wk:=bJ (n:=q+1) J;have q1:q<I j:=J;have q2:q+1<=I j:=J;have pz:=Lv j;have no:(x.1==y.1)=false\/((x.1==y.1)/\(x.2==y.2)=false)\/((x.1==y.1)/\(x.2==y.2)):=by cases(x.1==y.1)<;>cases(x.2==y.2)<;>simp
  rcases no with E|⟨E,A⟩|⟨E,A⟩
  .simp only[go_sem,FQ,Nz,Y,Q,au,O,kY,th,wj,wk,q1,q2,N,o,E,k_,kV,pz,ae,ao];refine⟨aw,?_⟩;have F:y≠x:=λe=>by subst e;simp at E
   exact(Ni hy H F).trans (by rw[Ip,<-tw H])
  .simp only[go_sem,FQ,Nz,Y,Q,au,O,kY,th,wj,wk,q1,q2,N,o,E,A,k_,kV,pz,ae,ao];refine⟨aw,?_⟩;have F:y≠x:=λe=>by subst e;simp at A
   exact(Ni hy H F).trans (by rw[Ip,<-tw H])
  simp only[go_sem,FQ,Y,Q,au,O,kY,th,wj,q1,q2,N,o,E,A,k_,kV,pz,ae,ao];refine⟨aw,?_⟩;have qV:x=y:=zw (by simpa using E) (by simpa using A);have ab:kL (j.take (q+2))=j.take (q+1):=by rw[ab3 (qV▸hy) H,Ip]
  clear E A kY th H hy;refine cD (λr B D=>B 0=.one (.hsl id g 2 0 (I j))/\B 4=.one (.hsl id g 2 (q+1) (I j-(q+1)))/\B 5=aq ((r+1:Nat):Int)/\ ∃(m:tE) (k:Nat),B 3=aq (k:Nat)/\D id=(g,some (.arr u 2 (lq m)))/\I m=I j/\k<q+2+r/\q+2+r<=I j/\m.take k=kL (j.take (q+2+r))/\(∀i,q+1+r<=i->m[i]?=j[i]?)/\c8 (· =id) bp D) 0 (I j) (bC _) ?_ ?_
  .simp only[go_sem,Y];exact⟨rfl,j,q+1,Q,N,rfl,J,J,ab.symm,λ_ _=>rfl,c8.refl _ _⟩
  rintro r cF aV hr ⟨k0,k4,k5,m,k,k3,hB,L,an,am,eK,oX,cR⟩
  by_cases xZ:r+1<I j-(q+1)
  .have X:(((r+1:Nat):Int)<((I j-(q+1):Nat):Int)):=J;obtain⟨M,hu⟩:=bq (h:=m) (k:=q+1+(r+1)) J;obtain⟨v,hv⟩:=bq (h:=m) (k:=q+1+r) J;have wu:j[q+1+r+1]?=some M:=by rw[<-oX _ J];exact hu
   have wv:j[q+1+r]?=some v:=by rw[<-oX _ J];exact hv
   have cu:=C_ hu;have cv:=C_ hv;have wr:IntKind.i64.wrap (((r+1:Nat):Int)-1)=(r:Int):=by rw[oe J];omega
   have GF:=bJ (n:=r+1) J;have R:=bJ (n:=k) J;have r1:r<I j-(q+1):=J;have h:k<I j:=J;have T:k<I m:=J;obtain⟨z,hz⟩:=bq T;have cz:=C_ hz;have no:(M.1==v.1)=false\/((M.1==v.1)/\(M.2==v.2)=false)\/((M.1==v.1)/\(M.2==v.2)):=by cases(M.1==v.1)<;>cases(M.2==v.2)<;>simp
   rcases no with E|⟨E,A⟩|⟨E,A⟩
   .simp only[go_sem,Fc,k0,k4,k5,k3,xZ,X,r1,hB,cu,cv,wr,GF,R,h,T,cz,o,E,k_,kV,Lv,L,ae,ao];refine⟨aw,J,m.set k M,k+1,rfl,by rw[Zb],by simpa using L,J,J,?_,λi hi=>by rw[Us J];exact oX i J,cR.cQ rfl _⟩;have F:v≠M:=λe=>by subst e;simp at E
    rw[tw (List.getElem?_set_self T),T9 (cH _),eK,show q+2+(r+1)=q+1+r+2 by omega,show q+2+r=q+1+r+1 by omega];exact(Ni wv wu F).symm
   .simp only[go_sem,Fc,k0,k4,k5,k3,xZ,X,r1,hB,cu,cv,wr,GF,R,h,T,cz,o,E,A,k_,kV,Lv,L,ae,ao];refine⟨aw,J,m.set k M,k+1,rfl,by rw[Zb],by simpa using L,J,J,?_,λi hi=>by rw[Us J];exact oX i J,cR.cQ rfl _⟩;have F:v≠M:=λe=>by subst e;simp at A
    rw[tw (List.getElem?_set_self T),T9 (cH _),eK,show q+2+(r+1)=q+1+r+2 by omega,show q+2+r=q+1+r+1 by omega];exact(Ni wv wu F).symm
   simp only[go_sem,Fc,k0,k4,k5,k3,xZ,X,r1,hB,cu,cv,wr,GF,o,E,A,k_,kV,ae,ao];refine⟨aw,J,m,k,rfl,rfl,L,J,J,?_,λi hi=>oX i J,cR⟩;have ag:M=v:=zw (by simpa using E) (by simpa using A);rw[eK,show q+2+(r+1)=q+1+r+2 by omega,show q+2+r=q+1+r+1 by omega];exact(ab3 wv (ag▸wu)).symm
  have X:¬(((r+1:Nat):Int)<((I j-(q+1):Nat):Int)):=J;have Z:k<=I j:=J;have ad:k+(I j-k)<=I m:=J;by_cases hz:I j-k=0
  .exact absurd hz J
  have mg:=ag0 (f:=m) (k:=k) J;rw[L]at mg;simp only[go_sem,Fc,Wv,k0,k4,k5,k3,X,hB,o,Z,ad,hz,GB,Lv,mg,ae,ao];refine⟨⟨k,_,Z,by simp;omega,?_,rfl,oJ⟩,cR.cQ rfl _⟩;rw[List.take_left' (by rw[iU];omega),eK,eW J]
 have O:¬(((q+1:Nat):Int)<(I j:Int)):=J;simp only[go_sem,FQ,ac4,Y,Q,O,ae,ao];exact⟨⟨I j,j,cH _,rfl,by rw[iV];rw[eW J]at Ip;exact Ip.symm,rfl,N⟩,c8.refl _ _⟩
abbrev Kv:V:=.one (.p (.fn 65 [] []))
def ahv(f:Nat)(A:c7)(al:bP)(blk:aB):S.primS f A al blk=vk jS A al blk:=rfl
def ark{al:bP}{blk:aB}{id:Nat}{l:tE}(H:al.ok id)(f:blk id=(g,some (.arr u 2 (lq l))))(hl:I l<4611686018427387904)(h:l.all xd):∃v A,ia S 64 [.one (.hsl id g 2 0 (I l)),Kv] al blk v A/\v=.tup []/\A=cQ blk id (g,some (.arr u 2 (lq (mH jS l)))):=
 ⟨_,_,⟨1,by rw[gG,aM (show S.trig 64 [.one (.hsl id g 2 0 (I l)),Kv]=true from rfl),ahv,V2 f rfl hl h H];rfl⟩,rfl,rfl⟩
def afN{al:bP}{blk:aB}:∃v A,ia S 64 [.one (.p .nils),Kv] al blk v A/\v=.tup []/\A=blk:=
 ⟨_,_,⟨1,by rw[gG,aM (show S.trig 64 [.one (.p .nils),Kv]=true from rfl)];rfl⟩,rfl,rfl⟩
def aiV{al:bP}{blk:aB}:∃v A,ia S 66 [.one (.p .nils)] al blk v A/\v=.one (.p .nils)/\A=blk:=by refine mU adV (gU rfl) ?_;have h:(((0:Nat):Int)<2):=U;simp only[go_sem,Kq,h,ae,ao];first|done|exact⟨rfl,rfl⟩|trace_state
def pX(l:gN):tE:=l.map λp=>((p.1:Int),(p.2:Int))
def aoC(l:gN):lq (pX l)=dc l:=by rw[lq,pX,u9];rfl
def ao6(F:Nat)(f:aI)(k s:Nat):gN:=(List.range s).flatMap λj=>(cK F f (2*k+j)).places
def G_(k:Nat)(x:Int×Int):db:=⟨2,k,x.1,x.2,false,false,0⟩
def yo(F:Nat)(f:aI)(k:Nat):tE:=kL (mH jS (pX (ao6 F f k 2)))
def nR (F:Nat)(f:aI)(n:Nat):dm:=(List.range n).flatMap λk=>(yo F f k).map (G_ k)
def asN(F:Nat)(f:aI)(k s:Nat):ao6 F f k (s+1)=ao6 F f k s++(cK F f (2*k+s)).places:=by simp[ao6,j0]
def aaX(F:Nat)(f:aI)(n:Nat):nR F f (n+1)=nR F f n++(yo F f n).map (G_ n):=by simp[nR,j0]
def anX(l:tE):I (kL l)<=I l:=by
 refine LN (p:=λl=>I (kL l)<=I l) (cH _) (λl x f=>?_) l;rw[Cp];split
 .simp;omega
 simp;omega
section
variable {F:Nat} {f:aI}
def amk(g:ch F f)(aY:0<I f)(an:∀a1∈cZ F f,I a1.places<=200000/\ ∀p∈a1.places,p.1<=1000000/\p.2<=1000000):I (nR F f (I f))<=400000*I f/\aC S 43 [.one (.p (df F f)),aq 2] (.one (bn fx 7 (bh (nR F f (I f))))):=by
 have a2:=g.len;have bd:I (bX (a_ f))=I f:=by rw[bX,cT,bR]
 have dH:(((I f:Nat):Int)==0)=false:=by rw[pQ];omega
 have d2:((2:Int)==2):=U
 suffices h:∃r,(I (nR F f (I f))<=400000*I f/\r=.one (bn fx 7 (bh (nR F f (I f)))))/\aC S 43 [.one (.p (df F f)),aq 2] r by obtain⟨r,⟨Z,rfl⟩,h2⟩:=h;exact⟨Z,h2⟩
 refine vm rfl BC (gU rfl) ?_;simp only[go_sem,Af,Aq,bd,dH];refine cD (λk aj blk=>aj 0=.one (.p (df F f))/\aj 1=aq 2/\aj 41=aq (I f)/\aj 42=aq k/\ ∃c,I (nR F f k)<=400000*k/\aj 5=.one c/\aW 2753536576 fx 7 (bh (nR F f k)) (.one c) blk) 0 (I f) (bC _) ?_ ?_
 .simp only[go_sem,bd];exact⟨rfl,.p .nils,bC _,rfl,aW.nil⟩
 rintro k aj blk hk ⟨h0,Z,kB,iS,c,az,h5,u⟩
 by_cases au:k<I f
 .have aL:((k:Int)<(I f:Int)):=J;have w1:=bJ (n:=k) J;simp only[go_sem,rf,Al,h0,Z,kB,iS,h5,aL,d2];refine cD (λs A M=>A 0=.one (.p (df F f))/\A 1=aq 2/\A 8=aq k/\A 41=aq (I f)/\A 42=aq k/\A 54=aq s/\A 5=.one c/\aW 2753536576 fx 7 (bh (nR F f k)) (.one c) M/\ ∃cp:b_,I (ao6 F f k s)<=200000*s/\(∀p∈ao6 F f k s,p.1<=1000000/\p.2<=1000000)/\A 9=.one cp/\aW 2753153152 127 2 (dc (ao6 F f k s)) (.one cp) M) 0 2 (bC _) ?_ ?_
  .refine⟨?_,?_,?_,?_,?_,?_,?_,u,.p .nils,bC _,(λp h=>by cases h),?_,aW.nil⟩<;>(simp only[go_sem,h0,Z,kB,iS,h5];first|done|rfl)
  rintro s A M aa ⟨z,B,y,D,E,N,Q,u,cp,a5,dd,q,gp⟩
  by_cases hsl:s<2
  .have am:((s:Int)<2):=J;obtain⟨j,CT,jJ,rZ⟩:=FU g (d:=2*k+s) J;have CY:=bY jJ;obtain⟨a3,ap⟩:=an _ CY;have uf:=fC CT;have ud:=BP jJ;have m2:=lR (a:=k) J;have m3:=oo (a:=2*k) (b:=s) J;have w2:=bJ (n:=s) J;have og:2*k+s<I (gK F f):=by rw[AH];omega
   have ve:=asN F f k s;generalize cK F f (2*k+s)=a1 at*;generalize ao6 F f k s=ps at*;simp only[go_sem,Vd,z,B,y,D,E,N,Q,q,am,m2,m3,og,uf,rZ,ud,cM.ps];refine tB (A:=dc a1.places) (rd:=[]) (gp.of_eq (by simp only[bj,Nat.reduceEqDiff,if_false])) rfl (.inr (by simp[ao])) (by simp only[cT];omega) λc' gh r1 u1 g1 fX dD=>?_;have rU:=u.of_eq (fX 2753536576 U U);rw[show dc ps++dc a1.places=dc (ps++a1.places) by simp[dc]]at g1;simp only[go_sem,z,B,y,D,E,N,Q,w2,hsl];rw[ve];refine⟨?_,rU,c',by rw[ep];omega,λp hp=>?_,rfl,g1⟩
   .rcases dD with⟨rfl,rfl⟩|⟨rfl,rfl⟩|⟨rfl,rfl⟩<;>kernel_rfl
   rcases fB.1 hp with h|h
   .exact dd p h
   exact ap p h
  have:s=2:=J;subst this;have h2:¬(((2:Nat):Int)<2):=U;have dt:I (yo F f k)<=400000:=by
   have Z:=anX (mH jS (pX (ao6 F f k 2)));rw[UJ]at Z;have h2:I (pX (ao6 F f k 2))=I (ao6 F f k 2):=by simp[pX]
   unfold yo;omega
  have H:=aaX F f k;have ad:yo F f k=kL (mH jS (pX (ao6 F f k 2))):=rfl;generalize nR F f k=m at*;generalize yo F f k=ck at*;generalize ao6 F f k 2=ps at*;have iI:I (nR F f (k+1))<=400000*(k+1):=by rw[H,ep,cT];omega
  simp only[go_sem,Vd,VE,z,B,y,D,E,N,Q,q,h2,anI];rcases gp with⟨he,hc⟩|⟨he,L,hc,hC⟩
  .cases hc;refine HK (by rfl) (.inl rfl) (P:=λv b=>v=.tup []/\b=M) (λlQ _=>afN) λv b T=>?_;obtain⟨rfl,rfl⟩:=T;simp only[go_sem,z,B,y,D,E,N,Q,q,aaR];refine HK (by rfl) (.inl rfl) (P:=λv b'=>v=.one (.p .nils)/\b'=b) (λlQ _=>aiV) λv b2 T=>?_;obtain⟨rfl,rfl⟩:=T;have z0:¬((0:Int)<((0:Nat):Int)):=U;simp only[go_sem,z,B,y,D,E,N,Q,q];refine mu ?_;simp only[go_sem,KJ,z,B,y,D,E,N,Q,q,z0,w1,au];have a0:ps=[]:=by simpa using he
   subst a0;subst ad;exact⟨c,iI,rfl,by rw[H];simpa [pX,mH,kL]using u⟩
  cases hc;rw[<-aoC]at hC;have mI:I (pX ps)=I ps:=by simp[pX]
  have yd:I (dc ps)=I (pX ps):=by simp[pX]
  have ar:(pX ps).all xd:=gL.2 λx hx=>by obtain⟨p,hp,rfl⟩:=eJ.1 hx;have:=dd p hp;simp only[xd,cq,fH];omega
  rw[yd]at q |-;refine tJ hC (by rfl) (.inl rfl) (P:=λv b=>v=.tup []/\b=cQ M 2753153152 (L,some (.arr 127 2 (lq (mH jS (pX ps)))))) (λlQ o1 o2=>ark o1 hC J ar) λv b T=>?_;obtain⟨rfl,rfl⟩:=T;simp only[go_sem,z,B,y,D,E,N,Q,q,aaR];have hsl:=UJ jS (pX ps);rw[<-hsl]at q |-;generalize mH jS (pX ps)=so at*;subst ad;have uZ:cQ M 2753153152 (L,some (.arr 127 2 (lq so))) 2753153152=(L,some (.arr 127 2 (lq so))):=oJ;have zi:aW 2753536576 fx 7 (bh m) (.one c) (cQ M 2753153152 (L,some (.arr 127 2 (lq so)))):=u.of_eq (bo U);generalize cQ M 2753153152 (L,some (.arr 127 2 (lq so)))=aV at*
  refine tJ uZ (by rfl) (.inl rfl) (P:=YZ 2753153152 L 127 so aV) (λlQ o1 o2=>aoG o1 J uZ) λv gh T=>?_;obtain⟨⟨ag,cs,hm,cX,eK,rfl,hb⟩,cR⟩:=T;rw[<-eK]at dt H;have a4:I (cs.take ag)=ag:=by rw[iU];omega
  have rU:=zi.of_eq (cR 2753536576 U);simp only[go_sem,z,B,y,D,E,N,Q,q];refine cD (λi X qb=>X 0=.one (.p (df F f))/\X 1=aq 2/\X 8=aq k/\X 41=aq (I f)/\X 42=aq k/\X 80=.one (.hsl 2753153152 L 2 0 ag)/\X 81=aq ag/\X 82=aq i/\qb 2753153152=(L,some (.arr 127 2 (lq cs)))/\ ∃c,X 5=.one c/\aW 2753536576 fx 7 (bh (m++((cs.take i).map (G_ k)))) (.one c) qb) 0 ag (bC _) ?_ ?_
  .refine⟨?_,?_,?_,?_,?_,?_,?_,?_,hb,c,?_,by simpa using rU⟩<;>(simp only[go_sem,z,B,y,D,E,Q];first|done|rfl)
  rintro i X qb hi ⟨r0,r1,r8,BU,BX,O,R,Y,bK,c,r5,u⟩
  by_cases dV:i<ag
  .have nN:((i:Int)<(ag:Int)):=J;obtain⟨x,hx⟩:=bq (h:=cs) (k:=i) J;have kY:=C_ hx;have w3:=bJ (n:=i) J;simp only[go_sem,KJ,r0,r1,r8,BU,BX,O,R,Y,r5,bK,dV,nN,kY];refine iR (A:=[db.ps (G_ k x)]) (u.of_eq (by simp only[bj,Nat.reduceEqDiff,if_false])) (by simp only[eO,bj,if_true];rfl) (.inl rfl) (by simp only[j4,ep,cT,iU,dE,eR];omega) λc2 yY ay xS=>?_;have ab:=xS 2753153152 U U;simp only[go_sem,bK]at ab;simp only[go_sem,r0,r1,r8,BU,BX,O,R,Y,w3,dV];exact⟨ab,c2,rfl,by rw[tw hx,q_,<-jL,EB];exact ay⟩
  have:i=ag:=J;subst this;simp only[go_sem,KJ,r0,r1,r8,BU,BX,O,R,Y,r5,dF,w1,au];exact⟨c,iI,rfl,by rw[H];exact u⟩
 have:k=I f:=J;subst this;simp only[go_sem,rf,zc,h0,Z,kB,iS,h5,dF];exact⟨_,⟨az,rfl⟩,nV u⟩
end
abbrev N5:Nat:=37
def MN(i:Nat):c_:=[.int .i64 2,.int .i64 0,.int .i64 i,.int .i64 0,.bool false,.bool false,.int .i64 0]
def yy(n:Nat):dC:=(List.range n).map MN
def arQ(n:Nat):yy (n+1)=yy n++[MN n]:=by simp[yy,j0]
def anx(n:Nat):I (yy n)=n:=by simp[yy]
section
variable {F:Nat}
def arL(L:F<=40):aC S 43 [D9 F,aq 2] (.one (bn N5 7 (yy (F+1)))):=by
 have H:(((0:Nat):Int)==0):=U;refine bG BC ?_;simp only[go_sem,Af,H];refine cD (λk A blk=>A 0=D9 F/\A 1=aq 2/\A 6=aq ((0:Nat):Int)/\A 7=aq k/\ ∃c,A 5=.one c/\aW 2752448320 N5 7 (yy k) (.one c) blk) 0 (F+1) (bC _) ?_ ?_
 .simp only[go_sem];first|exact⟨rfl,.p .nils,rfl,.inl ⟨rfl,rfl⟩⟩|exact⟨rfl,rfl,.p .nils,rfl,.inl ⟨rfl,rfl⟩⟩|exact⟨.p .nils,rfl,.inl ⟨rfl,rfl⟩⟩
 rintro k A blk B ⟨E,g,h,f,c,j,m⟩
 by_cases y:k<F+1
 .have v:((k:Int)<=(F:Int)):=J;have q:=bJ (n:=k) J;have aa:=arQ k;simp only[go_sem,RL,E,g,j,h,f,v];refine iR (q:=2752448320) (id:=2752448320) (bytes:=48) (A:=[MN k]) (rd:=[2752448256]) (m.of_eq (bo U)) (by simp[eO,bj,MN]) (.inl rfl) (by simp only[anx,dE,eR];omega) λr D x z=>?_;simp only[go_sem,E,g,h,f,q,y];refine⟨r,rfl,?_⟩;rw[aa];exact x
 have:k=F+1:=J;subst this;have u:¬(((F+1:Nat):Int)<=(F:Int)):=J;simp only[go_sem,RL,Aq,E,g,j,h,f,u];refine mu ?_;simp only[go_sem,rf,zc,E,g,j,h,f,yT];exact nV m
def aq8{k:Int}(H:(k==2)=false):aC S 43 [D9 F,aq k] (.one (bn N5 7 [])):=by have h:(((0:Nat):Int)==0):=U;refine bG BC ?_;simp only[go_sem,Af,Aq,h,H];refine mu ?_;simp only[go_sem,rf,zc,yT];rfl
end
def Lr{a:PV}{id z o l:Nat}:w5 [[.p a,.hsl id g z o l]]=none:=rfl
def afE{blk:aB}{s h T z:Nat}{x:Int}{f:b_}{D:dC}(H:blk s=(g,some (.gT u 2 [[.p (.int .i64 x),f]])))(gd:aW h T z D (.one f) blk):
  ∃fr,eO blk (.one (.hsl s g 2 0 1))=some ([[.int .i64 x,.sl D]],[s],fr)/\sD blk fr/\(fr=[]\/fr=[h]):=by
 obtain⟨r1,n,A,q⟩:=gd.Ng;refine⟨r1,?_,A,q⟩;simp only[eO,H];simp[fk,n,RG,PV.norm]
section
variable {F:Nat} {f:aI}
def VK{r to:Nat}:∀p∈kz g r to,p.1<=max g to/\p.2<=r:=by
 intro p hp;unfold kz at hp;rcases dL.1 hp with rfl|h
 .exact⟨yD _ _,cH _⟩
 obtain⟨i,H,rfl⟩:=eJ.1 h;have:=f_.1 H;exact⟨by show g+1+i<=max g to;omega,bC _⟩
def W4(g:ch F f){j:Nat}(n:j<I (aH f)):∀p∈pN F f j,p.1<=1000000/\p.2<=1000000:=by
 have ok:=g.ok;have y:=g.fing;have H:=g.len;have v:=EP ok n;have q:=EP ok (fO (j+1) (show 0<I (aH f) by omega));have r:Fl f ((aH f).getD j 0)<=I f:=by obtain⟨u,l,_,D,hl,_,m⟩:=EX ok n;rw[D,OI hl];have:=m.r1;have:=m.r0;have x:dY f l.gate.toNat<=I f:=ld _ _;omega
 intro p hp;unfold pN at hp;simp only at hp;split at hp
 .have:=VK p hp;omega
 rcases fB.1 hp with h|h<;>(have:=VK p h;omega)
def apJ(g:ch F f){w:aA}(n:∀x∈w,x<bH f):∀k,k<=I w->∀p∈(sB F f w k).places,p.1<=1000000/\p.2<=1000000:=by
 intro k
 induction k with
 |zero=>intro _ p hp;cases hp
 |succ k j=>
  intro q;obtain⟨x,H⟩:=bq (show k<I w by omega);have T:=n x (bY H);have j:=j J;rw[SH H];unfold cM.add;by_cases h:x<2*I f
  .rw[aM h];exact j
  rw[aD h];have m:(x-2*I f)/2<I (aH f):=by unfold bH at T;omega
  intro p hp;rcases fB.1 hp with h|h
  .exact j p h
  split at h
  .exact W4 g m p h
  exact W4 g m p (List.mem_reverse.1 h)
def afH(g:ch F f):∀q∈cZ F f,I q.places<=200000/\ ∀p∈q.places,p.1<=1000000/\p.2<=1000000:=by intro q m;obtain⟨w,j,rfl⟩:=eJ.1 m;obtain⟨_,n,h⟩:=yS g.ok w j;rw[<-MZ];have v:I (aH f)<=I f:=mv f (I f);have r:=(Jy g.ok h (I w) (cH _)).2.1;have H:=g.len;have x:=g.fing;refine⟨?_,apJ g h (I w) (cH _)⟩;have u:I w*(2*F+2)<=1600*82:=A_ (by unfold bH at n;omega) J;omega
end
end
end Go.Abs
