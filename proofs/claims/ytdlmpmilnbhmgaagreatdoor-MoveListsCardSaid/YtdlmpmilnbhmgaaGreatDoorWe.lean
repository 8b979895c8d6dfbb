/- A part. -/
import Derived.Test.YtdlmpmilnbhmgaaGreatDoorWd
set_option linter.all false
open List renaming length->I
set_option maxRecDepth 100000
set_option maxHeartbeats 16000000
namespace Go.Abs
variable{f j:Nat}{h:bD}{Q:fp}{x:PV}
section
variable{g:aI}{F:Nat}
structure aZ where
 l:af
 d:Bool
abbrev cO:=List aZ
def aZ.ps(p:aZ):c_:=[.int .i64 p.l.kind,.int .i64 p.l.gate,.int .i64 p.l.aK,.int .i64 p.l.id,.int .i64 p.l.sign,.bool p.l.over,.bool p.d]
abbrev bX(o:cO):dC:=o.map aZ.ps
abbrev h_:Nat:=86
def nv:af:=⟨0,0,0,0,0,false⟩
def a_(g:aI):cO:=(List.range (I g)).map λi=>⟨g.getD i nv,rB g i⟩
def bR(g:aI):I (a_ g)=I g:=by simp[a_]
def vl{i:Nat}{l:af}(h:g[i]?=some l):(a_ g)[i]?=some ⟨l,rB g i⟩:=by have:=(ct.1 h).1;simp only[a_,gZ,nH this,oG,dT,h,jV]
def gO{o:cO}{k:Nat}{p:aZ}(h:o[k]?=some p):(bX o)[k]?=some p.ps:=by simp[h]
def mB(L:aA)(D:aA)(v:Nat):aA:=D.foldl (λL d=>L.set d v) L
def nE:wi->Nat->aA->aA
 |[],_,L=>L
 |f::r,j,L=>nE r (j+1) (mB L f.aT j)
def gK(F:Nat)(g:aI):aA:=nE (cZ F g) 0 (List.replicate (2*I g) 0)
def Gr(L D:aA)(v:Nat):I (mB L D v)=I L:=by
 induction D generalizing L with
 |nil=>rfl
 |cons d D f=>show(mB (L.set d v) D v).length=_;rw[f];simp
def an3(L a b:aA)(v:Nat):mB L (a++b) v=mB (mB L a v) b v:=by simp[mB]
def LK(fs:wi):∀(j:Nat) (L:aA),I (nE fs j L)=I L:=by
 induction fs with
 |nil=>intro j L;rfl
 |cons f r g=>intro j L;show(nE r (j+1) _).length=_;rw[g,Gr]
def akh(a:wi)(f:cM):∀(j:Nat) (L:aA),nE (a++[f]) j L=mB (nE a j L) f.aT (j+I a):=by
 induction a with
 |nil=>intro j L;rfl
 |cons g r h=>intro j L;show nE (r++[f]) (j+1) _=_;rw[h];simp[nE];congr 1;omega
def al2(F:Nat)(g:aI):∀(w:aA) (f:cM),(w.foldl (cM.add F g) f).aT=f.aT++w.filter (λx=>decide (x<2*I g)):=by
 intro w
 induction w with
 |nil=>intro f;simp
 |cons x w j=>
  intro f;rw[qG,j];unfold cM.add;by_cases h:x<2*I g
  .rw[aM h,List.filter_cons_of_pos (by simpa using h)];simp
  rw[aD h,List.filter_cons_of_neg (by simpa using h)]
def yB(F:Nat)(g:aI)(w:aA):(iP F g w).aT=w.filter (λx=>decide (x<2*I g)):=by unfold iP;rw[al2];rfl
def Ue{f:cM}(h:f∈cZ F g):∀d∈f.aT,d<2*I g:=by
 obtain⟨w,_,rfl⟩:=eJ.1 h;intro d H;rw[yB]at H
 simpa using(tx.1 H).2
def DT(ok:gC F g){f:cM}(h:f∈cZ F g):I f.aT<=bH g:=by obtain⟨w,H,rfl⟩:=eJ.1 h;rw[yB];exact jO (Ge _ _) (yS ok w H).2.1
def Kc(F:Nat)(g:aI):I (cZ F g)=sJ g:=by simp[cZ,sJ]
def BP{o:wi}{k:Nat}{p:cM}(h:o[k]?=some p):(g_ o)[k]?=some p.ps:=by simp[h]
abbrev df(F:Nat)(ls:aI):PV:=.box [.int .i64 F,.sl (bX (a_ ls)),.sl (g_ (cZ F ls)),.sl (aS (gK F ls)),.int .i64 (aF af.aN ls:Nat),.int .i64 ((aF af.aJ ls/2:Nat):Int),.sl (aS (eF ls F))]
abbrev FL(F:Nat)(ls:aI)(pc cf:b_):dk:=[.p (.int .i64 F),pc,cf,.hsl 1152256448 1 1 0 (2*I ls),.p (.int .i64 (aF af.aN ls:Nat)),.p (.int .i64 ((aF af.aJ ls/2:Nat):Int)),.hsl 1152256960 1 1 0 (F+1)]
def aiA{F:Nat}{g:aI}(ad:ch F g){pc m:b_}{blk:aB}(h4:h 4=.one m)(h6:h 6=.one (.bg 1152257088 1 0))
  (bB:blk 1152257088=(1,some (.var (FL F g pc m)))) (B:blk 1152256448=(1,some (.arr 3 1 (aS (List.replicate (2*I g) 0))))) (y:blk 1152256960=(1,some (.arr 3 1 (aS (eF g F))))) (gp:aW 1152896448 h_ 7 (bX (a_ g)) (.one pc) blk) (gf:aW 1152064064 qY 5 (g_ (cZ F g)) (.one m) blk)
  (hq:∀u A,u 6=h 6->A 1152257088=(1,some (.var (FL F g pc m)))->A 1152256448=(1,some (.arr 3 1 (aS (gK F g))))->A 1152256960=(1,some (.arr 3 1 (aS (eF g F))))->aW 1152896448 h_ 7 (bX (a_ g)) (.one pc) A->aW 1152064064 qY 5 (g_ (cZ F g)) (.one m) A->W S .all Mu Q u A):
  W S .all IK Q h blk:=by
 have ok:=ad.ok;have hl:=ok.hl;have ab:=ad.len;have fQ:I (aH g)<=I g:=mv g (I g);have fD:bH g<=4000000:=by unfold bH;omega
 have jI:I (cZ F g)<=bH g:=by rw[cZ,cT];exact Dr (bZ g) (bH g) _
 obtain⟨g0,SK⟩:∃q,m=.hsl 1152064064 q 5 0 (I (cZ F g)):=by
  rcases gf with⟨e,_⟩|⟨_,q,e,hb⟩
  .have h1:I (cZ F g)=0:=by simpa using congrArg List.length e
   rw[Kc,ad.nw]at h1;omega
  cases e;exact⟨q,by rw[cT]⟩
 have tW:=h4;rw[SK]at tW;simp only[go_sem,IK,tW];refine cD (λk u A=>u 6=h 6/\u 78=.one m/\u 79=aq (I (cZ F g))/\u 80=aq k/\A 1152257088=(1,some (.var (FL F g pc m)))/\A 1152256448=(1,some (.arr 3 1 (aS (nE ((cZ F g).take k) 0 (List.replicate (2*I g) 0)))))/\A 1152256960=(1,some (.arr 3 1 (aS (eF g F))))/\
   aW 1152896448 h_ 7 (bX (a_ g)) (.one pc) A/\aW 1152064064 qY 5 (g_ (cZ F g)) (.one m) A) 0 (I (cZ F g)) (bC _) ?_ ?_
 .simp only[go_sem,bB,B,y,nE,SK];exact⟨rfl,gp,by first|exact gf|(rw[<-SK];exact gf)⟩
 rintro k u A hk ⟨R,T,v,H,bB,B,y,gp,gf⟩
 rw[h6]at R;by_cases au:k<I (cZ F g)
 .have aL:((k:Int)<(I (cZ F g):Int)):=J;obtain⟨f,hf⟩:=bq au;have ud:=BP hf;have ya:=bY hf;have og:=DT ok ya;have Z:=Ue ya;have w1:=bJ (n:=k) J;have eK:nE ((cZ F g).take (k+1)) 0 (List.replicate (2*I g) 0)=mB (nE ((cZ F g).take k) 0 (List.replicate (2*I g) 0)) f.aT k:=by
   rw[jN,hf];show nE (_++[f]) 0 _=_;rw[akh,iU,y_ J,ka]
  have N:I (nE ((cZ F g).take k) 0 (List.replicate (2*I g) 0))=2*I g:=by rw[LK,GB]
  generalize nE ((cZ F g).take k) 0 (List.replicate (2*I g) 0)=L at B eK N;obtain⟨q,sW,bf⟩:∃q,m=.hsl 1152064064 q 5 0 (I (g_ (cZ F g)))/\A 1152064064=(q,some (.arr qY 5 (g_ (cZ F g)))):=by
   rcases gf with⟨e,_⟩|⟨_,q,e,hb⟩
   .have:I (cZ F g)=0:=by simpa using congrArg List.length e
    omega
   cases e;exact⟨q,rfl,hb⟩
  rw[cT]at sW;have SB:=T;rw[sW]at SB;simp only[go_sem,J7,R,SB,v,H,bB,B,y,bf,ud,cM.ps,au,aL];refine cD (λj r x=>r 6=.one (.bg 1152257088 1 0)/\r 11=aq k/\r 78=.one m/\r 79=aq (I (cZ F g))/\r 80=aq k/\r 86=.one (.p (.sl (aS f.aT)))/\r 87=aq (I f.aT)/\r 88=aq j/\
   x 1152257088=(1,some (.var (FL F g pc m)))/\x 1152256448=(1,some (.arr 3 1 (aS (mB L (f.aT.take j) k))))/\x 1152256960=(1,some (.arr 3 1 (aS (eF g F))))/\aW 1152896448 h_ 7 (bX (a_ g)) (.one pc) x/\aW 1152064064 qY 5 (g_ (cZ F g)) (.one m) x) 0 (I f.aT) (bC _) ?_ ?_
  .simp only[go_sem,R,sW,SB,v,H,bB,B,y,mB,Hu];refine⟨rfl,gp.of_eq (bo U),?_⟩;first|exact gf.of_eq (bo U)|(rw[<-sW];exact gf.of_eq (bo U))
  rintro j r x hj ⟨p6,JD,z,E,Y,O,D,X,cB,mL,cC,cp,dY⟩
  by_cases nQ:j<I f.aT
  .have CW:((j:Int)<(I f.aT:Int)):=J;obtain⟨d,hd⟩:=bq nQ;have rX:=fC hd;have M:=Z d (bY hd);have w2:=bJ (n:=j) J;have jK:(mB L (f.aT.take j) k).set d k=mB L (f.aT.take (j+1)) k:=by rw[jN,hd,an3];rfl
   have gy:=C6 (mB L (f.aT.take j) k) d k;rw[jK]at gy;obtain⟨v0,wD⟩:=bq (h:=mB L (f.aT.take j) k) (k:=d) (by rw[Gr,N];exact M);have hv:=fC wD;simp only[go_sem,Rb,p6,JD,z,E,Y,O,D,X,cB,mL,cC,nQ,CW,rX,M,hv,gy,w2];exact⟨cp.of_eq (bo U),dY.of_eq (bo U)⟩
  have:j=I f.aT:=J;subst this;rw[iV,<-eK]at mL;simp only[go_sem,Rb,Z3,p6,JD,z,E,Y,O,D,X,cB,mL,cC,dF,w1,au,h6];exact⟨cp,dY⟩
 have:k=I (cZ F g):=J;subst this;rw[iV]at B;simp only[go_sem,J7,R,T,v,H,dF];exact hq _ _ (by simp only[go_sem,R,h6]) bB B y gp gf
def anV(an:ch F g):aC S 18 [dQ F g] (uR (df F g) (.int .i64 0)):=by
 have ok:=an.ok;have hl:=ok.hl;have am:=an.len;have qR:=an.fing;have pf:=akc an;have ag:=N8 F g hl;have R:=ab0 F g hl;have lo:S.lone 1152064064=false:=ah;have m2:=lR (a:=I g) J;have wF:=bJ (n:=F) J;have r1:2*I g*8<=140737488355328:=J;have r2:(F+1)*8<=140737488355328:=J;have e1:List.replicate (2*I g) [PV.int .i64 0]=aS (List.replicate (2*I g) 0):=aG;have e2:List.replicate (F+1) [PV.int .i64 0]=aS (oD g F 0):=by rw[UU];simp
 refine bG aci ?_;simp only[go_sem,Uz,ZS];refine Zd pf lo λM ky sW fR=>?_;have Hi:=fR 1152000000 U;simp only[go_sem]at Hi;simp only[go_sem,Hi,m2,wF,r1,r2,RU,acw,c4 ag,c4 R,e1,e2];refine⟨aw,?_⟩;have Y:∀j,j≠1152064064->j≠1152000000->ky j=(0,none):=λj a b=>(fR j a).trans (bo b);have z1:=Y 1152256448 U U;have z2:=Y 1152256960 U U;have z3:=Y 1152257088 U U;refine cD (λk h blk=>h 4=.one M/\h 6=.one (.bg 1152257088 1 0)/\h 7=kN (dP g k)/\h 42=.one (.p (jF g))/\h 43=aq (I g)/\h 44=aq k/\
   blk 1152256448=(1,some (.arr 3 1 (aS (List.replicate (2*I g) 0))))/\blk 1152256960=(1,some (.arr 3 1 (aS (oD g F k))))/\
   ∃pc,blk 1152257088=(1,some (.var (FL F g pc M)))/\aW 1152896448 h_ 7 (bX ((a_ g).take k)) (.one pc) blk/\aW 1152064064 qY 5 (g_ (cZ F g)) (.one M) blk) 0 (I g) (bC _) ?_ ?_
 .simp only[go_sem,z1,z2,z3];refine⟨rfl,rfl,.p .nils,rfl,.inl ⟨rfl,rfl⟩,sW.of_eq ?_⟩;simp only[go_sem]
 rintro k h blk hk ⟨v,H,D,N,z,E,x,q,pc,bB,gp,gf⟩
 by_cases A:k<I g
 .obtain⟨l,f⟩:=bq A;have hi:=iF f;have aL:((k:Int)<(I g:Int)):=J;have w1:=bJ (n:=k) J;have Q:=vl f;cases hp:(l.kind==1)with
  |false=>
   have m:l.aN=false:=hp;have X:rB g k=false:=by simp[rB,f,m]
   rw[X]at Q;have hd:=Up f m;have u6:=ad0 (F:=F) f m;have eK:bX ((a_ g).take (k+1))=bX ((a_ g).take k)++[(aZ.mk l false).ps]:=by rw[jN,Q];simp
   simp only[go_sem,F6,v,H,D,N,z,E,hi,cW,af.ps,aL,A,hp,bB,x,q];refine tB (q:=1152896448) (id:=1152896448) (bytes:=56) (A:=[(aZ.mk l false).ps]) (rd:=[1152896384]) (gp.of_eq (by simp only[bo,bj,Nat.reduceEqDiff,if_false])) (by simp[eO,bj,aZ.ps]) (.inl rfl) (by simp only[cT,dE,eR,iU,bR];omega) λc T r u hc y hr=>?_;have O:∀i,i≠1152896448->i≠1152896384->i≠1152576128->i≠1152512128->i≠1152256960->T i=blk i:=λi a b c d e=>(y i a a).trans (by simp only[bj,aD b,aD c,aD d,aD e])
   have L:=(y 1152256960 U U);simp only[bj,Nat.reduceEqDiff,if_false,if_true,q]at L;have Hm:=(O 1152257088 U U U U U).trans bB;have B:=(O 1152256448 U U U U U).trans x;simp only[go_sem,v,H,D,N,z,E,Hm,B,L,w1,hd,u6,A];refine⟨?_,?_⟩
   .rcases hr with⟨rfl,rfl⟩|⟨rfl,rfl⟩|⟨rfl,rfl⟩<;>kernel_rfl
   refine⟨c,rfl,?_,?_⟩
   .rw[eK];exact hc.of_eq (bo U)
   exact gf.of_eq ((bo U).trans (O _ U U U U U))
  |true=>
   have m:l.aN:=hp;have X:rB g k=dP g k:=by simp[rB,f,m]
   rw[X]at Q;have hd:=UG f m;have eK:bX ((a_ g).take (k+1))=bX ((a_ g).take k)++[(aZ.mk l (dP g k)).ps]:=by rw[jN,Q];simp
   have vZ:=ok.ax.good l (bY f) m;obtain⟨G,Z⟩:=lM vZ.g0;have zk:G<=F:=by have:=vZ.g1;omega
   have u4:G<F+1:=J;have kC:=fC (Vu (h:=g) (k:=k) zk);have dt:dY (g.take k) G<=k:=uv _ _ _;have w2:=bJ (n:=dY (g.take k) G) J;have s1:=C6 (oD g F k) G (dY (g.take k) G+1);rw[<-Ww f m Z]at s1;simp only[go_sem,F6,v,H,D,N,z,E,hi,cW,af.ps,aL,A,hp,Z,bB,x,q,kC,u4,w2,s1];refine⟨aw,?_⟩;refine tB (q:=1152896448) (id:=1152896448) (bytes:=56) (A:=[(aZ.mk l (dP g k)).ps]) (rd:=[1152896384]) (gp.of_eq (by simp only[bo,bj,Nat.reduceEqDiff,if_false])) (by simp[eO,bj,aZ.ps,Z]) (.inl rfl) (by simp only[cT,dE,eR,iU,bR];omega) λc T r u hc y hr=>?_
   have O:∀i,i≠1152896448->i≠1152896384->i≠1152576128->i≠1152512128->i≠1152256960->T i=blk i:=λi a b c d e=>(y i a a).trans (by simp only[bj,aD b,aD c,aD d,aD e]);have L:=(y 1152256960 U U);simp only[bj,Nat.reduceEqDiff,if_false,if_true,q]at L;have Hm:=(O 1152257088 U U U U U).trans bB;have B:=(O 1152256448 U U U U U).trans x;simp only[go_sem,v,H,D,N,z,E,Hm,B,L,w1,hd,A];refine⟨?_,?_⟩
   .rcases hr with⟨rfl,rfl⟩|⟨rfl,rfl⟩|⟨rfl,rfl⟩<;>kernel_rfl
   refine⟨c,rfl,?_,?_⟩
   .rw[eK];exact hc.of_eq (bo U)
   exact gf.of_eq ((bo U).trans (O _ U U U U U))
 have:k=I g:=J;subst this;rw[eW (by rw[bR];exact cH _)]at gp;rw[TD]at q;simp only[go_sem,F6,v,H,D,N,z,E,dF];refine aiA an (pc:=pc) (m:=M) ?_ ?_ bB x q gp gf ?_
 .simp only[go_sem,v]
 .simp only[go_sem,H]
 intro aE ak q6 cB mL cC ad ab;simp only[go_sem,H]at q6;obtain⟨rp,np,_⟩:=ad.Uo (n:=4);obtain⟨xm,nf,_⟩:=ab.Uo (n:=4);have t1:List.take (2*I g) (aS (gK F g))=aS (gK F g):=eW (by simp[gK,LK]);have t2:List.take (F+1) (aS (eF g F))=aS (eF g F):=eW (by simp[eF]);have n1:2*I g<=I (gK F g):=by simp[gK,LK]
 have n2:F+1<=I (eF g F):=by simp[eF]
 simp only[go_sem,Mu,q6];simp only[go_sem,hJ,pn,rl,lJ,kQ,iZ,cB,mL,cC,np,nf,t1,t2,n1,n2];rfl
def j_{x:Int}(m: -9223372036854775808<=x)(j:x<=9223372036854775807):IntKind.i64.wrap x=x:=by
 have e:(2 ^ IntKind.i64.bits:Int)=18446744073709551616:=U;have E:(2 ^ (IntKind.i64.bits-1):Int)=9223372036854775808:=U;unfold IntKind.wrap;simp only[e,E];by_cases h:0<=x
 .have f:x%18446744073709551616=x:=J;rw[f];have H:¬x≥9223372036854775808:=J;simp[H]
 have f:x%18446744073709551616=x+18446744073709551616:=J;rw[f];have H:x+18446744073709551616≥9223372036854775808:=J;have g:IntKind.i64.signed:=rfl;simp[H,g]
def Gz(l:cO):ao 7 (bX l):=by simp[ao,aZ.ps]
def gb(l:cO):((bX l).all λe=>e.all PV.scalar):=by simp[aZ.ps,PV.scalar]
def yN(l:cO):∀e∈bX l,I e=7/\ ∀v∈e,v.norm=v:=λe H=>by obtain⟨a,_,rfl⟩:=eJ.1 H;exact⟨rfl,λv h=>by simp[aZ.ps]at h;rcases h with rfl|rfl|rfl|rfl|rfl|rfl|rfl<;>rfl⟩
abbrev ey(l x:cO)(k:Nat):cO:=l.take (k+1)++x++l.drop (k+1)
def Nk(a b:cO):bX (a++b)=bX a++bX b:=aG
def iv(l x:cO)(k:Nat)(u:k<I l)(hl:I l<=1000000)(r:I x<=1000000):
  aC S 111 [.one (.p (.sl (bX l))),aq k,.one (.p (.sl (bX x)))] (.one (bn h_ 7 (bX (ey l x k)))):=by
 have f:=bJ (n:=k) J;have g:k+1<=I l:=J;have aa:=Gz l;have j:List.take (k+1) (bX l)=bX (l.take (k+1)):=by simp[GN]
 have H:List.take (I l-(k+1)) (List.drop (k+1) (bX l))=bX (l.drop (k+1)):=by rw[eW aG];simp[Lq]
 refine bG af8 ?_;simp only[go_sem,ZL,f,g,aa,j];refine iR (id:=7104064256) (q:=7104064256) (bytes:=56) aW.nil (A:=bX (l.take (k+1))) (rd:=[]) rfl (.inr (Gz _)) (by simp;omega) λz B g1 v=>?_;simp only[go_sem,f,g,aa];refine iR (id:=7104064256) (q:=7104128128) (bytes:=56) g1 (A:=bX x) (rd:=[]) rfl (.inr (Gz _)) (by simp;omega) λq A m y=>?_;simp only[go_sem,f,g,aa,H];refine iR (id:=7104128128) (q:=7104192320) (bytes:=56) m (A:=bX (l.drop (k+1))) (rd:=[]) rfl (.inr (Gz _)) (by simp;omega) λcP D h F=>?_;simp only[go_sem];rw[tz,<-Nk,<-Nk]at h;exact nV h
def apX(p:aZ)(t:cO)(hl:I (p::t)<=1000000):aC S 110 [.one (.p (.sl (bX (p::t))))] (.one (bn h_ 7 (bX (p::t)))):=by
 have aa:=Gz (p::t);have h:(0+I (bX (p::t)))*56<=kK:=by unfold kK;rw[cT];omega
 refine bG akJ ?_;obtain⟨E,f,hq⟩:∃E f,bX (p::t)=E::f:=⟨_,_,rfl⟩;rw[hq]at aa h |-;have A:E::f≠[]:=aG;have g:bn h_ 7 (E::f)=.own h_ 7 (E::f):=aD A;rw[g];unfold kK at h;simp only[ka,dE]at h;simp only[ao,oQ]at aa;simp only[go_sem,XL,ae,ao];simp only[aa,h,not_true_eq_false,if_true,if_false];simp only[go_sem,ae,ao];exact DN oJ rfl
def lk(g A b:Int)(p:aZ):aZ:=if(p.l.kind==1)&&((p.l.gate==g)&&decide (A<p.l.aK))then{p with l:={p.l with aK:=p.l.aK+b}}else p
abbrev eu(l:cO)(g ab b:Int):cO:=l.map (lk g ab b)
def acx(id:Nat)(E:dC)(c:b_)(blk:aB)(v:V)(A:aB):Prop:=v=.tup []/\aW id h_ 7 E (.one c) A/\c8 (· =id) blk A
def ast{al:bP}{blk:aB}{id:Nat}{l:cO}{c:b_}{g A b:Int}(o:l=[]\/al.ok id)(hl:I l<=1000000)(hb: -100<=b/\b<=100)(hr:∀p∈l,-1000000<=p.l.aK/\p.l.aK<=1000000)(ad:aW id h_ 7 (bX l) (.one c) blk):
  ∃v f,ia S 108 [.one c,aq g,aq A,aq b] al blk v f/\acx id (bX (eu l g A b)) c blk v f:=by
 refine mU aie (gU rfl) ?_;rcases ad with⟨q,H⟩|⟨aY,X,H,hC⟩
 .cases H;have kD:l=[]:=by simpa using q
  subst kD;have hz:¬(((0:Nat):Int)<((0:Nat):Int)):=J;simp only[go_sem,N4,ae,ao];refine cD (λk h f=>k=0/\h 10=aq ((0:Nat):Int)/\h 11=aq ((0:Nat):Int)/\f=blk) 0 0 (cH _) ?_ ?_
  .simp only[go_sem];exact rfl
  rintro k h f _ ⟨rfl,u,F,rfl⟩
  simp only[go_sem,BQ,u,F,hz,ae,ao];exact⟨rfl,.inl ⟨rfl,rfl⟩,λ_ _=>rfl⟩
 cases H;have o:=o.resolve_left (by simpa using aY);simp only[go_sem,N4,ae,ao];refine cD (λk h f=>h 0=.one (.hsl id X 7 0 (I l))/\h 1=aq g/\h 2=aq A/\h 3=aq b/\h 10=aq (I l)/\h 11=aq k/\f id=(X,some (.arr h_ 7 (bX ((eu (l.take k) g A b)++l.drop k))))/\c8 (· =id) blk f) 0 (I l) (bC _) ?_ ?_
 .simp only[go_sem,hC];refine⟨?_,?_⟩
  .simp[eu]
  exact c8.refl _ _
 rintro k h f hk ⟨z,q,H,M,u,F,r,L⟩
 by_cases O:k<I l
 .have R:((k:Int)<(I l:Int)):=J;obtain⟨p,hp⟩:=bq O;have Q:=bJ (n:=k) J;obtain⟨r1,r2⟩:=hr p (bY hp);have wr:=j_ (x:=p.l.aK+b) J J;have N:l.drop k=p::l.drop (k+1):=by
   obtain⟨Z,rfl⟩:=ct.1 hp;exact Ly Z
  have E:I ((eu (l.take k) g A b)++l.drop k)=I l:=by simp[eu];omega
  have Y:((eu (l.take k) g A b)++l.drop k)[k]?=some p:=by
   rw[wM (by simp[eu];omega)];have:k-I (eu (l.take k) g A b)=0:=by simp[eu];omega
   rw[this,N];rfl
  have jK:((eu (l.take k) g A b)++l.drop k).set k (lk g A b p)=(eu (l.take (k+1)) g A b)++l.drop (k+1):=by
   have e1:I (eu (l.take k) g A b)=k:=by simp[eu];omega
   rw[List.set_append_right _ _ J,e1,M1,N,Tr,jN,hp];simp[eu]
  have D:=gO Y;have B:bX (((eu (l.take k) g A b)++l.drop k).set k (lk g A b p))=(bX ((eu (l.take k) g A b)++l.drop k)).set k (lk g A b p).ps:=by simp[bX,tK]
  rw[jK]at B;have T:lk g A b p=p->bX ((eu (l.take k) g A b)++l.drop k)=bX ((eu (l.take (k+1)) g A b)++l.drop (k+1)):=λe=>by rw[B,e];obtain⟨Z,he⟩:=ct.1 D;rw[<-he,TX]
  generalize(eu (l.take k) g A b)++l.drop k=m at r Y D B T E;have kE:k<I (bX m):=by rw[cT];omega
  cases j:(p.l.kind==1)with
  |false=>have e:=T (by unfold lk;rw[j];rfl);simp only[go_sem,BQ,z,q,H,M,u,F,r,D,aZ.ps,O,R,j,Q,o,ae,ao];exact⟨by rw[e],L⟩
  |true=>
   cases y:(p.l.gate==g)with
   |false=>have e:=T (by unfold lk;rw[j,y];rfl);simp only[go_sem,BQ,z,q,H,M,u,F,r,D,aZ.ps,O,R,j,y,Q,o,ae,ao];exact⟨by rw[e],L⟩
   |true=>
    by_cases cP:A<p.l.aK
    .have e:(lk g A b p).ps=[.int .i64 p.l.kind,.int .i64 p.l.gate,.int .i64 (p.l.aK+b),.int .i64 p.l.id,.int .i64 p.l.sign,.bool p.l.over,.bool p.d]:=by unfold lk;rw[j,y,sN cP];rfl
     rw[e]at B;simp only[go_sem,BQ,z,q,H,M,u,F,r,D,aZ.ps,O,R,j,y,cP,Q,wr,o,kE,ae,ao];refine⟨?_,?_⟩
     .first|rw[B]|(rw[B];rfl)
     exact L.cQ rfl _
    have e:=T (by unfold lk;rw[j,y,r3 cP];rfl);simp only[go_sem,BQ,z,q,H,M,u,F,r,D,aZ.ps,O,R,j,y,cP,Q,o,ae,ao];exact⟨by rw[e],L⟩
 have:k=I l:=J;subst this;simp only[go_sem,BQ,z,q,H,M,u,F,dF,ae,ao];refine⟨rfl,?_,L⟩;rw[iV,List.drop_length,jE]at r;exact .inr ⟨by simpa using aY,X,by simp[eu],r⟩
def Dv(p:aZ):Bool:=(p.l.kind==1)&&p.d
def Hw(l:cO)(i:Nat):Bool:=match l[i]? with|some p=>Dv p|none=>false
def anW{l:cO}{i:Nat}{p:aZ}(h:l[i]?=some p):Hw l i=Dv p:=by simp[Hw,h]
def sh(l:cO):my:=(List.range (I l)).find? (Hw l)
def aqD(p:aZ):aC S 84 [.agg (p.ps.map .p)] (bK (Dv p)):=by
 refine bG anm ?_;unfold Dv;cases h:(p.l.kind==1)with
 |true=>simp only[go_sem,Ve,aZ.ps,h,ae,ao]
 |false=>simp only[go_sem,Ve,aZ.ps,h,ae,ao]
def afz(l:cO)(hl:I l<=1000000):aC S 83 [.one (.p (.sl (bX l))),.one (.p (.fn 84 [] []))] (fy (match sh l with|some k=>(k:Int)|none=> -1)):=by
 refine bG ai0 ?_;simp only[go_sem,Zm,ae,ao];refine cD (λk h blk=>h 0=.one (.p (.sl (bX l)))/\h 1=.one (.p (.fn 84 [] []))/\h 7=aq (I l)/\h 8=aq k/\ ∀j,j<k->Hw l j=false) 0 (I l) (bC _) ?_ ?_
 .simp only[go_sem];exact⟨rfl,λj u=>absurd u (l_ j)⟩
 rintro k h blk E ⟨q,v,x,g,r⟩
 by_cases A:k<I l
 .have z:((k:Int)<(I l:Int)):=J;obtain⟨p,hp⟩:=bq A;have D:=gO hp;have B:=bJ (n:=k) J;have f:=aqD p;have m:=anW hp;cases y:Dv p with
  |true=>rw[y]at f m;have H:sh l=some k:=wR A r m;simp only[aZ.ps,ew,jn]at f;simp only[go_sem,M5,q,v,x,g,A,z,D,aZ.ps,Xq,ai f,H,ae,ao]
  |false=>
   rw[y]at f m;simp only[aZ.ps,ew,jn]at f;simp only[go_sem,M5,q,v,x,g,A,z,D,aZ.ps,Xq,ai f,B,ae,ao];intro j u;rcases jG.1 u with F|rfl
   .exact r j F
   exact m
 have:k=I l:=J;subst this;have H:sh l=none:=Ek r;simp only[go_sem,M5,Y1,q,v,x,g,dF,H,ae,ao]
abbrev ze:Nat:=59
def sg(l:cO)(A k:Nat):aI:=(List.range k).map λi=>(l.getD ((A+i)%I l) ⟨nv,false⟩).l
def al0{l:cO}{k:Nat}{p:aZ}(h:l[(f+k)%I l]?=some p):sg l f (k+1)=sg l f k++[p.l]:=by simp[sg,j0,dT,h]
def tP(l:cO):aI:=sg l ((sh l).getD 0) (I l)
abbrev ur(o:aI):dC:=o.map af.ps
def akk{f T z:Nat}{E:dC}{c:b_}{blk:aB}(h:aW f T z E (.one c) blk):hJ blk (.agg [.p x,c])=some (.agg [.p x,bn T z E]):=by obtain⟨m,o,j,H,g⟩:=h.iZ;cases j;rcases g with rfl|rfl<;>simp[hJ,pn,lJ,kQ,H,(show Go.Abs.iZ blk (.p x)=some (.p x,[],[])from rfl),pE,sr,qf]
def aaP(F:Nat)(l:cO)(hl:I l<=1000000)(x1 x2 x3 x4 x5 x6:PV):aC S 51 [.one (.p (.box [.int .i64 F,x1,x2,x3,x4,x5,x6])),.one (.p (.sl (bX l)))] (.agg [.p (.int .i64 F),bn ze 6 (ur (tP l))]):=by
 have g:=afz l hl;have A:∃f,(sh l).getD 0=f/\(l≠[]->f<I l):=by
  refine⟨_,rfl,λL=>?_⟩;cases ab:sh l with
  |none=>exact nA.2 L
  |some k=>exact f_.1 (Er ab)
 obtain⟨f,H,T⟩:=A;have r7:((sh l=none/\f=0)\/sh l=some f):=by
  cases ab:sh l with
  |none=>rw[ab]at H;exact .inl ⟨rfl,H.symm⟩
  |some k=>rw[ab]at H;exact .inr (congrArg some H)
 unfold tP;rw[H];have m:∀(h:bD) (blk:aB),h 1=.one (.p (.sl (bX l)))->h 4=.one (.bg 3264000000 1 0)->h 5=.one (.bg 3264064320 1 0)->h 6=aq f->h 17=aq (I l)->h 18=aq ((0:Nat):Int)->blk 3264000000=(1,some (.var [.p (.int .i64 0),.p .nils]))->blk 3264064320=(1,some (.var [.p (.int .i64 F),.p .nils]))->
   W S .all (.loop Jm) (kZ 0 (qm S .all Tm (nk .all [(4,some (some 2))] λv blk=>hJ blk v=some (.agg [.p (.int .i64 F),bn ze 6 (ur (sg l f (I l)))])))) h blk:=by
  intro h blk e1 e4 e5 e6 Q E b0 B;refine cD (λk h blk=>h 1=.one (.p (.sl (bX l)))/\h 4=.one (.bg 3264000000 1 0)/\h 5=.one (.bg 3264064320 1 0)/\h 6=aq f/\h 17=aq (I l)/\h 18=aq k/\blk 3264000000=(1,some (.var [.p (.int .i64 0),.p .nils]))/\ ∃c,blk 3264064320=(1,some (.var [.p (.int .i64 F),c]))/\aW 3264384832 ze 6 (ur (sg l f k)) (.one c) blk) 0 (I l) (bC _) ⟨e1,e4,e5,e6,Q,E,b0,.p .nils,B,.inl ⟨rfl,rfl⟩⟩ ?_;rintro k h blk hk ⟨x,q,y,M,z,X,b0,c,B,Y⟩
  by_cases au:k<I l
  .have aL:((k:Int)<(I l:Int)):=J;have L:l≠[]:=nA.1 J;have T:=T L;have w1:=bJ (n:=k) J;have w2:=oo (a:=f) (b:=k) J;have e2:=n_ (f+k) (I l);have Z:=fO (f+k) (show 0<I l by omega);obtain⟨p,hp⟩:=bq Z;have dy:=gO hp;have hz:¬((I l:Int)=0):=J;have hr:=al0 hp;have O:I (sg l f k)=k:=by simp[sg]
   simp only[go_sem,Jm,x,q,y,M,z,X,B,b0,au,aL,w2,e2,Z,hz,dy,aZ.ps];refine tB (q:=3264384832) (id:=3264384832) (bytes:=48) (A:=[p.l.ps]) (rd:=[3264384768]) (Y.of_eq (bo U)) (by simp[eO,bj,af.ps]) (.inl rfl) (by simp only[cT,O,dE,eR];omega) λc' bp r u hc R N=>?_;have D:=(R 3264064320 U U).trans ((bo U).trans B);have j:=(R 3264000000 U U).trans ((bo U).trans b0);simp only[go_sem,x,q,y,M,z,X,D,j,au,w1];refine⟨?_,c',rfl,?_⟩
   .rcases N with⟨rfl,rfl⟩|⟨rfl,rfl⟩|⟨rfl,rfl⟩<;>kernel_rfl
   rw[hr,ur,q_];exact hc.of_eq (bo U)
  have:k=I l:=J;subst this;simp only[go_sem,Jm,Tm,x,q,y,M,z,X,B,b0,dF];exact akk (Y.of_eq (bo U))
 refine bG ao2 ?_;rcases r7 with⟨hn,rfl⟩|aa
 .rw[hn]at g;have IL:¬((0:Int)< -1):=U;simp only[go_sem,i51,ab2,dj g];exact m _ _ (by simp only[go_sem]) (by simp only[go_sem]) (by simp only[go_sem]) (by simp only[go_sem];rfl) (by simp only[go_sem]) (by simp only[go_sem];rfl) (by simp only[go_sem]) (by simp only[go_sem])
 rw[aa]at g;simp only[go_sem,i51,ab2,dj g];exact m _ _ (by simp only[go_sem]) (by simp only[go_sem]) (by simp only[go_sem]) (by simp only[go_sem];split<;>(first|rfl|(congr 1;simp;omega))) (by simp only[go_sem]) (by simp only[go_sem];rfl) (by simp only[go_sem]) (by simp only[go_sem])
def adP:aC S 49 [] (.agg [.p .tj,.p (.fn 74 [] []),.p (.fn 75 [] []),.p (.fn 76 [] []),.p (.fn 77 [] []),.p (.fn 78 [] []),.p (.fn 79 [] []),.p (.fn 80 [] []),.p (.fn 81 [] []),.p (.fn 82 [] []),.p (.fn 82 [] [])]):=by refine bG apk ?_;simp only[go_sem,V5,ae,ao];rfl
def iG(k:Int):Int×Int:=if k=2 then(2,0)else if k=5 then(2,1)else if k=7 then(4,2)else(0,0)
def acJ(k:Int):aC S 50 [aq k] (.tup [.one (.p (.int .i64 (iG k).1)),.one (.p (.int .i64 (iG k).2))]):=by
 refine bG ahr ?_;unfold iG;by_cases f:k=2
 .subst f;simp only[go_sem,GP,ae,ao];rfl
 by_cases H:k=5
 .subst H;simp only[go_sem,GP,ae,ao];rfl
 by_cases h:k=7
 .subst h;simp only[go_sem,GP,ae,ao];rfl
 rw[aD f,aD H,aD h];have E:(k==2)=false:=by simpa using f
 have j:(k==5)=false:=by simpa using H
 have g:(k==7)=false:=by simpa using h
 simp only[go_sem,GP,E,j,g,ae,ao];rfl
def DS(F:Nat)(x:Nat)(aP:Int)(O:Bool)(h X j f g:PV)(k:Nat)(m:x<=1000000)(H:k<=10):aC S 115 [.one (.p (.box [.int .i64 F,h,X,j,f,.int .i64 x,g])),aq k,aq aP,kN O] (.agg [.p (.int .i64 2),.p (.int .i64 0),.p (.int .i64 0),.p (.int .i64 ((x+k:Nat):Int)),.p (.int .i64 aP),.p (.bool O),.p (.bool false)]):=by have w:=oo (a:=x) (b:=k) J;refine bG ang ?_;simp only[go_sem,acs,w,ae,ao];rfl
def s7(o:gN)(p:Nat×Nat)(i:Nat):Bool:=o[i]?==some p
def aj3(o:gN)(p:Nat×Nat)(hl:I o<=1000000):aC S 159 [.one (.p (.sl (dc o))),.agg [.p (.int .i64 p.1),.p (.int .i64 p.2)]] (fy (match (List.range (I o)).find? (s7 o p)with|some k=>(k:Int)|none=> -1)):=by
 refine bG aps ?_;simp only[go_sem,Vo,ae,ao];refine cD (λk h blk=>h 0=.one (.p (.sl (dc o)))/\h 3=.one (.bg 10176000000 1 0)/\blk 10176000000=(1,some (.var [.p (.int .i64 p.1),.p (.int .i64 p.2)]))/\h 7=aq (I o)/\h 8=aq k/\ ∀j,j<k->s7 o p j=false) 0 (I o) (bC _) ?_ ?_
 .simp only[go_sem];exact⟨rfl,λj z=>absurd z (l_ j)⟩
 rintro k h blk T ⟨H,x,b0,f,g,y⟩
 by_cases A:k<I o
 .have u:((k:Int)<(I o:Int)):=J;obtain⟨q,hp⟩:=bq A;have D:=RK hp;have B:=bJ (n:=k) J;have M:s7 o p k=decide (q=p):=by
   simp only[s7,hp];by_cases R:q=p<;>simp[R]
  by_cases r:q=p
  .subst r;have v:=wR (p:=s7 o q) A y (by rw[M];simp);simp only[go_sem,GH,H,x,b0,f,g,A,u,D,v,kV,k_,ae,ao];exact aw
  have m:s7 o p k=false:=by rw[M];exact r3 r
  have Q:((p.1:Int)==(q.1:Int))=false\/(((p.1:Int)==(q.1:Int))/\((p.2:Int)==(q.2:Int))=false):=by
   by_cases F:q.1=p.1
   .refine .inr ⟨by simp[F],?_⟩;have:q.2≠p.2:=λN=>r (zw F N);simp;omega
   left;simp;omega
  have L:∀j,j<k+1->s7 o p j=false:=λj z=>by
   rcases jG.1 z with R|rfl
   .exact y j R
   exact m
  rcases Q with E|⟨E,O⟩
  .simp only[go_sem,GH,H,x,b0,f,g,A,u,D,B,kV,k_,E,ae,ao];exact⟨aw,L⟩
  simp only[go_sem,GH,H,x,b0,f,g,A,u,D,B,kV,k_,E,O,ae,ao];exact⟨aw,L⟩
 have:k=I o:=J;subst this;have v:=Ek (p:=s7 o p) y;simp only[go_sem,GH,aaH,H,f,g,dF,v,ae,ao]
def agT(o:gN)(p:Nat×Nat)(hl:I o<=1000000):aC S 109 [.one (.p (.sl (dc o))),.agg [.p (.int .i64 p.1),.p (.int .i64 p.2)]] (bK (decide (p∈o))):=by
 have f:=aj3 o p hl;refine bG aiM ?_;by_cases H:p∈o
 .obtain⟨k,m⟩:=iA H;have D:=(ct.1 m).1;cases h:(List.range (I o)).find? (s7 o p)with
  |none=>have:=zf.1 h k (f_.2 D);simp[s7,m]at this
  |some j=>rw[h]at f;have g:(0:Int)<=(j:Int):=J;simp only[go_sem,Sr,aaB,dj f,g,H,ae,ao]
 cases h:(List.range (I o)).find? (s7 o p)with
 |some j=>have n:=EG h;simp only[s7,c6]at n;exact absurd (bY n) H
 |none=>rw[h]at f;have g:¬(0:Int)<= -1:=U;simp only[go_sem,Sr,aaB,dj f,g,H,ae,ao]
def Gh{l:cO}(A:l≠[])(hl:I l<=1000000):aC S 110 [.one (.p (.sl (bX l)))] (.one (bn h_ 7 (bX l))):=by
 cases l with
 |nil=>exact absurd rfl A
 |cons p t=>exact apX p t hl
section
variable {Q:fp} {h:bD} {blk:aB} {os:en} {d:my}
def DM{id:Nat}{l:cO}{c:b_}{g f b:Int}(hl:I l<=1000000)(q: -100<=b/\b<=100)(n:∀p∈l,-1000000<=p.l.aK/\p.l.aK<=1000000)(H:aW id h_ 7 (bX l) (.one c) blk)
  (x:∀A,aW id h_ 7 (bX (eu l g f b)) (.one c) A->(∀i,i≠id->A i=blk i)->gV S .all os Q (dx h d (.tup [])) A):iM S .all (.sc 108 [.one c,aq g,aq f,aq b]) d os Q h blk:=by
 have j:l=[]\/(gr (S.ctx .all) 108 [.one c,aq g,aq f,aq b] blk).ok id:=by
  rcases Jb H with⟨r,_⟩|r
  .exact .inl (by simpa using r)
  exact .inr (wY (by simp[r]))
 refine sf (P:=acx id (bX (eu l g f b)) c blk) xt (ast j hl q n H) ?_;rintro v A ⟨rfl,u,m⟩
 exact x A u m
end
def arU(fs:wi):∀(j:Nat) (L:aA),∀v∈nE fs j L,v∈L\/v<j+I fs:=by
 have m:∀(D:aA) (L:aA) (x:Nat),∀v∈mB L D x,v∈L\/v=x:=by
  intro D
  induction D with
  |nil=>intro L x v h;exact .inl h
  |cons d D g=>
   intro L x v h;rcases g (L.set d x) x v h with h|h
   .rcases Hc h with h|h
    .exact .inl h
    exact .inr h
   exact .inr h
 induction fs with
 |nil=>intro j L v h;exact .inl h
 |cons f r g=>
  intro j L v h;rcases g (j+1) (mB L f.aT j) v h with h|h
  .rcases m _ _ _ v h with h|h
   .exact .inl h
   subst h;exact .inr aG
  exact .inr (by simp only[dE];omega)
def Gd:cM:=⟨false,[],[],[],false⟩
def cK(F:Nat)(g:aI)(d:Nat):cM:=(cZ F g).getD ((gK F g).getD d 0) Gd
def AH(F:Nat)(g:aI):I (gK F g)=2*I g:=by simp[gK,LK]
def FU(r:ch F g){d:Nat}(n:d<2*I g):∃j,(gK F g)[d]?=some j/\(cZ F g)[j]?=some (cK F g d)/\j<I (cZ F g):=by
 obtain⟨j,H⟩:=bq (h:=gK F g) (k:=d) (by rw[AH];exact n);have u:0<I (cZ F g):=by rw[Kc,r.nw];omega
 have m:j<I (cZ F g):=by
  rcases arU (cZ F g) 0 _ j (bY H)with h|h
  .have:=HA h;omega
  omega
 refine⟨j,H,?_,m⟩;obtain⟨f,q⟩:=bq m;unfold cK;rw[dT (l:=gK F g),H,jV,dT,q];rfl
def om(b:Nat)(r:Int)(d:Bool):aZ:=⟨⟨1,b,r,0,0,false⟩,d⟩
def xB(g:aI)(j b c:Nat)(f:cM)(h:Bool):cO:=ey (eu (a_ g) b c 2) [om b (if f.dA !=h then((c+2:Nat):Int)else((c+1:Nat):Int)) f.dA,om b (if f.dA !=h then((c+1:Nat):Int)else((c+2:Nat):Int)) (!f.dA)] j
def rQ(F:Nat)(g:aI)(j b c:Nat):Option cO:=
 if(b,c)∈(cK F g (2*j)).places then some (xB g j b c (cK F g (2*j)) false)
 else if(b,c)∈(cK F g (2*j+1)).places then some (xB g j b c (cK F g (2*j+1)) true)else none
def pZ (o:Option cO):RV:=.tup [.one (bn h_ 7 (bX (o.getD []))),.one (.p (.bool o.isSome))]
def Ej(m:ch F g):∀p∈a_ g,-1000000<=p.l.aK/\p.l.aK<=1000000:=by
 intro p hp;obtain⟨i,H⟩:=iA hp;have D:i<I g:=by rw[<-bR];exact(ct.1 H).1
 obtain⟨l,hl⟩:=bq D;rw[vl hl]at H;cases H;rcases m.ok.kinds l (bY hl)with h|h
 .have j:=m.ok.ax.good l (bY hl) h;have:=j.r0;have:=j.r1;have n:dY g l.gate.toNat<=I g:=ld _ _;have:=m.len;simp only;omega
 have:=(adv (f:=F) h).1 (m.bad l (bY hl));simp only[this.1.2];omega
def acm{F:Nat}{g:aI}(ab:ch F g){b c k:Nat}(ha:j<I g)(CK:b<=F)(hc:c<=1000){l o:Bool}{aP:Int}(hk:k<2){blk:aB}
  (r:h 0=.one (.p (df F g))) (q:h 3=.one (.bg 4800000000 1 0)) (X:h 6=.one (.bg 4800064320 1 0)) (u:h 7=.one (.bg 4800128448 1 0)) (m:h 8=.one (.bg 4800192448 1 0)) (fL:h 40=aq k)
  (M:blk 4800000000=(1,some (.var [.p (.int .i64 2),.p (.int .i64 j),.p (.int .i64 b),.p (.int .i64 c),.p (.bool l),.p (.bool o),.p (.int .i64 aP)]))) (b6:blk 4800064320=(1,some (.var [.p (.int .i64 b),.p (.int .i64 c)])))
  (b7:blk 4800128448=(1,some (.var ((om b ((c+1:Nat):Int) true).ps.map .p)))) (b8:blk 4800192448=(1,some (.var ((om b ((c+2:Nat):Int) false).ps.map .p))))
  (dh:(b,c)∉(cK F g (2*j+k)).places->∀A N,A 0=h 0->A 3=h 3->A 6=h 6->A 7=h 7->A 8=h 8->A 40=aq ((k+1:Nat):Int)->(∀i,i≠4800577088->N i=blk i)->W S .all (.loop AR) (kZ 0 Q) A N)
  (L5:(b,c)∈(cK F g (2*j+k)).places->∀A N s T,A 4=.one T->A 5=kN true->aW s h_ 7 (bX (xB g j b c (cK F g (2*j+k)) (k==1))) (.one T) N->Q .ret A N):
  W S .all (.loop AR) (kZ 0 Q) h blk:=by
 have ad:=ab.len;have xV:=ab.fing;obtain⟨am,CT,jJ,rZ⟩:=FU ab (d:=2*j+k) J;have CY:=bY jJ;have uf:=fC CT;have Y:=BP jJ;have au:((k:Int)<2):=J;have bd:(cK F g (2*j+k)).places.length<=1000000:=by obtain⟨w,hw,he⟩:=eJ.1 CY;obtain⟨_,nj,I8⟩:=yS ab.ok w hw;have h1:=(Jy ab.ok I8 (I w) (cH _)).2.1;rw[MZ,he]at h1;have fQ:I (aH g)<=I g:=mv g (I g);have h2:I w*(2*F+2)<=1600*82:=A_ (by unfold bH at nj;omega) J;omega
 generalize Iw:cK F g (2*j+k)=f at*;have pc:=agT f.places (b,c) bd;have m2:=lR (a:=j) J;have Z:=oo (a:=2*j) (b:=k) J;have w1:=bJ (n:=k) J;have og:2*j+k<I (gK F g):=by rw[AH];omega
 have aY:a_ g≠[]:=nA.1 (by rw[bR];omega);have ag:=bR g;have O:=Gh aY J;have nW:S.lone 4800896256=false:=ah;have pG:S.lone 4801024384=false:=ah;have dJ:S.shared 108:=ah;refine mu ?_;by_cases R:(b,c)∈f.places
 .have Fq:decide ((b,c)∈f.places)=true:=sN R;rw[Fq]at pc;have H:(!f.dA==(((k:Nat):Int)==1))=(f.dA !=(k==1)):=by
   rcases(show k=0\/k=1 by omega)with rfl|rfl<;>cases f.dA<;>rfl
  have kD:I (bX (eu (a_ g) b c 2))=I (a_ g):=by simp[eu]
  have t1:List.take (I (a_ g)) (bX (eu (a_ g) b c 2))=bX (eu (a_ g) b c 2):=eW (by rw[kD];exact cH _);cases aa:(f.dA !=(k==1))with
  |true=>
    rw[aa]at H;simp only[go_sem,AR,r,q,X,u,m,fL,M,b6,b7,b8,au,m2,Z,og,uf,rZ,Y,cM.ps,H,om,aZ.ps,OT,ai pc];refine⟨aw,aw,?_⟩;refine ke O nW (.inl rfl) λT bp gc z=>?_;have L:=z 4800000000 U;have y:=z 4800128448 U;have D:=z 4800192448 U;simp only[go_sem,M]at L y D;simp only[go_sem,r,q,u,m,L,y,D,dJ];refine DM (l:=a_ g) J U (Ej ab) gc λaV sT B=>?_;have x:=(B 4800000000 U).trans L;have v:=(B 4800128448 U).trans y;have E:=(B 4800192448 U).trans D;rcases sT with⟨e,_⟩|⟨_,gg,e,eX⟩
    .exact absurd (by simpa [eu]using e) aY
    cases e;simp only[go_sem,r,q,u,m,x,v,E,eX,kD,t1,gv];refine ke (iv (eu (a_ g) b c 2) [om b ((c+2:Nat):Int) f.dA,om b ((c+1:Nat):Int) (!f.dA)] j (by rw[cT];omega) (by rw[cT];omega) aG) pG (.inr (ff (gb _))) λc2 gh CF fX=>?_;simp only[go_sem];exact L5 R _ _ _ c2 (by simp only[go_sem]) (by simp only[go_sem]) (by unfold xB;rw[aa];exact CF)
  |false=>
    rw[aa]at H;simp only[go_sem,AR,r,q,X,u,m,fL,M,b6,b7,b8,au,m2,Z,og,uf,rZ,Y,cM.ps,H,om,aZ.ps,OT,ai pc];refine⟨aw,aw,?_⟩;refine ke O nW (.inl rfl) λT bp gc z=>?_;have L:=z 4800000000 U;have y:=z 4800128448 U;have D:=z 4800192448 U;simp only[go_sem,M]at L y D;simp only[go_sem,r,q,u,m,L,y,D,dJ];refine DM (l:=a_ g) J U (Ej ab) gc λaV sT B=>?_;have x:=(B 4800000000 U).trans L;have v:=(B 4800128448 U).trans y;have E:=(B 4800192448 U).trans D;rcases sT with⟨e,_⟩|⟨_,gg,e,eX⟩
    .exact absurd (by simpa [eu]using e) aY
    cases e;simp only[go_sem,r,q,u,m,x,v,E,eX,kD,t1,gv];refine ke (iv (eu (a_ g) b c 2) [om b ((c+1:Nat):Int) f.dA,om b ((c+2:Nat):Int) (!f.dA)] j (by rw[cT];omega) (by rw[cT];omega) aG) pG (.inr (ff (gb _))) λc2 gh CF fX=>?_;simp only[go_sem];exact L5 R _ _ _ c2 (by simp only[go_sem]) (by simp only[go_sem]) (by unfold xB;rw[aa];exact CF)
 have Fq:decide ((b,c)∈f.places)=false:=r3 R;rw[Fq]at pc;simp only[go_sem,AR,r,q,X,u,m,fL,M,b6,b7,b8,au,m2,Z,og,uf,rZ,Y,cM.ps,OT,ai pc,w1];refine⟨aw,dh R _ _ ?_ ?_ ?_ ?_ ?_ ?_ λi hi=>?_⟩
 .simp only[go_sem,r]
 .simp only[go_sem,q]
 .simp only[go_sem,X]
 .simp only[go_sem,u]
 .simp only[go_sem,m]
 .simp only[go_sem]
 simp only[bj,aD hi]
def ah4(ab:ch F g){b c:Nat}(Y:j<I g)(X:b<=F)(hc:c<=1000){l o:Bool}{aP:Int}:
  aC S 75 [.one (.p (df F g)),dp 2 j b c l o aP] (pZ (rQ F g j b c)):=by
 have w1:=bJ (n:=c) J;have w2:IntKind.i64.wrap ((c:Int)+2)=((c+2:Nat):Int):=(j_ (x:=(c:Int)+2) J J).trans J;have T:=ab.len;have zH:((I (a_ g):Int)==0)=false:=pQ.2 (by rw[bR];omega);have N:∀A z s f (L:cO),rQ F g j b c=some L->A 4=.one f->A 5=kN true->aW s h_ 7 (bX L) (.one f) z->
   kZ 0 (qm S .all Sc (nk .all [(4,none),(5,none)] λv blk=>hJ blk v=some (pZ (rQ F g j b c)))) .ret A z:=λA z s f L hL H m h=>by
  simp only[go_sem,H,m];rw[hL];exact iW h
 refine bG XO ?_;simp only[go_sem,NF,w1,w2,zH];have k0:2*j+0=2*j:=rfl;refine acm ab Y X hc (k:=0) J (l:=l) (o:=o) (aP:=aP) ?_ ?_ ?_ ?_ ?_ ?_ ?_ ?_ ?_ ?_ ?_ ?_
 .simp only[go_sem]
 .simp only[go_sem]
 .simp only[go_sem]
 .simp only[go_sem]
 .simp only[go_sem]
 .simp only[go_sem];rfl
 .simp only[go_sem]
 .simp only[go_sem]
 .simp only[go_sem];rfl
 .simp only[go_sem];rfl
 .intro D A z E R O M Z Q r;have y:(b,c)∉(cK F g (2*j)).places:=D;simp only[go_sem]at E R O M Z;refine acm ab Y X hc (k:=1) J (l:=l) (o:=o) (aP:=aP) E R O M Z Q ?_ ?_ ?_ ?_ ?_ ?_
  .rw[r _ U];simp only[go_sem]
  .rw[r _ U];simp only[go_sem]
  .rw[r _ U];simp only[go_sem];rfl
  .rw[r _ U];simp only[go_sem];rfl
  .intro B q u p0 p3 p6 p7 p8 F8 bc;have hr:rQ F g j b c=none:=by unfold rQ;rw[aD y,aD B]
   have im:¬(((1+1:Nat):Int)<2):=U;refine mu ?_;simp only[go_sem,AR,Sc,F8,im,hr];rfl
  intro B q u s f H m h;exact N q u s f _ (by unfold rQ;rw[aD y,aM B];rfl) H m h
 intro D q u s f H m h;have y:(b,c)∈(cK F g (2*j)).places:=D;exact N q u s f _ (by unfold rQ;rw[aM y];rfl) H m h
def OP(g:aI)(j:Nat)(aP:Int)(o:Bool):cO:=ey (a_ g) [⟨⟨2,0,0,((aF af.aJ g/2+1:Nat):Int),aP,o⟩,false⟩,⟨⟨2,0,0,((aF af.aJ g/2+1:Nat):Int),aP,!o⟩,false⟩] j
def alj(E:ch F g)(R:j<I g){b c:Int}{l o:Bool}{aP:Int}:
  aC S 78 [.one (.p (df F g)),dp 5 j b c l o aP] (pZ (some (OP g j aP o))):=by
 have O:=E.cr;have v:=DS F (aF af.aJ g/2) aP o (.sl (bX (a_ g))) (.sl (g_ (cZ F g))) (.sl (aS (gK F g))) (.int .i64 (aF af.aN g:Nat)) (.sl (aS (eF g F))) 1 J J;have u:=DS F (aF af.aJ g/2) aP (!o) (.sl (bX (a_ g))) (.sl (g_ (cZ F g))) (.sl (aS (gK F g))) (.int .i64 (aF af.aN g:Nat)) (.sl (aS (eF g F))) 1 J J;have H:=E.len;have A:=bR g;have f:=iv (a_ g) [⟨⟨2,0,0,((aF af.aJ g/2+1:Nat):Int),aP,o⟩,false⟩,⟨⟨2,0,0,((aF af.aJ g/2+1:Nat):Int),aP,!o⟩,false⟩] j J J aG;have L:S.lone 4992065280=false:=ah
 refine bG aiB ?_;have B:((1:Nat):Int)=1:=rfl;rw[B]at v u;have D:∀blk:aB,∀s,∀r m X x n q h:PV,d_ blk [] s ((RV.agg [.p r,.p m,.p X,.p x,.p n,.p q,.p h]).eU (S.lone s))=some (.agg [.p r,.p m,.p X,.p x,.p n,.p q,.p h],[]):=λblk s r m X x n q h=>by cases S.lone s<;>rfl
 simp only[go_sem,ac5,pL,fT v (D _ _ _ _ _ _ _ _ _),fT u (D _ _ _ _ _ _ _ _ _),gv];refine iN f L (.inr (ff (gb _))) λM Q w z N y=>?_;simp only[go_sem];refine⟨?_,iW z⟩;rcases y with rfl|rfl<;>kernel_rfl
def gW(n:Nat)(i:Int):Bool:=decide (0<=i)&&decide (i<(n:Int))
def VN(i:Int)(n:Nat):aC S 73 [aq i,.one (.p (.box [.int .i64 n]))] (bK (gW n i)):=by
 refine bG arw ?_;unfold gW;by_cases h:0<=i
 .by_cases H:i<(n:Int)
  .simp only[go_sem,Mm,h,H,ae,ao]
  simp only[go_sem,Mm,h,H,ae,ao]
 simp only[go_sem,Mm,h,ae,ao]
def abo(l:aI):((ur l).all λe=>e.all PV.scalar):=by simp[af.ps,PV.scalar]
abbrev s9(F:Nat)(L:aI):RV:=.tup [.agg [.p (.int .i64 F),bn ze 6 (ur L)],.one (.p (.int .i64 0))]
def tQ(F:Nat)(g:aI)(k:Int):Option cO->RV
 |none=>rm 4
 |some L=>if(400:Int)<(I g:Int)+(iG k).1\/(100:Int)<((aF af.aJ g/2:Nat):Int)+(iG k).2 then rm 7 else s9 F (tP L)
abbrev aR(ls:aI)(i:Nat):af:=ls.getD i nv
def asr{i:Nat}{l:af}(h:g[i]?=some l):aR g i=l:=by rw[aR,dT,h];rfl
def iX{i:Nat}(h:i<I g):g[i]?=some (aR g i):=by obtain⟨l,hl⟩:=bq h;rw[asr hl,hl]
def Ea(a b:af):Bool:=(a.kind==b.kind)&&((a.gate==b.gate)&&((a.aK==b.aK)&&((a.id==b.id)&&((a.sign==b.sign)&&(a.over==b.over)))))
def Ss(x:af):Ea x x:=by simp[Ea]


def vm{S:Sys}{fn:aU}{A:c7}{P:RV->Prop}(hp:S.prim f A=none)(H:S.fns f=some fn)(hl:I A<=fn.ntmps)
  (h:W S .all fn.body (nk .all fn.results λv blk=>∃r,P r/\hJ blk v=some r) (oh A) vQ):∃r,P r/\aC S f A r:=by
 obtain⟨n,v,q,j,r,m,g⟩:=TV h;refine⟨r,m,n+1,?_⟩;rw[iu];simp only[hp,H,hl,if_true];unfold zN;simp only[j,g]

def DZ(l:cO)(drop:Nat->aZ->Bool)(i:Nat):Option aZ:=match l[i]? with|some p=>if drop i p then none else some p|none=>none
def va(l:cO)(drop:Nat->aZ->Bool)(k:Nat):cO:=(List.range k).filterMap (DZ l drop)
def nZ(l:cO)(drop:Nat->aZ->Bool):cO:=va l drop (I l)
def W2{l:cO}{drop:Nat->aZ->Bool}{k:Nat}{p:aZ}(h:l[k]?=some p)(H:drop k p):va l drop (k+1)=va l drop k:=by simp[va,j0,List.filterMap_append,DZ,h,H]
def adq{l:cO}{drop:Nat->aZ->Bool}{k:Nat}{p:aZ}(h:l[k]?=some p)(H:drop k p=false):va l drop (k+1)=va l drop k++[p]:=by simp[va,j0,List.filterMap_append,DZ,h,H]
def EA(l:cO)(drop:Nat->aZ->Bool)(k:Nat):I (va l drop k)<=k:=by have:=List.length_filterMap_le (DZ l drop) (List.range k);rwa[Ff]at this
def xG(j:ch F g){e:Nat}(m:e<I g):aC S 105 [.one (.p (df F g)),aq e] (uR (.int .i64 e) (.int .i64 ((e+1)%I g:Nat))):=by have h:=j.len;have B:=bR g;have f:=bJ (n:=e) J;have E:=n_ (e+1) (I g);have H:¬((I g:Int)=0):=J;refine bG anf ?_;simp only[go_sem,acQ,f,E,B,H,ae,ao];exact⟨aw,rfl⟩
def ZJ(l:cO)(hl:I l<=1000000){y:PV}(Q:x.norm=x/\y.norm=y)(E:S.shared f=false)(drop:Nat->aZ->Bool)(M:∀(k:Nat) (p:aZ),l[k]?=some p->aC S f [aq k,.agg (p.ps.map .p),.one (.p x),.one (.p y)] (bK (drop k p))):
  aC S 106 [.one (.p (.sl (bX l))),.one (.p (.fn f [] [x,y]))] (.one (bn h_ 7 (bX (nZ l drop)))):=by
 obtain⟨D,F⟩:=Q;refine bG aa8 ?_;simp only[go_sem,NZ,D,F];refine cD (λk h blk=>h 1=.one (.p (.fn f [] [x,y]))/\h 8=.one (.p (.sl (bX l)))/\h 9=aq (I l)/\h 10=aq k/\ ∃c,h 5=.one c/\aW 6784384192 h_ 7 (bX (va l drop k)) (.one c) blk) 0 (I l) (bC _) ?_ ?_
 .simp only[go_sem];first|exact⟨rfl,_,rfl,.inl ⟨rfl,rfl⟩⟩|exact⟨_,rfl,.inl ⟨rfl,rfl⟩⟩|exact⟨rfl,rfl,_,rfl,.inl ⟨rfl,rfl⟩⟩
 rintro k h blk T ⟨j,q,r,m,c,u,v⟩
 by_cases A:k<I l
 .have B:((k:Int)<(I l:Int)):=J;obtain⟨p,hp⟩:=bq A;have L:=gO hp;have z:=bJ (n:=k) J;have g:=M k p hp;have Y:=EA l drop k;simp only[aZ.ps,ew,jn]at g;cases H:drop k p with
  |true=>rw[H]at g;have aa:=W2 hp H;simp only[go_sem,BH,j,u,q,r,m,A,B,L,aZ.ps,D,F,E,ai g,z];refine⟨c,rfl,?_⟩;rw[aa];exact v.of_eq (by simp only[bj,Nat.reduceEqDiff,if_false])
  |false=>rw[H]at g;have aa:=adq hp H;simp only[go_sem,BH,j,u,q,r,m,A,B,L,aZ.ps,D,F,E,ai g];refine iR (q:=6784384192) (id:=6784384192) (bytes:=56) (A:=[p.ps]) (rd:=[6784384128]) (v.of_eq (by simp only[bj,Nat.reduceEqDiff,if_false])) (by simp[eO,bj,aZ.ps]) (.inl rfl) (by simp only[cT,dE,eR];omega) λN X R O=>?_;simp only[go_sem,j,q,r,m,A,z];refine⟨N,rfl,?_⟩;rw[aa,Nk];exact R
 have:k=I l:=J;subst this;simp only[go_sem,BH,TQ,j,u,q,r,m,dF];exact nV v
def aeb(l:cO)(hl:I l<=1000000)(N:x.norm=x)(B:S.shared f=false)(drop:Nat->aZ->Bool)(F:∀(k:Nat) (p:aZ),l[k]?=some p->aC S f [aq k,.agg (p.ps.map .p),.one (.p x)] (bK (drop k p))):
  aC S 106 [.one (.p (.sl (bX l))),.one (.p (.fn f [] [x]))] (.one (bn h_ 7 (bX (nZ l drop)))):=by
 have D:=N;refine bG aa8 ?_;simp only[go_sem,NZ,D];refine cD (λk h blk=>h 1=.one (.p (.fn f [] [x]))/\h 8=.one (.p (.sl (bX l)))/\h 9=aq (I l)/\h 10=aq k/\ ∃c,h 5=.one c/\aW 6784384192 h_ 7 (bX (va l drop k)) (.one c) blk) 0 (I l) (bC _) ?_ ?_
 .simp only[go_sem];first|exact⟨rfl,_,rfl,.inl ⟨rfl,rfl⟩⟩|exact⟨_,rfl,.inl ⟨rfl,rfl⟩⟩|exact⟨rfl,rfl,_,rfl,.inl ⟨rfl,rfl⟩⟩
 rintro k h blk Q ⟨j,q,r,m,c,u,v⟩
 by_cases A:k<I l
 .have z:((k:Int)<(I l:Int)):=J;obtain⟨p,hp⟩:=bq A;have E:=gO hp;have y:=bJ (n:=k) J;have g:=F k p hp;have T:=EA l drop k;simp only[aZ.ps,ew,jn]at g;cases H:drop k p with
  |true=>rw[H]at g;have aa:=W2 hp H;simp only[go_sem,BH,j,u,q,r,m,A,z,E,aZ.ps,D,B,ai g,y];refine⟨c,rfl,?_⟩;rw[aa];exact v.of_eq (by simp only[bj,Nat.reduceEqDiff,if_false])
  |false=>rw[H]at g;have aa:=adq hp H;simp only[go_sem,BH,j,u,q,r,m,A,z,E,aZ.ps,D,B,ai g];refine iR (q:=6784384192) (id:=6784384192) (bytes:=56) (A:=[p.ps]) (rd:=[6784384128]) (v.of_eq (by simp only[bj,Nat.reduceEqDiff,if_false])) (by simp[eO,bj,aZ.ps]) (.inl rfl) (by simp only[cT,dE,eR];omega) λL R O M=>?_;simp only[go_sem,j,q,r,m,A,y];refine⟨L,rfl,?_⟩;rw[aa,Nk];exact O
 have:k=I l:=J;subst this;simp only[go_sem,BH,TQ,j,u,q,r,m,dF];exact nV v
def Wn(k i j:Nat)(p:aZ):aC S 107 [aq k,.agg (p.ps.map .p),.one (.p (.box [.int .i64 i])),.one (.p (.box [.int .i64 j]))] (bK (decide (k=i)||decide (k=j))):=by
 refine bG aj9 ?_;by_cases H:k=i
 .have E:((k:Int)==(i:Int)):=by simp[H]
  rw[show(decide (k=i)||decide (k=j))=true by simp[H]];simp only[go_sem,Ih,aZ.ps,E,ae,ao]
 have E:((k:Int)==(i:Int))=false:=by simp;omega
 by_cases h:k=j
 .have f:((k:Int)==(j:Int)):=by simp[h]
  rw[show(decide (k=i)||decide (k=j))=true by simp[h]];simp only[go_sem,Ih,aZ.ps,E,f,ae,ao]
 have f:((k:Int)==(j:Int))=false:=by simp;omega
 rw[show(decide (k=i)||decide (k=j))=false by simp[H,h]];simp only[go_sem,Ih,aZ.ps,E,f,ae,ao]
def qD(a b:Int):Int:=if a<b then b else a
def uU(a b:Int):Int:=if b<a then b else a
def Cf(g:aI)(j:Nat):Option cO:=
 let p:=(a_ g).getD j ⟨nv,false⟩
 let q:=(a_ g).getD ((j+1)%I g) ⟨nv,false⟩
 if(p.l.kind==1)&&((q.l.kind==1)&&((p.l.gate==q.l.gate)&&((qD p.l.aK q.l.aK-uU p.l.aK q.l.aK==1)&& !(decide (aF af.aN g<=2)&&decide (0<aF af.aJ g/2)))))
 then some (eu (nZ (a_ g) λk _=>decide (k=j)||decide (k=(j+1)%I g)) p.l.gate (qD p.l.aK q.l.aK) (-2))else none
def OM{l:cO}{drop:Nat->aZ->Bool}{p:aZ}(h:p∈nZ l drop):p∈l:=by
 obtain⟨i,_,H⟩:=N6.1 h;unfold DZ at H;cases hl:l[i]? with
 |none=>rw[hl]at H;cases H
 |some q=>
  rw[hl]at H;simp only at H;split at H
  .cases H
  cases H;exact bY hl
def aka(ak:ch F g)(H:j<I g){k b c:Int}{l o:Bool}{aP:Int}:
  aC S 74 [.one (.p (df F g)),dp k j b c l o aP] (pZ (Cf g j)):=by
 have ab:=ak.len;have B:=bR g;have m:=xG ak H;have r:=fO (j+1) (show 0<I g by omega);have M:=Ej ak;obtain⟨p,hp⟩:=bq (h:=a_ g) (k:=j) J;obtain⟨q,E⟩:=bq (h:=a_ g) (k:=(j+1)%I g) J;obtain⟨p1,p2⟩:=M p (bY hp);obtain⟨q1,q2⟩:=M q (bY E);have f:=gO hp;have L:=gO E;have dJ:S.shared 108:=ah;have lo:S.lone 4736320320=false:=ah;have fY:=ak.cr;unfold Cf;simp only[dT,hp,E,jV];refine bG aeN ?_;cases c1:(p.l.kind==1)with
 |false=>
  have n:(p.l.kind !=1):=by simp[bne,c1]
  simp only[go_sem,zM,dB,bl m bQ,f,L,aZ.ps,B,H,r,n];exact⟨aw,rfl⟩
 |true=>
 have n:(p.l.kind !=1)=false:=by simp[bne,c1]
 cases c2:(q.l.kind==1)with
 |false=>
  have N:(q.l.kind !=1):=by simp[bne,c2]
  simp only[go_sem,zM,dB,bl m bQ,f,L,aZ.ps,B,H,r,n,N];exact⟨aw,rfl⟩
 |true=>
 have N:(q.l.kind !=1)=false:=by simp[bne,c2]
 cases cP:(p.l.gate==q.l.gate)with
 |false=>
  have u:(p.l.gate !=q.l.gate):=by simp[bne,cP]
  simp only[go_sem,zM,dB,bl m bQ,f,L,aZ.ps,B,H,r,n,N,u];exact⟨aw,rfl⟩
 |true=>
 have u:(p.l.gate !=q.l.gate)=false:=by simp[bne,cP]
 have R:(if q.l.aK>p.l.aK then q.l.aK else p.l.aK)=qD p.l.aK q.l.aK:=rfl;have Z:(if q.l.aK<p.l.aK then q.l.aK else p.l.aK)=uU p.l.aK q.l.aK:=rfl;have ag: -1000000<=qD p.l.aK q.l.aK/\qD p.l.aK q.l.aK<=1000000:=by unfold qD;split<;>omega
 have ad: -1000000<=uU p.l.aK q.l.aK/\uU p.l.aK q.l.aK<=1000000:=by unfold uU;split<;>omega
 have D:=j_ (x:=qD p.l.aK q.l.aK-uU p.l.aK q.l.aK) J J;generalize qD p.l.aK q.l.aK=Q at*;generalize uU p.l.aK q.l.aK=mn at*;cases fv:(Q-mn==1)with
 |false=>
  have y:(Q-mn !=1):=by simp[bne,fv]
  simp only[go_sem,zM,dB,bl m bQ,f,L,aZ.ps,B,H,r,n,N,u,R,Z,D,y];exact⟨aw,rfl⟩
 |true=>
 have y:(Q-mn !=1)=false:=by simp[bne,fv]
 have good:∀(X:Prop),X->X:=λ_ h=>h;by_cases Y:aF af.aN g<=2
 .have A:((aF af.aN g:Int)<=2):=J;by_cases fq:0<aF af.aJ g/2
  .have T:((0:Int)<((aF af.aJ g/2:Nat):Int)):=J;rw[sN Y,sN fq];simp only[go_sem,zM,dB,bl m bQ,f,L,aZ.ps,B,H,r,n,N,u,R,Z,D,y,A,T];exact⟨aw,rfl⟩
  have T:¬((0:Int)<((aF af.aJ g/2:Nat):Int)):=J;rw[sN Y,r3 fq];simp only[go_sem,zM,dB,bl m bQ,f,L,aZ.ps,B,H,r,n,N,u,R,Z,D,y,A,T,U4];refine⟨aw,?_⟩;refine ke (ZJ (a_ g) J ⟨rfl,rfl⟩ XF (λk _=>decide (k=j)||decide (k=(j+1)%I g)) (λk p _=>Wn k j ((j+1)%I g) p)) lo (.inr (ff (gb _))) λcc bp gc v=>?_;have b8:=v 4736128896 U;have z:=v 4736128960 U;simp only[go_sem]at b8 z;simp only[go_sem,b8,z,R,dJ];refine DM (l:=nZ (a_ g) λk _=>decide (k=j)||decide (k=(j+1)%I g)) (jO (EA _ _ _) J) U (λx hx=>M x (OM hx)) gc λaV O bc=>?_;simp only[go_sem];exact iW O
 have A:¬((aF af.aN g:Int)<=2):=J;rw[r3 Y];simp only[go_sem,zM,dB,bl m bQ,f,L,aZ.ps,B,H,r,n,N,u,R,Z,D,y,A,U4];refine⟨aw,?_⟩;refine ke (ZJ (a_ g) J ⟨rfl,rfl⟩ XF (λk _=>decide (k=j)||decide (k=(j+1)%I g)) (λk p _=>Wn k j ((j+1)%I g) p)) lo (.inr (ff (gb _))) λcc bp gc v=>?_;have b8:=v 4736128896 U;have z:=v 4736128960 U;simp only[go_sem]at b8 z;simp only[go_sem,b8,z,R,dJ];refine DM (l:=nZ (a_ g) λk _=>decide (k=j)||decide (k=(j+1)%I g)) (jO (EA _ _ _) J) U (λx hx=>M x (OM hx)) gc λaV O bc=>?_;simp only[go_sem];exact iW O
end
end Go.Abs
