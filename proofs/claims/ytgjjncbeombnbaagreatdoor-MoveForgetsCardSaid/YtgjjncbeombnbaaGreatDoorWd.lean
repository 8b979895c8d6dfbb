/- A part. -/
import Derived.Test.YtgjjncbeombnbaaGreatDoorWc
set_option linter.all false
open List renaming length->I
set_option maxRecDepth 100000
set_option maxHeartbeats 16000000
namespace Go.Abs
variable{E z x n y v B H A D m:Nat}{u:dh}{f:c9}{Q:gX}{j:bj}
section
variable{h:af}{F:Nat}
def Si{f:Nat}{c:a7}{blk:aG}(h:a8 f E z u (.one c) blk):(u=[]/\pk blk (.one c)=[])\/pk blk (.one c)=[f]:=by
 rcases h with⟨j,H⟩|⟨j,g,H,m⟩
 .cases H;exact .inl ⟨j,Vq⟩
 cases H;exact .inr (show nc blk 6 (.hsl f g z 0 (I u))=[f]from Hq m)
section
variable {al:bU} {Q:gX} {j:bj} {blk:aG} {os:fm} {d:dZ}
def ad4{f id:Nat}{c:a7}(m:∀ {al:bU}{blk:aG},u=[]\/al.ok id->a8 id E z u (.one c) blk->∃v A,jG S f [.one c] al blk v A/\JW id E z u c blk v A)(ae:S.sites f=[f])(H:a8 id E z u (.one c) blk)(O:al.ok id)(hf:al.fs.contains f)
  (y:∀A,a8 id E z u.reverse (.one c) A->(∀i,i≠id->A i=blk i)->jP S al os Q (ef j d (.tup [])) A):jD S al (.sc f [.one c]) d os Q j blk:=by
 refine wN (L3 ?_ ?_) (m ?_ H) ?_
 .show al.iJ ([V.one c].map _).flatten=true;rcases Si H with⟨_,h⟩|h
  .simp[h,bU.iJ]
  simp[h,bU.iJ,O]
 .show(S.sites f).all al.fs.contains=true
  grind
 .rcases Si H with⟨h,_⟩|h
  .exact .inl h
  exact .inr (BD (by simp[h]))
 rintro v A ⟨rfl,x,n⟩
 exact y A x n
end
def aue:S.sites 101=[101]:=ah
def alD:S.sites 102=[102]:=ah
def aiS(ok:fY F h)(H:x<nD h):aO h x<nD h:=Sz ok.kI ok.hp H
abbrev u7(id:Nat):Prop:=oY id=67
structure afw (ls:af) (idS gS idB gB g8 gF:Nat) (sp:fT) (f:c9) (cd cp cf:a7) (blk:aG):Prop where
 bS:blk idS=(gS,some (.arr 4 1 (hJ sp)))
 bB:blk idB=(gB,some (.arr 4 1 (hJ (CZ ls))))
 b8:blk 4288000000=(g8,some (.var [.p (.bool false),.p .nils,.p .nils,.p .nils,.p (.bool false)]))
 bF:blk 4288128448=(gF,some (.var [.p (.bool f.gh),cd,cp,cf,.p (.bool f.outer)]))
 gd:a8 4288512256 3 1 (bt f.cT) (.one cd) blk
 gp:a8 4288896192 C_ 2 (kM f.places) (.one cp) blk
 gf:a8 4288896448 3 1 (bt f.zw) (.one cf) blk
def apE(ok:fY F h){k:Nat}(H:x<nD h)(j:I f.cT<=k/\I f.places<=k*(2*F+2)/\I f.zw<=k*(2*F+2)):(f.add F h x).cT.length<=k+1/\(f.add F h x).places.length<=(k+1)*(2*F+2)/\(f.add F h x).zw.length<=(k+1)*(2*F+2):=by grind [c9.add,V1,Xn]
def avE{al:bU}(ok:fY F h)(hF:F<=1000)(O:∀id,u7 id->al.ok id){g8 gF d:Nat}(oS:al.ok n)(nS:¬u7 n)(nB:¬u7 v)(a9:n≠v)(f1:al.fs.contains 101)(f2:al.fs.contains 102)(hd:d<2*I h):
  ∀(m k x:Nat) (z:fT) (f:c9) (j:bj) (blk:aG) (cd cp cf:a7),j 0=.one (.p (sR F h))->j 2=.one (.hsl n y 1 0 (2*I h))->j 8=.one (.bh 4288000000 g8 0)->j 9=aE (I h)->j 10=aE (I (ay h))->j 11=.one (.bh 4288128448 gF 0)->j 12=aE x->
   afw h n y v B g8 gF (z.take (2*I h)) f cd cp cf blk->I z=nD h->x<nD h->Inv (aO h) (nD h) d z x->y7 z<m->(k+m<=5000000)->(I f.cT<=k/\I f.places<=k*(2*F+2)/\I f.zw<=k*(2*F+2))->
   (∀M T GW pz GZ,M 8=j 8->M 11=j 11->afw h n y v B g8 gF ((gG (aO h) m x z).2.take (2*I h)) ((gG (aO h) m x z).1.foldl (c9.add F h) f) GW pz GZ T->(∀id,¬(u7 id\/id=n)->T id=blk id)->Q .normal M T)->
   W S al (.loop J0) (se 0 Q) j blk:=by
 have hl:=ok.hl;have iM:I (ay h)<=1000000:=nA (uW h (I h)) hl;have fJ:nD h<=4000000:=by unfold nD;omega
 have m2:=qg (a:=I h) J;have k0:al.ok 4288000000:=O _ rfl;have kF:al.ok 4288128448:=O _ rfl;have aN:al.ok 4288512192:=O _ rfl;have kd:al.ok 4288512256:=O _ rfl;have kp:al.ok 4288896192:=O _ rfl;have kf:al.ok 4288896448:=O _ rfl;have X:al.ok 4288640128:=O _ rfl;have ab:al.ok 4288640129:=O _ rfl;have hm:=n0 ok;intro m
 induction m with
 |zero=>intro k x z f j blk cd cp cf _ _ _ _ _ _ _ _ _ _ _ ap;omega
 |succ m ih=>
  intro k x z f j blk cd cp cf h0 h2 h8 h9 ik R Y H ND L hi hu hk ad D;have bn:=hm.le;obtain⟨l1,l2,l3⟩:=ad;have bp:k*(2*F+2)<=5000000*2002:=Lb J J;have NZ:=apE ok L ⟨l1,l2,l3⟩;unfold gG at D;have N:∀ {a:Nat},u7 a->a≠n:=λap e=>nS (e▸ap);have u:∀ {a:Nat},u7 a->a≠v:=λap e=>nB (e▸ap);have nF:¬(4288128448=n):=N rfl;refine mP ?_;cases ae:z.getD x true with
  |true=>
   have bm:=hi.i4 ae;have aB:x<2*I h:=J;have aL:((x:Int)<((2*I h:Nat):Int)):=J;rw[ae]at D;simp only[if_true]at D;have E:(z.take (2*I h))[x]?=some true:=by
    have h1:=UZ aB (show 2*I h<=I z by omega);rw[show dO z x=true from ae,dz]at h1;have uT:x<I (z.take (2*I h)):=by rw[jw];omega
    obtain⟨b,E⟩:=aM uT;rw[E]at h1 |-;exact congrArg some h1
   have qj:=sW E;simp only[go_sem,J0,h0,h2,h9,Y,m2,aL,aB,H.bS,qj,oS];exact D _ _ cd cp cf (by simp only[go_sem]) (by simp only[go_sem]) H (λ_ _=>rfl)
  |false=>
   have Oo:z[x]?=some false:=by
    rw[dz]at ae;cases h1:z[x]? with
    |none=>rw[h1]at ae;cases ae
    |some b=>rw[h1]at ae;exact congrArg some ae
   have HW:=LK Oo;have pt:=aab ok x (by unfold nD at L;exact L);have di:=hi.step hm ND L ae;rw[ae]at D;simp only[gJ,if_false,zg]at D;by_cases Z:x<2*I h
   .have aL:((x:Int)<((2*I h:Nat):Int)):=J;have E:(z.take (2*I h))[x]?=some false:=by rw[pR,an Z];exact Oo
    have qj:=sW E;have iG:=IZ (z.take (2*I h)) x true;rw[afZ]at iG;have bl:f.add F h x={f with cT:=f.cT++[x]}:=by unfold c9.add;rw[an Z]
    simp only[go_sem,J0,h2,h9,R,Y,m2,aL,Z,H.bS,H.bF,qj,iG,oS,kF,aN,nF];refine Po (B:=[[.int .i64 (x:Int)]]) (rd:=[4288512192]) (by simp[kd,aN]) (H.gd.of_eq ((cF aa).trans (cF (N rfl)))) (by simp[gP,ba]) (.inl rfl) (by simp only[bG,fG,gk];omega) λc aZ hc bZ=>?_;have Km:∀i,i≠4288512192->i≠4288512256->i≠n->aZ i=blk i:=λi a b c=>(bZ i b b).trans ((cF a).trans (cF c))
    have a5:=(bZ n (N rfl).symm (N rfl).symm).trans ((cF (N rfl).symm).trans w_);have A:=(Km 4288128448 aa aa (N rfl)).trans H.bF;simp only[go_sem,A,h0,R,Y,kF,X7,RC pt];refine ih (k+1) (aO h x) (z.set x true) (f.add F h x) _ _ c cp cf ?_ ?_ ?_ ?_ ?_ ?_ ?_ ?_ (by rw[q_];exact ND) (aiS ok L) di J J NZ ?_
    .simp only[go_sem,h0]
    .simp only[go_sem,h2]
    .simp only[go_sem,h8]
    .simp only[go_sem,h9]
    .simp only[go_sem,ik]
    .simp only[go_sem,R]
    .simp only[go_sem]
    .rw[bl];refine⟨?_,?_,?_,w_,?_,?_,?_⟩
     .exact(cF (N rfl).symm).trans a5
     .exact(cF (u rfl).symm).trans ((Km _ (u rfl).symm (u rfl).symm a9.symm).trans H.bB)
     .exact(cF aa).trans ((Km _ aa aa (N rfl)).trans H.b8)
     .exact(OU _ _▸hc.of_eq (cF aa))
     .exact(H.gp.of_eq (Km _ aa aa (N rfl))).of_eq (cF aa)
     exact(H.gf.of_eq (Km _ aa aa (N rfl))).of_eq (cF aa)
    intro M T GW pz GZ q8 Lv B3 dE;refine D M T GW pz GZ (by rw[q8];simp only[go_sem]) (by rw[Lv];simp only[go_sem]) B3 λid hn=>?_;have a:∀bf,u7 bf->id≠bf:=λbf hy e=>hn (.inl (e▸hy));exact(dE id hn).trans ((cF (a _ rfl)).trans (Km id (a _ rfl) (a _ rfl) λe=>hn (.inr e)))
   have hj:(x-2*I h)/2<I (ay h):=by unfold nD at L;omega
   have yA:=az0 ok hF hj;have lP:=V1 ok hj;have lF:=Xn ok hj;have DY:¬((x:Int)<((2*I h:Nat):Int)):=J;have ws:=W6 (a:=x) (b:=2*I h) J J;have wq:=wrap_small (n:=(x-2*I h)/2) J;have w2:=Af (a:=I (ay h)) J J;have Wh:((((x-2*I h)/2:Nat):Int)==((I (ay h)-1:Nat):Int))=decide ((x-2*I h)/2+1=I (ay h)):=by
    by_cases ap:(x-2*I h)/2+1=I (ay h)
    .rw[xq ap];simp;omega
    rw[zc ap];simp;omega
   have oE:(f.add F h x).outer=(f.outer||decide ((x-2*I h)/2+1=I (ay h))):=by unfold c9.add;rw[ai Z]
   have aD:(f.add F h x).gh=f.gh:=by unfold c9.add;rw[ai Z]
   have a0:(f.add F h x).cT=f.cT:=by unfold c9.add;rw[ai Z]
   have KB:(f.add F h x).places=f.places++(if x%2=0 then lE F h ((x-2*I h)/2)else(lE F h ((x-2*I h)/2)).reverse):=by unfold c9.add;rw[ai Z]
   have HE:(f.add F h x).zw=f.zw++(if x%2=0 then By F h ((x-2*I h)/2)else(By F h ((x-2*I h)/2)).reverse):=by unfold c9.add;rw[ai Z]
   generalize f.add F h x=f' at oE aD a0 KB HE D NZ;have nU:S.lone 4288640128=false:=ah;have a4:∀l:pB,((kM l).all λe=>e.all PV.scalar):=λl=>by simp[PV.scalar]
   have a6:∀l:aC,((bt l).all λe=>e.all PV.scalar):=λl=>by simp[PV.scalar]
   have bk:∀l:pB,∀e∈kM l,I e=2/\ ∀bg∈e,bg.norm=bg:=λl e he=>by obtain⟨a,_,rfl⟩:=cD.1 he;exact⟨rfl,λbg hv=>by simp at hv;rcases hv with rfl|rfl<;>rfl⟩
   have a1:∀l:aC,∀e∈bt l,I e=1/\ ∀bg∈e,bg.norm=bg:=λl e he=>by obtain⟨a,_,rfl⟩:=cD.1 he;exact⟨rfl,λbg hv=>by simp at hv;rcases hv with rfl;rfl⟩
   have ch:S.shared 101:=ah;have be:S.shared 102:=ah;have nO:(z.set x true).take (2*I h)=z.take (2*I h):=adu J;generalize lE F h ((x-2*I h)/2)=PP at*;generalize By F h ((x-2*I h)/2)=FF at*;simp only[go_sem,J0,h0,h9,Y,m2,DY,ws,wq,jX,nq,axQ];refine asq (by simp[X,ab]) yA nU (a4 _) (a6 _) λc e cK hc he E=>?_;by_cases eD:x%2=0
   case' _=>
    have Ci:((x:Int).tmod 2==1)=false:=by rw[sq,eD];rfl
    rw[an eD]at KB HE;have hP:=hc;have hE:=he;have Ke:∀i,i≠4288640128->i≠4288640129->cK i=blk i:=E
   rotate_left
   case' _=>
    have Ci:((x:Int).tmod 2==1):=by rw[sq,show x%2=1 by omega];rfl
    rw[ai eD]at KB HE;simp only[go_sem,jX,Ci,Y,ch];refine ad4 (λo ap=>aze o (by simp only[bG];omega) (bk _) ap) aue hc X f1 λaZ iT bZ=>?_;simp only[go_sem,be];refine ad4 (λo ap=>aAb o (by simp only[bG];omega) (a1 _) ap) alD (he.of_eq (bZ _ aa)) ab f2 λlQ a2 lT=>?_;have hP:a8 4288640128 C_ 2 (kM PP.reverse) (.one c) lQ:=by rw[kM,LF];exact iT.of_eq (lT _ aa)
    have hE:a8 4288640129 3 1 (bt FF.reverse) (.one e) lQ:=by rw[bt,LF];exact a2
    have Ke:∀i,i≠4288640128->i≠4288640129->lQ i=blk i:=λi a b=>(lT i b).trans ((bZ i a).trans (E i a b))
   all_goals
    have ac:=(Ke 4288128448 aa aa).trans H.bF;simp only[go_sem,jX,Ci,ac,R,Y,kF];obtain⟨rP,a3,az⟩:=hP.elems;refine abq (by rcases az with rfl|rfl<;>simp[kp,X]) (H.gp.of_eq (Ke _ aa aa)) a3 hP.jq (by simp only[bG,qB];omega) λc2 vE r1 u1 pG qK j4=>?_
    have A:=(qK 4288128448 aa aa).trans ac;simp only[go_sem,A,R,kF];obtain⟨rE,bc,am⟩:=(hE.of_eq (qK _ aa aa)).elems;refine abq (by rcases am with rfl|rfl<;>simp[kf,ab]) (H.gf.of_eq ((qK _ aa aa).trans (Ke _ aa aa))) bc hE.jq (by simp only[bG,qB];omega) λc3 MH r2 u2 ar Kd uR=>?_
    have ag:=(Kd 4288128448 aa aa).trans A;have iS:∀i,i≠4288640128->i≠4288640129->i≠4288896192->i≠4288896448->MH i=blk i:=λi a b c d=>(Kd i d d).trans ((qK i c c).trans (Ke i a b));have bi:a8 4288896192 C_ 2 (kM f'.places) (.one c2) MH:=by rw[KB,OQ];exact pG.of_eq (Kd _ aa aa)
    have bb:a8 4288896448 3 1 (bt f'.zw) (.one c3) MH:=by rw[HE,OU];exact ar
    clear pG ar;cases ho:f.outer;all_goals
     rw[ho]at ag;simp only[go_sem,ag,h0,ik,R,Y,kF,w2,Wh,X7,RC pt];refine⟨?_,?_⟩
     .rcases az with rfl|rfl<;>rcases am with rfl|rfl<;>rcases j4 with⟨rfl,rfl⟩|⟨rfl,rfl⟩|⟨rfl,rfl⟩<;>rcases uR with⟨rfl,rfl⟩|⟨rfl,rfl⟩|⟨rfl,rfl⟩<;>kernel_rfl
     refine ih (k+1) (aO h x) (z.set x true) f' _ _ cd c2 c3 ?_ ?_ ?_ ?_ ?_ ?_ ?_ ?_ (by rw[q_];exact ND) (aiS ok L) di J J NZ ?_
     .simp only[go_sem,h0]
     .simp only[go_sem,h2]
     .simp only[go_sem,h8]
     .simp only[go_sem,h9]
     .simp only[go_sem,ik]
     .simp only[go_sem,R]
     .simp only[go_sem]
     .rw[nO];refine⟨?_,?_,?_,?_,?_,?_,?_⟩
      .exact(cF (N rfl).symm).trans ((cF (N rfl).symm).trans ((cF (N rfl).symm).trans ((iS _ (N rfl).symm (N rfl).symm (N rfl).symm (N rfl).symm).trans H.bS)))
      .exact(cF (u rfl).symm).trans ((cF (u rfl).symm).trans ((cF (u rfl).symm).trans ((iS _ (u rfl).symm (u rfl).symm (u rfl).symm (u rfl).symm).trans H.bB)))
      .exact(cF aa).trans ((cF aa).trans ((cF aa).trans ((iS _ aa aa aa aa).trans H.b8)))
      .rw[w_,aD,oE,ho];rfl
      .rw[a0];exact H.gd.of_eq ((cF aa).trans ((cF aa).trans ((cF aa).trans (iS _ aa aa aa aa))))
      .exact bi.of_eq ((cF aa).trans ((cF aa).trans (cF aa)))
      exact bb.of_eq ((cF aa).trans ((cF aa).trans (cF aa)))
     intro M T GW pz GZ q8 Lv B3 dE;refine D M T GW pz GZ (by rw[q8];simp only[go_sem]) (by rw[Lv];simp only[go_sem]) B3 λid hn=>?_;have a:∀bf,u7 bf->id≠bf:=λbf hy e=>hn (.inl (e▸hy));exact(dE id hn).trans ((cF (a _ rfl)).trans ((cF (a _ rfl)).trans ((cF (a _ rfl)).trans (iS id (a _ rfl) (a _ rfl) (a _ rfl) (a _ rfl)))))
structure a_ (F:Nat) (ls:af):Prop where
 ok:fY F ls
 len:I ls<=400
 cr:au U.aq ls<=200
 fing:F<=40
 ne:ls≠[]
 first:∃l,ls[0]?=some l/\l.aw
 even:au U.aw ls%2=0
 bad:∀l∈ls,d_ F l=false
 chk:dM F ls=0
 nw:fp ls=au U.aw ls+au U.aq ls/2+2
def E4{f:Int}(j:dM f h=0)(A:h≠[]):∃F:Nat,f=(F:Int)/\a_ F h:=by
 have v:=j;unfold dM at j;by_cases B:400<I h\/200<au U.aq h
 .grind
 rw[ai B]at j;by_cases u:f<0\/40<f
 .grind
 rw[ai u,ai A]at j;cases H:mA f h with
 |false=>rw[H]at j;simp at j
 |true=>
  obtain⟨F,rfl⟩:=lB (show 0<=f by omega);refine⟨F,rfl,?_⟩;unfold mA at H;simp at H;obtain⟨⟨⟨kU,v2⟩,v3⟩,v4⟩:=H;obtain⟨D,n,z⟩:=G0.1 v3;have m:=λl hl=>by simpa using Cz.1 D l hl
  have x:=λl hl hp=>((kL hp).1 (m l hl)).1.1.1;obtain⟨g1,y⟩:=(D9 x).1 n;obtain⟨L,Q⟩:=aM (gA.2 A);rw[Q]at kU;exact⟨⟨J,⟨g1,y⟩,z,λl hl=>xj (m l hl)⟩,J,J,J,A,⟨L,Q,kU⟩,by simpa using v2,m,v,by simpa using v4⟩
def az2(F:Nat)(h:af)(n y:Nat)(x:Nat)(m:fT)(blk:aG)(v:V)(A:aG):Prop:=
 ∃f j z u,f=((gG (aO h) (nD h+1) x m).1).foldl (c9.add F h) (c9.new h x)/\v=.agg [.p (.bool f.gh),j,z,u,.p (.bool f.outer)]/\A n=(y,some (.arr 4 1 (hJ ((gG (aO h) (nD h+1) x m).2.take (2*I h)))))/\
  a8 4288512256 3 1 (bt f.cT) (.one j) A/\a8 4288896192 C_ 2 (kM f.places) (.one z) A/\a8 4288896448 3 1 (bt f.zw) (.one u) A/\dL (λid=>u7 id\/id=n) blk A
def ay4{al:bU}{F:Nat}{h:af}(ok:fY F h)(Z:F<=1000)(O:∀id,u7 id->al.ok id)(oS:al.ok n)(oB:al.ok v)(M:¬u7 n)(Q:¬u7 v)(u:n≠v)(Y:al.fs.contains 101)(f2:al.fs.contains 102){j:fT}{blk:aG}
  (hx:x<2*I h) (ND:I j=nD h) (dS:Mo (aO h) (nD h) j) (ae:j.getD x true=false) (bS:blk n=(y,some (.arr 4 1 (hJ (j.take (2*I h)))))) (bB:blk v=(B,some (.arr 4 1 (hJ (CZ h))))):
  ∃ad A,jG S 67 [.one (.p (sR F h)),aE x,.one (.hsl n y 1 0 (2*I h)),.one (.hsl v B 1 0 (I h))] al blk ad A/\az2 F h n y x j blk ad A:=by
 have hl:=ok.hl;have iM:I (ay h)<=I h:=uW h (I h);have fJ:nD h<=4000000:=by unfold nD;omega
 have E:al.ok 4288000000:=O _ rfl;have H:al.ok 4288128448:=O _ rfl;have D:x/2<I h:=J;have f:∀ {a:Nat},u7 a->a≠n:=λac e=>M (e▸ac);have N:∀ {a:Nat},u7 a->a≠v:=λac e=>Q (e▸ac);have z:¬(v=4288000000):=λe=>N rfl e.symm;have Oq:=IX j;refine oX apD (jx rfl) ?_;simp only[go_sem,ah1,bB,z,E,H,oB,jX,nq,wrap_small (n:=x/2) J,D,sW (ayC D)];refine⟨aS,?_⟩;refine avE ok Z O (y:=y) (B:=B) (g8:=(blk 4288000000).1+1) (gF:=(blk 4288128448).1+1) oS M Q u Y f2 hx (nD h+1) 0 x j (c9.new h x) _ _ (.p .nils) (.p .nils) (.p .nils) ?_ ?_ ?_ ?_ ?_ ?_ ?_ ?_ ND (by unfold nD;omega) (Inv.start dS ae) J J ⟨ct _,bN _,bN _⟩ ?_
 .simp only[go_sem]
 .simp only[go_sem]
 .simp only[go_sem]
 .simp only[go_sem]
 .simp only[go_sem]
 .simp only[go_sem]
 .simp only[go_sem]
 .refine⟨?_,?_,?_,?_,a8.nil,a8.nil,a8.nil⟩
  .simp only[cF (f (a:=4288000000) rfl).symm,cF (f (a:=4288128448) rfl).symm,bS]
  .simp only[cF (N (a:=4288000000) rfl).symm,cF (N (a:=4288128448) rfl).symm,bB]
  .simp only[go_sem]
  simp only[go_sem,c9.new]
 intro aF A GW pz GZ T L m X;simp only[go_sem]at T L;simp only[go_sem,abE,T,L,m.b8,m.bF,E,H];refine⟨_,GW,pz,GZ,rfl,rfl,?_,?_,?_,?_,λid R=>?_⟩
 .exact(cF (f rfl).symm).trans m.bS
 .exact m.gd.of_eq (cF aa)
 .exact m.gp.of_eq (cF aa)
 .exact m.gf.of_eq (cF aa)
 have a:∀ab,u7 ab->id≠ab:=λab hy e=>R (.inl (e▸hy));refine(cF (a _ rfl)).trans ((X id R).trans ?_);simp only[cF (a 4288000000 rfl),cF (a 4288128448 rfl)]
def tN{c:a7}{x:PV}{blk:aG}(h:a8 H A D u (.one c) blk):lr blk (.tup [.one c,.one (.p x)])=some (.tup [.one (cP A D u),.one (.p x)]):=by obtain⟨n,o,m,f,j⟩:=h.l7;cases m;rcases j with rfl|rfl<;>simp[lr,tq,wI,oN,nE,f,(show Go.Abs.l7 blk (.p x)=some _ from rfl),n9,vt,sX,CF]
def Yf{blk:aG}{id g g0 o l f:Nat}(h:blk id=(g0,some (.arr E f u))):pk blk (.one (.hsl id g z o l))=[id]:=(Hq h:nc blk 6 (.hsl id g z o l)=[id])
def av7:(S.sites 67).contains 67:=ah
def aqx:(S.sites 67).contains 101:=ah
def aq0:(S.sites 67).contains 102:=ah
def afI{S:fT}{n k:Nat}{b:Bool}(f:k<n)(H:n<=I S)(h:S.getD k true=b):(S.take n)[k]?=some b:=by grind
def auv(g:a_ F h):aI S 41 [fc F h] (.tup [.one (cP Bs 5 (qO (fB F h))),.one (.p (.int .i64 0))]):=by
 have ok:=g.ok;have hF:F<=1000:=by have:=g.fing;omega
 have iM:I (ay h)<=I h:=uW h (I h);have ag:=g.len;have fJ:nD h<=4000000:=by unfold nD;omega
 have x:2*I h<=nD h:=by unfold nD;omega
 have pr:=KV F h (ok.hl);rw[Gj g.chk,ai g.ne,js]at pr;have pb:=akV ok;have hm:=n0 ok;have m2:=qg (a:=I h) J;have lZ:2*I h<=140737488355328:=J;have Ej:List.replicate (2*I h) [PV.bool false]=hJ ((fi (aO h) (nD h) 0).2.take (2*I h)):=by show _=hJ ((List.replicate (nD h) false).take (2*I h));rw[List.take_replicate,v7 x];simp
 have ab:∀blk:aG,fR blk [] 2624384064 ((RV.one (.own 4 1 (hJ (CZ h)))).ib (S.lone 2624384064))=some (.one (.hsl 2624384064 ((blk 2624384064).1+1) 1 0 (I h)),[(2624384064,((blk 2624384064).1+1,some (.arr 4 1 (hJ (CZ h)))))]):=by intro blk;rw[show S.lone 2624384064=false by kernel_rfl];show some (V.one (.hsl 2624384064 ((blk 2624384064).1+1) 1 0 (I (hJ (CZ h)))),_)=_;rw[show(hJ (CZ h)).length=I h by simp[u5]];rfl
 have fS:S.shared 67:=ah;refine bR aai ?_;simp only[go_sem,V2,J3,dJ pr jg,afl,dJ pb (ab _),m2,lZ,Ej];refine df (λk j blk=>j 4=.one (.p (sR F h))/\j 7=.one (.hsl 2624320448 1 1 0 (2*I h))/\j 8=.one (.hsl 2624384064 1 1 0 (I h))/\j 29=aE ((2*I h:Nat):Int)/\j 30=aE k/\
   blk 2624320448=(1,some (.arr 4 1 (hJ ((fi (aO h) (nD h) k).2.take (2*I h)))))/\blk 2624384064=(1,some (.arr 4 1 (hJ (CZ h))))/\
   ∃B,j 6=.one B/\a8 2624704448 Bs 5 (qO ((fi (aO h) (nD h) k).1.map (kO F h))) (.one B) blk) 0 (2*I h) (bN _) ?_ ?_
 .simp only[go_sem];first|exact⟨rfl,rfl,rfl,_,rfl,.inl ⟨rfl,rfl⟩⟩|exact⟨rfl,rfl,_,rfl,.inl ⟨rfl,rfl⟩⟩|exact⟨rfl,_,rfl,.inl ⟨rfl,rfl⟩⟩|exact⟨rfl,rfl,rfl,rfl,_,rfl,.inl ⟨rfl,rfl⟩⟩
 rintro k j blk hk ⟨R,h7,Y,m,H,bS,bB,B,M,E⟩
 by_cases A:k<2*I h
 .have aL:((k:Int)<((2*I h:Nat):Int)):=J;have w1:=cE (n:=k) J;obtain⟨dS,_⟩:=Ps hm k J;have Ws:=FZ (aO h) (nD h) k;have FW:=K9 (aO h) (nD h) k;have D:=yJ (aO h) (nD h) k;generalize hw:fi (aO h) (nD h) k=st at*;obtain⟨o,L⟩:=st;simp only at dS Ws FW bS E;unfold u6 at D;cases ae:L.getD k true with
  |true=>simp only[ae,if_true]at D;simp only[go_sem,Lx,R,M,h7,Y,m,H,bS,bB,A,aL,sW (afI A J ae),w1,D];exact⟨B,rfl,E⟩
  |false=>
   simp only[ae,gJ,if_false,Ws]at D;obtain⟨t,ht⟩:=aiT (aO h) ae;have zM:((gG (aO h) (nD h+1) k L).1).foldl (c9.add F h) (c9.new h k)=kO F h (gG (aO h) (nD h+1) k L).1:=by unfold kO;rw[ht];rfl
   have T:=aqJ (F:=F) (t:=t) A;rw[<-ht]at T;simp only[go_sem,Lx,R,M,h7,Y,m,H,bS,bB,A,aL,sW (afI A J ae),fS];have u:pk blk (.one (.hsl 2624320448 1 1 0 (2*I h)))=[2624320448]:=Yf bS;have Ol:pk blk (.one (.hsl 2624384064 1 1 0 (I h)))=[2624384064]:=Yf bB;refine wN Cp (ay4 ok hF (λid O=>Ng (by rw[O];exact av7)) (BD ?_) (BD ?_) aa aa aa ?_ ?_ A Ws dS ae bS bB) ?_
   .simp only[eQ,vo,u,Ol];simp
   .simp only[eQ,vo,u,Ol];simp
   .exact aqx
   .exact aq0
   rintro v cK ⟨f,cd,cp,cf,hf,rfl,ac,gd,gp,gf,dE⟩
   rw[zM]at hf;rw[<-hf]at T;have ME:=(dE 2624384064 aa).trans bB;have y:=E.of_eq (dE 2624704448 aa);have oE:qO (o.map (kO F h))++[f.ps]=qO ((fi (aO h) (nD h) (k+1)).1.map (kO F h)):=by rw[D,hf];simp
   have X:(fi (aO h) (nD h) (k+1)).2=(gG (aO h) (nD h+1) k L).2:=by rw[D]
   have Q:I (qO (o.map (kO F h)))<=k:=by simpa using FW
   generalize qO (o.map (kO F h))=ad at y oE Q;have z:=gd;rcases gd with⟨e,_⟩|⟨_,gg,e,zJ⟩
   .simp at e;exact absurd e T
   cases e;simp only[go_sem];rw[bG]at z;obtain⟨fr,hx,zL,A9⟩:=azd (s:=2624704384) w_ (z.of_eq (cF aa)) (gp.of_eq (cF aa)) (gf.of_eq (cF aa));have N:∀i,i≠4288512256->i≠4288896192->i≠4288896448->i∉fr:=λi a b c O=>by
    rcases A9 i O with O|O|O
    .exact a O
    .exact b O
    exact c O
   refine ak6 (y.of_eq (cF aa)) hx zL (N _ aa aa aa) (N _ aa aa aa) (.inl rfl) (by simp only[fG,gk];omega) λc aZ hc bZ=>?_;have Z:=(bZ 2624384064 aa aa (N _ aa aa aa)).trans ((cF aa).trans ME);simp only[go_sem,R,M,h7,Y,m,H,(bZ 2624320448 aa aa (N _ aa aa aa)).trans ((cF aa).trans ac),Z,w1,A,X];refine⟨c,rfl,?_⟩;rw[<-oE];exact hc
 have:k=2*I h:=J;subst this;simp only[go_sem,Lx,Y0,M,m,H,ff];have:=Vp hm (nD h) x (ct _);unfold fB fF;rw[this];exact tN E
structure aK where
 l:U
 d:Bool
abbrev aU:=List aK
def aK.ps(p:aK):dF:=[.int .i64 p.l.kind,.int .i64 p.l.gate,.int .i64 p.l.ao,.int .i64 p.l.id,.int .i64 p.l.sign,.bool p.l.over,.bool p.d]
abbrev dB(o:aU):dh:=o.map aK.ps
abbrev lK:Nat:=90
def ga:U:=⟨0,0,0,0,0,false⟩
def aA(h:af):aU:=(List.range (I h)).map λi=>⟨h.getD i ga,dw h i⟩
theorem cZ(h:af):I (aA h)=I h:=by simp[aA]
def gZ{i:Nat}{l:U}(H:h[i]?=some l):(aA h)[i]?=some ⟨l,dw h i⟩:=by have:=(bd.1 H).1;simp[aA,dy,sy this,vp,dz,H,nm]
def ju{o:aU}{k:Nat}{p:aK}(h:o[k]?=some p):(dB o)[k]?=some p.ps:=by simp[h]
def qI(L:aC)(D:aC)(v:Nat):aC:=D.foldl (λL d=>L.set d v) L
def qe:BC->Nat->aC->aC
 |[],_,L=>L
 |f::r,j,L=>qe r (j+1) (qI L f.cT j)
def kX(F:Nat)(h:af):aC:=qe (fB F h) 0 (List.replicate (2*I h) 0)
def RH(L D:aC)(v:Nat):I (qI L D v)=I L:=by
 induction D generalizing L with
 |nil=>rfl
 |cons d D f=>show(qI _ D v).length=_;rw[f];simp
def apa(L a b:aC)(v:Nat):qI L (a++b) v=qI (qI L a v) b v:=by simp[qI]
def SO(fs:BC):∀(j:Nat) (L:aC),I (qe fs j L)=I L:=by
 induction fs with
 |nil=>intro j L;rfl
 |cons f r h=>intro j L;show(qe r _ _).length=_;rw[h,RH]
def aqz(a:BC)(f:c9):∀(j:Nat) (L:aC),qe (a++[f]) j L=qI (qe a j L) f.cT (j+I a):=by
 induction a with
 |nil=>intro j L;rfl
 |cons g r h=>intro j L;show qe (r++[f]) _ _=_;rw[h];simp[qe];congr 1;omega
def axV(F:Nat)(h:af):∀(w:aC) (f:c9),(w.foldl (c9.add F h) f).cT=f.cT++w.filter (λx=>decide (x<2*I h)):=by
 intro w
 induction w with
 |nil=>intro f;simp
 |cons x w j=>
  intro f;rw[zg,j]
  grind [c9.add]
theorem y8(F:Nat)(h:af)(w:aC):(kO F h w).cT=w.filter (λx=>decide (x<2*I h)):=by unfold kO;rw[axV];rfl
def Xy(j:f∈fB F h):∀d∈f.cT,d<2*I h:=by
 obtain⟨w,_,rfl⟩:=cD.1 j;intro d H;rw[y8]at H
 grind
def Vf(ok:fY F h)(j:f∈fB F h):I f.cT<=nD h:=by obtain⟨w,H,rfl⟩:=cD.1 j;rw[y8];exact nA (So _ _) (zn ok w H).2.1
def ajW(F:Nat)(h:af):I (fB F h)=fp h:=by simp[fB,fp]
def Mr{o:BC}{k:Nat}{p:c9}(h:o[k]?=some p):(qO o)[k]?=some p.ps:=by simp[h]
abbrev ez(F:Nat)(ls:af):PV:=.box [.int .i64 F,.sl (dB (aA ls)),.sl (qO (fB F ls)),.sl (bt (kX F ls)),.int .i64 (au U.aw ls:Nat),.int .i64 ((au U.aq ls/2:Nat):Int),.sl (bt (gb ls F))]
abbrev L4(F:Nat)(ls:af)(pc cf:a7):dY:=[.p (.int .i64 F),pc,cf,.hsl 1216256448 1 1 0 (2*I ls),.p (.int .i64 (au U.aw ls:Nat)),.p (.int .i64 ((au U.aq ls/2:Nat):Int)),.hsl 1216256960 1 1 0 (F+1)]
def asE{F:Nat}{h:af}(g:a_ F h){pc m:a7}{blk:aG}(h4:j 4=.one m)(h6:j 6=.one (.bh 1216257088 1 0))
  (bB:blk 1216257088=(1,some (.var (L4 F h pc m)))) (B:blk 1216256448=(1,some (.arr 3 1 (bt (List.replicate (2*I h) 0))))) (Y:blk 1216256960=(1,some (.arr 3 1 (bt (gb h F))))) (gp:a8 1216896448 lK 7 (dB (aA h)) (.one pc) blk) (gf:a8 1216064064 Bs 5 (qO (fB F h)) (.one m) blk)
  (hq:∀v A,v 6=j 6->A 1216257088=(1,some (.var (L4 F h pc m)))->A 1216256448=(1,some (.arr 3 1 (bt (kX F h))))->A 1216256960=(1,some (.arr 3 1 (bt (gb h F))))->a8 1216896448 lK 7 (dB (aA h)) (.one pc) A->a8 1216064064 Bs 5 (qO (fB F h)) (.one m) A->W S .all Ow Q v A):
  W S .all Qx Q j blk:=by
 have ok:=g.ok;have hl:=ok.hl;have am:=g.len;have iM:I (ay h)<=I h:=uW h (I h);have fJ:nD h<=4000000:=by unfold nD;omega
 have qM:I (fB F h)<=nD h:=by rw[fB,bG];exact K9 (aO h) (nD h) _
 obtain⟨g0,Wf⟩:∃u,m=.hsl 1216064064 u 5 0 (I (fB F h)):=by
  rcases gf with⟨e,_⟩|⟨_,u,e,hb⟩
  .have h1:I (fB F h)=0:=by simpa using congrArg List.length e
   rw[ajW,g.nw]at h1;omega
  cases e;exact⟨u,by rw[bG]⟩
 have DT:=h4;rw[Wf]at DT;simp only[go_sem,Qx,DT];refine df (λk v A=>v 6=j 6/\v 78=.one m/\v 79=aE (I (fB F h))/\v 80=aE k/\A 1216257088=(1,some (.var (L4 F h pc m)))/\A 1216256448=(1,some (.arr 3 1 (bt (qe ((fB F h).take k) 0 (List.replicate (2*I h) 0)))))/\A 1216256960=(1,some (.arr 3 1 (bt (gb h F))))/\
   a8 1216896448 lK 7 (dB (aA h)) (.one pc) A/\a8 1216064064 Bs 5 (qO (fB F h)) (.one m) A) 0 (I (fB F h)) (bN _) ?_ ?_
 .simp only[go_sem,bB,B,Y,qe,Wf];exact⟨rfl,gp,by first|exact gf|(rw[<-Wf];exact gf)⟩
 rintro k v A hk ⟨q6,ag,x,H,bB,B,Y,gp,gf⟩
 rw[h6]at q6;by_cases Z:k<I (fB F h)
 .have aL:((k:Int)<(I (fB F h):Int)):=J;obtain⟨f,hf⟩:=aM Z;have uQ:=aX hf;have A6:=Vf ok uQ;have Kj:=Xy uQ;have w1:=cE (n:=k) J;have nO:qe ((fB F h).take (k+1)) 0 (List.replicate (2*I h) 0)=qI (qe ((fB F h).take k) 0 (List.replicate (2*I h) 0)) f.cT k:=by
   rw[jB,hf];show qe (_++[f]) 0 _=_;rw[aqz,jw,v7 J,jO]
  have R:I (qe ((fB F h).take k) 0 (List.replicate (2*I h) 0))=2*I h:=by rw[SO,K7]
  generalize qe ((fB F h).take k) 0 (List.replicate (2*I h) 0)=L at B nO R;obtain⟨u,wX,bf⟩:∃u,m=.hsl 1216064064 u 5 0 (I (qO (fB F h)))/\A 1216064064=(u,some (.arr Bs 5 (qO (fB F h)))):=by
   rcases gf with⟨e,_⟩|⟨_,u,e,hb⟩
   .grind
   cases e;exact⟨u,rfl,hb⟩
  rw[bG]at wX;have Wc:=ag;rw[wX]at Wc;simp only[go_sem,Ok,Wc,x,H,bf,Mr hf,c9.ps,Z,aL];refine df (λz D y=>D 6=.one (.bh 1216257088 1 0)/\D 11=aE k/\D 78=.one m/\D 79=aE (I (fB F h))/\D 80=aE k/\D 86=.one (.p (.sl (bt f.cT)))/\D 87=aE (I f.cT)/\D 88=aE z/\
   y 1216257088=(1,some (.var (L4 F h pc m)))/\y 1216256448=(1,some (.arr 3 1 (bt (qI L (f.cT.take z) k))))/\y 1216256960=(1,some (.arr 3 1 (bt (gb h F))))/\a8 1216896448 lK 7 (dB (aA h)) (.one pc) y/\a8 1216064064 Bs 5 (qO (fB F h)) (.one m) y) 0 (I f.cT) (bN _) ?_ ?_
  .simp only[go_sem,q6,wX,Wc,x,H,bB,B,Y,qI,LV];refine⟨rfl,gp.of_eq (cF aa),?_⟩;first|exact gf.of_eq (cF aa)|(rw[<-wX];exact gf.of_eq (cF aa))
  rintro z D y hj ⟨p6,ac,E,N,X,ab,M,T,cB,sO,cC,cp,aJ⟩
  by_cases qo:z<I f.cT
  .have Ed:((z:Int)<(I f.cT:Int)):=J;obtain⟨d,hd⟩:=aM qo;have O:=Kj d (aX hd);have w2:=cE (n:=z) J;have iG:(qI L (f.cT.take z) k).set d k=qI L (f.cT.take (z+1)) k:=by rw[jB,hd,apa];rfl
   have iW:=Jm (qI L (f.cT.take z) k) d k;rw[iG]at iW;obtain⟨v0,ad⟩:=aM (h:=qI L (f.cT.take z) k) (by rw[RH,R];exact O);simp only[go_sem,W9,p6,ac,E,N,X,ab,M,T,cB,sO,cC,qo,Ed,iY hd,O,iY ad,iW,w2];exact⟨cp.of_eq (cF aa),aJ.of_eq (cF aa)⟩
  have:z=I f.cT:=J;subst this;rw[jz,<-nO]at sO;simp only[go_sem,W9,agI,p6,E,N,X,M,T,cB,sO,cC,ff,w1,Z,h6];exact⟨cp,aJ⟩
 have:k=I (fB F h):=J;subst this;rw[jz]at B;simp only[go_sem,Ok,x,H,ff];exact hq _ _ (by simp only[go_sem,q6,h6]) bB B Y gp gf
def X5(g:a_ F h):aI S 19 [fc F h] (wi (ez F h) (.int .i64 0)):=by
 have ok:=g.ok;have hl:=ok.hl;have ag:=g.len;have sM:=g.fing;have pf:=auv g;have ad:=Yb F h hl;have CA:=aah F h hl;have lo:S.lone 1216064064=false:=ah;have m2:=qg (a:=I h) J;have wF:=cE (n:=F) J;have r1:2*I h*8<=140737488355328:=J;have r2:(F+1)*8<=140737488355328:=J;have e1:List.replicate (2*I h) [PV.int .i64 0]=bt (List.replicate (2*I h) 0):=aH;have e2:List.replicate (F+1) [PV.int .i64 0]=bt (rz h F 0):=by rw[Y3];simp
 refine bR adv ?_;simp only[go_sem,Wy,ahA];refine ajn pf lo λcf lO wX iw=>?_;have MC:=iw 1216000000 aa;simp only[go_sem]at MC;simp only[go_sem,MC,m2,wF,r1,r2,Th,aal,vn ad,vn CA,e1,e2];refine⟨aS,?_⟩;have Y:=λam a b=>(iw am a).trans (cF b);have D:=Y 1216256448 aa aa;have z2:=Y 1216256960 aa aa;have z3:=Y 1216257088 aa aa;refine df (λk j blk=>j 4=.one cf/\j 6=.one (.bh 1216257088 1 0)/\j 7=iI (dn h k)/\j 42=.one (.p (od h))/\j 43=aE (I h)/\j 44=aE k/\
   blk 1216256448=(1,some (.arr 3 1 (bt (List.replicate (2*I h) 0))))/\blk 1216256960=(1,some (.arr 3 1 (bt (rz h F k))))/\
   ∃pc,blk 1216257088=(1,some (.var (L4 F h pc cf)))/\a8 1216896448 lK 7 (dB ((aA h).take k)) (.one pc) blk/\a8 1216064064 Bs 5 (qO (fB F h)) (.one cf) blk) 0 (I h) (bN _) ?_ ?_
 .simp only[go_sem,D,z2,z3];refine⟨rfl,rfl,.p .nils,rfl,.inl ⟨rfl,rfl⟩,wX.of_eq ?_⟩;simp only[go_sem]
 rintro k j blk hk ⟨R,m,h7,M,N,y,O,v,pc,bB,gp,gf⟩
 by_cases X:k<I h
 .obtain⟨l,f⟩:=aM X;have hi:=jh f;have aL:((k:Int)<(I h:Int)):=J;have w1:=cE (n:=k) J;have L:=gZ f;cases hp:(l.kind==1)
  case' false=>
   have E:l.aw=false:=hp;have ot:dw h k=false:=by simp[dw,f,E]
   rw[ot]at L;have hd:=JJ f E;have uL:=adt (F:=F) f E;have nO:dB ((aA h).take (k+1))=dB ((aA h).take k)++[(aK.mk l false).ps]:=by rw[jB,L];simp
   simp only[go_sem,Lr,m,M,N,y,hi,U.ps,aL,hp,bB];refine uC (B:=[(aK.mk l false).ps]) (rd:=[1216896384]) (gp.of_eq (by simp only[ba,Nat.reduceEqDiff,if_false])) (by simp[gP,ba,aK.ps]) (.inl rfl) (by simp only[bG,fG,gk,jw,cZ];omega) λc Q r u hc x hr=>?_;have T:∀i,i≠1216896448->i≠1216896384->i≠1216576128->i≠1216512128->i≠1216256960->Q i=blk i:=λi a b c d e=>(x i a a).trans (by simp only[ba,ai b,ai c,ai d]);have z:=(x 1216256960 aa aa);simp only[ba,Nat.reduceEqDiff,if_false,v]at z;have Z:=(T 1216257088 aa aa aa aa aa).trans bB;have B:=(T 1216256448 aa aa aa aa aa).trans O;simp only[go_sem,R,m,h7,M,N,y,Z,B,z,w1,hd,uL,X]
  case' true=>
   have E:l.aw:=hp;have ot:dw h k=dn h k:=by simp[dw,f,E]
   rw[ot]at L;have hd:=Dy f E;have nO:dB ((aA h).take (k+1))=dB ((aA h).take k)++[(aK.mk l (dn h k)).ps]:=by rw[jB,L];simp
   have sN:=ok.ax.eO l (aX f) E;obtain⟨G,hG⟩:=lB sN.g0;have DU:G<=F:=by have:=sN.g1;omega
   have DV:G<F+1:=J;have qL:=iY (agc (h:=h) (k:=k) DU);have dS:aJ (h.take k) G<=k:=yU _ _ _;have w2:=cE (n:=aJ (h.take k) G) J;have H:=Jm (rz h F k) G (aJ (h.take k) G+1);rw[<-ahv f E hG]at H;simp only[go_sem,Lr,m,h7,M,N,y,hi,U.ps,aL,hp,hG,bB,v,qL,DV,w2,H];refine⟨aS,?_⟩;refine uC (B:=[(aK.mk l (dn h k)).ps]) (rd:=[1216896384]) (gp.of_eq (by simp only[ba,Nat.reduceEqDiff,if_false])) (by simp[gP,ba,aK.ps,hG]) (.inl rfl) (by simp only[bG,fG,gk,jw,cZ];omega) λc Q r u hc x hr=>?_;have T:∀i,i≠1216896448->i≠1216896384->i≠1216576128->i≠1216512128->i≠1216256960->Q i=blk i:=λi a b c d e=>(x i a a).trans (by simp only[ba,ai b,ai c,ai d,ai e])
   have z:=(x 1216256960 aa aa);simp only[ba,Nat.reduceEqDiff,if_false,if_true,v]at z;have Z:=(T 1216257088 aa aa aa aa aa).trans bB;have B:=(T 1216256448 aa aa aa aa aa).trans O;simp only[go_sem,R,m,h7,M,N,y,Z,B,z,w1,hd,X]
  all_goals
   refine⟨?_,?_⟩
   .rcases hr with⟨rfl,rfl⟩|⟨rfl,rfl⟩|⟨rfl,rfl⟩<;>kernel_rfl
   refine⟨c,rfl,?_,?_⟩
   .rw[nO];exact hc.of_eq (cF aa)
   exact gf.of_eq ((cF aa).trans (T _ aa aa aa aa aa))
 have:k=I h:=J;subst this;rw[fL (by rw[cZ];exact ct _)]at gp;rw[Zb]at v;simp only[go_sem,Lr,N,y,ff];refine asE g ?_ ?_ bB O v gp gf ?_
 .simp only[go_sem,R]
 .simp only[go_sem,m]
 intro aF ak q6 cB sO cC ac ab;simp only[go_sem,m]at q6;obtain⟨rp,np,_⟩:=ac.Yv (n:=4);obtain⟨rf,nf,_⟩:=ab.Yv (n:=4);have A:List.take (2*I h) (bt (kX F h))=bt (kX F h):=fL (by simp[kX,SO]);have t2:List.take (F+1) (bt (gb h F))=bt (gb h F):=fL (by simp[gb]);have n1:2*I h<=I (kX F h):=by simp[kX,SO]
 have n2:F+1<=I (gb h F):=by simp[gb]
 simp only[go_sem,Ow,q6];simp only[go_sem,lr,tq,wI,oN,nE,l7,cB,sO,cC,np,nf,A,t2,n1,n2];rfl
def oL{x:Int}(n: -9223372036854775808<=x)(m:x<=9223372036854775807):IntKind.i64.wrap x=x:=by
 have e:(2 ^ IntKind.i64.bits:Int)=18446744073709551616:=aa;have E:(2 ^ (IntKind.i64.bits-1):Int)=9223372036854775808:=aa;unfold IntKind.wrap;simp[e,E];by_cases h:0<=x
 .grind
 have j:x%18446744073709551616=x+18446744073709551616:=J;rw[j];have H:x+18446744073709551616≥9223372036854775808:=J;have f:IntKind.i64.signed:=rfl;simp[H,f]
def Ni(l:aU):jq 7 (dB l):=by simp[jq,aK.ps]
def xm(l:aU):((dB l).all λe=>e.all PV.scalar):=by simp[aK.ps,PV.scalar]
def asN(l:aU):∀e∈dB l,I e=7/\ ∀v∈e,v.norm=v:=λe H=>by obtain⟨a,_,rfl⟩:=cD.1 H;exact⟨rfl,λv h=>by simp[aK.ps]at h;rcases h with rfl|rfl|rfl|rfl|rfl|rfl|rfl<;>rfl⟩
abbrev ft(l x:aU)(k:Nat):aU:=l.take (k+1)++x++l.drop (k+1)
def Sv(a b:aU):dB (a++b)=dB a++dB b:=aH
def Ge(l x:aU)(k:Nat)(z:k<I l)(hl:I l<=1000000)(y:I x<=1000000):
  aI S 109 [.one (.p (.sl (dB l))),aE k,.one (.p (.sl (dB x)))] (.one (cP lK 7 (dB (ft l x k)))):=by
 have f:=cE (n:=k) J;have D:k+1<=I l:=J;have ae:=Ni l;have j:List.take (k+1) (dB l)=dB (l.take (k+1)):=by simp[sh]
 have H:List.take (I l-(k+1)) (List.drop (k+1) (dB l))=dB (l.drop (k+1)):=by rw[fL aH];simp[uy]
 refine bR apv ?_;simp only[go_sem,aeQ,f,D,ae,j];refine ri (id:=6976064256) a8.nil rfl (.inr (Ni _)) (by simp;omega) λc1 v g1 A=>?_;simp only[go_sem];refine ri g1 rfl (.inr (Ni _)) (by simp;omega) λu E m B=>?_;simp only[go_sem,f,D,ae,H];refine ri m rfl (.inr (Ni _)) (by simp;omega) λc3 L h F=>?_;simp only[go_sem];rw[fz,<-Sv,<-Sv]at h;exact xT h
def awp(p:aK)(t:aU)(hl:I (p::t)<=1000000):aI S 108 [.one (.p (.sl (dB (p::t))))] (.one (cP lK 7 (dB (p::t)))):=by
 have ae:=Ni (p::t);have h:(0+I (dB (p::t)))*56<=lS:=by unfold lS;rw[bG];omega
 refine bR aoW ?_;obtain⟨E,u,hq⟩:∃E u,dB (p::t)=E::u:=⟨_,_,rfl⟩;rw[hq]at ae h |-;have z:cP lK 7 (E::u)=.own lK 7 (E::u):=ai aH;unfold lS at h;simp at h;simp only[jq,v_]at ae;simp only[go_sem,aaT,iQ,jq];simp[ae,h,not_true_eq_false];simp only[go_sem];exact KX w_ rfl
def ch(g A b:Int)(p:aK):aK:=if(p.l.kind==1)&&((p.l.gate==g)&&decide (A<p.l.ao))then{p with l:={p.l with ao:=p.l.ao+b}}else p
abbrev eL(l:aU)(g ab b:Int):aU:=l.map (ch g ab b)
def anQ(id:Nat)(u:dh)(c:a7)(blk:aG)(v:V)(A:aG):Prop:=v=.tup []/\a8 id lK 7 u (.one c) A/\dL (· =id) blk A
def aqw{al:bU}{blk:aG}{id:Nat}{l:aU}{c:a7}{g A b:Int}(o:l=[]\/al.ok id)(hl:I l<=1000000)(hb: -100<=b/\b<=100)(hr:∀p∈l,-1000000<=p.l.ao/\p.l.ao<=1000000)(h:a8 id lK 7 (dB l) (.one c) blk):
  ∃v f,jG S 106 [.one c,aE g,aE A,aE b] al blk v f/\anQ id (dB (eL l g A b)) c blk v f:=by
 refine oX auu (jx rfl) ?_;rcases h with⟨z,H⟩|⟨aN,Y,H,hC⟩
 .cases H;have HO:l=[]:=by simpa using z
  subst HO;have hz:¬(((0:Nat):Int)<((0:Nat):Int)):=J;simp only[go_sem,TM];refine df (λk j f=>k=0/\j 10=aE ((0:Nat):Int)/\j 11=aE ((0:Nat):Int)/\f=blk) 0 0 (ct _) ?_ ?_
  .simp only[go_sem];exact rfl
  rintro k j f _ ⟨rfl,u,R,rfl⟩
  simp only[go_sem,F6,u,R,hz];exact⟨rfl,.inl ⟨rfl,rfl⟩,λ_ _=>rfl⟩
 cases H;have o:=o.resolve_left (by simpa using aN);simp only[go_sem,TM];refine df (λk j f=>j 0=.one (.hsl id Y 7 0 (I l))/\j 1=aE g/\j 2=aE A/\j 3=aE b/\j 10=aE (I l)/\j 11=aE k/\f id=(Y,some (.arr lK 7 (dB ((eL (l.take k) g A b)++l.drop k))))/\dL (· =id) blk f) 0 (I l) (bN _) ?_ ?_
 .simp only[go_sem,hC];refine⟨?_,?_⟩
  .simp[]
  exact dL.refl _ _
 rintro k j f hk ⟨O,z,H,X,u,R,y,E⟩
 by_cases L:k<I l
 .have T:((k:Int)<(I l:Int)):=J;obtain⟨p,hp⟩:=aM L;have N:=cE (n:=k) J;obtain⟨r1,r2⟩:=hr p (aX hp);have wr:=oL (x:=p.l.ao+b) J J;have B5:l.drop k=p::l.drop (k+1):=by
   obtain⟨hh,rfl⟩:=bd.1 hp;exact L5 hh
  have M:I ((eL (l.take k) g A b)++l.drop k)=I l:=by simp[eL];omega
  have Z:((eL (l.take k) g A b)++l.drop k)[k]?=some p:=by
   rw[o_ (by simp[eL];omega)];have:k-I (eL (l.take k) g A b)=0:=by simp[eL];omega
   rw[this,B5];rfl
  have iG:((eL (l.take k) g A b)++l.drop k).set k (ch g A b p)=(eL (l.take (k+1)) g A b)++l.drop (k+1):=by
   have e1:I (eL (l.take k) g A b)=k:=by simp[eL];omega
   rw[Mi _ _ J,e1,xf,B5,SY,jB,hp];simp[eL]
  have D:=ju Z;have F:dB (((eL (l.take k) g A b)++l.drop k).set k (ch g A b p))=(dB ((eL (l.take k) g A b)++l.drop k)).set k (ch g A b p).ps:=by simp[dB,vd]
  rw[iG]at F;have Q:ch g A b p=p->dB ((eL (l.take k) g A b)++l.drop k)=dB ((eL (l.take (k+1)) g A b)++l.drop (k+1)):=λe=>by rw[F,e];obtain⟨hh,he⟩:=bd.1 D;rw[<-he,Se]
  generalize(eL (l.take k) g A b)++l.drop k=m at y Z D F Q M;have iN:k<I (dB m):=by rw[bG];omega
  cases c1:(p.l.kind==1)with
  |false=>simp only[go_sem,F6,O,z,H,X,u,R,y,D,aK.ps,L,T,c1,N,o];exact⟨by rw[Q (by unfold ch;rw[c1];rfl)],E⟩
  |true=>
   cases B:(p.l.gate==g)with
   |false=>simp only[go_sem,F6,O,z,H,X,u,R,y,D,aK.ps,L,T,c1,B,N,o];exact⟨by rw[Q (by unfold ch;rw[c1,B];rfl)],E⟩
   |true=>
    by_cases c3:A<p.l.ao
    .have e:(ch g A b p).ps=[.int .i64 p.l.kind,.int .i64 p.l.gate,.int .i64 (p.l.ao+b),.int .i64 p.l.id,.int .i64 p.l.sign,.bool p.l.over,.bool p.d]:=by unfold ch;rw[c1,B,xq c3];rfl
     rw[e]at F;simp only[go_sem,F6,O,z,H,X,u,R,y,D,aK.ps,L,T,c1,B,c3,N,wr,o];refine⟨?_,?_⟩
     .first|rw[F]|(rw[F];rfl)
     exact E.dN rfl _
    simp only[go_sem,F6,O,z,H,X,u,R,y,D,aK.ps,L,T,c1,B,c3,N,o];exact⟨by rw[Q (by unfold ch;rw[c1,B,zc c3];rfl)],E⟩
 have:k=I l:=J;subst this;simp only[go_sem,F6,u,R,ff];refine⟨rfl,?_,E⟩;rw[jz,KT,i_]at y;exact .inr ⟨by simpa using aN,Y,by simp[eL],y⟩
def ya(p:aK):Bool:=(p.l.kind==1)&&p.d
def Ep(l:aU)(i:Nat):Bool:=match l[i]? with|some p=>ya p|none=>false
def FJ{l:aU}{i:Nat}{p:aK}(h:l[i]?=some p):Ep l i=ya p:=by simp[Ep,h]
def mh(l:aU):dZ:=(List.range (I l)).find? (Ep l)
def atd(p:aK):aI S 79 [.agg (p.ps.map .p)] (eh (ya p)):=by
 refine bR axp ?_;unfold ya;cases h:(p.l.kind==1)with
 |true=>simp only[go_sem,Uo,aK.ps,h]
 |false=>simp only[go_sem,Uo,aK.ps,h]
def aq6(l:aU)(hl:I l<=1000000):aI S 78 [.one (.p (.sl (dB l))),.one (.p (.fn 79 [] []))] (jv (match mh l with|some k=>(k:Int)|none=> -1)):=by
 refine bR apf ?_;simp only[go_sem,aik];refine df (λk j blk=>j 0=.one (.p (.sl (dB l)))/\j 1=.one (.p (.fn 79 [] []))/\j 7=aE (I l)/\j 8=aE k/\ ∀B,B<k->Ep l B=false) 0 (I l) (bN _) ?_ ?_
 .simp only[go_sem];exact⟨rfl,λB F=>absurd F (nJ B)⟩
 rintro k j blk L ⟨u,z,H,h,x⟩
 by_cases A:k<I l
 .have y:((k:Int)<(I l:Int)):=J;obtain⟨p,hp⟩:=aM A;have D:=ju hp;have E:=cE (n:=k) J;have f:=atd p;have m:=FJ hp;cases v:ya p with
  |true=>rw[v]at f m;have hf:mh l=some k:=BY A x m;simp only[aK.ps,eQ,oO]at f;simp only[go_sem,PX,u,z,H,h,y,D,aK.ps,aey,eU f,hf]
  |false=>
   rw[v]at f m;simp only[aK.ps,eQ,oO]at f;simp only[go_sem,PX,u,z,H,h,A,y,D,aK.ps,aey,eU f,E]
   grind
 have:k=I l:=J;subst this;have hf:mh l=none:=Gn x;simp only[go_sem,PX,acs,H,h,ff,hf]
abbrev p_:Nat:=61
def tA(l:aU)(A k:Nat):af:=(List.range k).map λi=>(l.getD ((A+i)%I l) ⟨ga,false⟩).l
def az1{l:aU}{f k:Nat}{p:aK}(h:l[(f+k)%I l]?=some p):tA l f (k+1)=tA l f k++[p.l]:=by simp[tA,mD,dz,h]
def cL(l:aU):af:=tA l ((mh l).getD 0) (I l)
abbrev dQ(o:af):dh:=o.map U.ps
def Ft{c:a7}{x:PV}{blk:aG}(h:a8 H A D u (.one c) blk):lr blk (.agg [.p x,c])=some (.agg [.p x,cP A D u]):=by obtain⟨n,o,m,f,j⟩:=h.l7;cases m;rcases j with rfl|rfl<;>simp[lr,tq,oN,nE,f,(show Go.Abs.l7 blk (.p x)=some _ from rfl),n9,vt,sX]
def aiv(F:Nat)(l:aU)(hl:I l<=1000000)(x1 x2 x3 x4 x5 x6:PV):aI S 47 [.one (.p (.box [.int .i64 F,x1,x2,x3,x4,x5,x6])),.one (.p (.sl (dB l)))] (.agg [.p (.int .i64 F),cP p_ 6 (dQ (cL l))]):=by
 have x:=aq6 l hl;have L:∃f,(mh l).getD 0=f/\(l≠[]->f<I l):=by
  refine⟨_,rfl,λaN=>?_⟩;cases h:mh l with
  |none=>exact gA.2 aN
  |some k=>exact fA.1 (Cv h)
 obtain⟨f,hf,R⟩:=L;have mZ:((mh l=none/\f=0)\/mh l=some f):=by grind
 unfold cL;rw[hf];have m:∀(j:bj) (blk:aG),j 1=.one (.p (.sl (dB l)))->j 4=.one (.bh 3008000000 1 0)->j 5=.one (.bh 3008064320 1 0)->j 6=aE f->j 17=aE (I l)->j 18=aE ((0:Nat):Int)->blk 3008000000=(1,some (.var [.p (.int .i64 0),.p .nils]))->blk 3008064320=(1,some (.var [.p (.int .i64 F),.p .nils]))->
   W S .all (.loop Qv) (se 0 (CM S .all Zk (tU .all [(4,some (some 2))] λv blk=>lr blk v=some (.agg [.p (.int .i64 F),cP p_ 6 (dQ (tA l f (I l)))])))) j blk:=by
  intro j blk e1 e4 Z e6 Hg JH y B;refine df (λk j blk=>j 1=.one (.p (.sl (dB l)))/\j 4=.one (.bh 3008000000 1 0)/\j 5=.one (.bh 3008064320 1 0)/\j 6=aE f/\j 17=aE (I l)/\j 18=aE k/\blk 3008000000=(1,some (.var [.p (.int .i64 0),.p .nils]))/\ ∃c,blk 3008064320=(1,some (.var [.p (.int .i64 F),c]))/\a8 3008384832 p_ 6 (dQ (tA l f k)) (.one c) blk) 0 (I l) (bN _) ⟨e1,e4,Z,e6,Hg,JH,y,.p .nils,B,.inl ⟨rfl,rfl⟩⟩ ?_;rintro k j blk hk ⟨O,N,H,T,z,A,y,c,B,Q⟩
  by_cases aB:k<I l
  .have aL:((k:Int)<(I l:Int)):=J;have R:=R (gA.1 J);have Y:=cE (n:=k) J;have w2:=rX (a:=f) (b:=k) J;have e2:=ve (f+k) (I l);have hm:=cJ (f+k) (show 0<I l by omega);obtain⟨p,hp⟩:=aM hm;have X:=ju hp;have hz:¬((I l:Int)=0):=J;have hr:=az1 hp;have E:I (tA l f k)=k:=by simp[tA]
   simp only[go_sem,Qv,O,H,T,z,A,B,aL,w2,e2,hz,X,aK.ps];refine uC (B:=[p.l.ps]) (rd:=[3008384768]) (Q.of_eq (cF aa)) (by simp[gP,ba,U.ps]) (.inl rfl) (by simp only[bG,E,fG,gk];omega) λc' cK r u hc M D=>?_;simp only[go_sem,O,N,H,T,z,A,(M 3008064320 aa aa).trans ((cF aa).trans B),(M 3008000000 aa aa).trans ((cF aa).trans y),aB,Y];refine⟨?_,c',rfl,?_⟩
   .rcases D with⟨rfl,rfl⟩|⟨rfl,rfl⟩|⟨rfl,rfl⟩<;>kernel_rfl
   rw[hr,dQ,fE];exact hc.of_eq (cF aa)
  have:k=I l:=J;subst this;simp only[go_sem,Qv,Zk,N,H,z,A,B,y,ff];exact Ft (Q.of_eq (cF aa))
 refine bR arB ?_;rcases mZ with⟨hn,rfl⟩|ae
 .rw[hn]at x;have N6:¬((0:Int)< -1):=aa;simp only[go_sem,Xb,abN,hI x];exact m _ _ (by simp only[go_sem]) (by simp only[go_sem]) (by simp only[go_sem]) (by simp only[go_sem];rfl) (by simp only[go_sem]) (by simp only[go_sem];rfl) (by simp only[go_sem]) (by simp only[go_sem])
 rw[ae]at x;simp only[go_sem,Xb,abN,hI x];exact m _ _ (by simp only[go_sem]) (by simp only[go_sem]) (by simp only[go_sem]) (by simp only[go_sem];split<;>(first|rfl|(congr 1;simp;omega))) (by simp only[go_sem]) (by simp only[go_sem];rfl) (by simp only[go_sem]) (by simp only[go_sem])
def adD:aI S 45 [] (.agg [.p .xx,.p (.fn 69 [] []),.p (.fn 70 [] []),.p (.fn 71 [] []),.p (.fn 72 [] []),.p (.fn 73 [] []),.p (.fn 74 [] []),.p (.fn 75 [] []),.p (.fn 76 [] []),.p (.fn 77 [] []),.p (.fn 77 [] [])]):=by refine bR atf ?_;simp only[go_sem,age];rfl
def gK(k:Int):Int×Int:=if k=2 then(2,0)else if k=5 then(2,1)else if k=7 then(4,2)else(0,0)
def aim(k:Int):aI S 46 [aE k] (.tup [.one (.p (.int .i64 (gK k).1)),.one (.p (.int .i64 (gK k).2))]):=by
 refine bR ayU ?_;unfold gK;by_cases f:k=2
 .subst f;simp only[go_sem,i46];rfl
 by_cases H:k=5
 .subst H;simp only[go_sem,i46];rfl
 by_cases h:k=7
 .subst h;simp only[go_sem,i46];rfl
 rw[ai f,ai H,ai h];have E:(k==2)=false:=by simpa using f
 have m:(k==5)=false:=by simpa using H
 have j:(k==7)=false:=by simpa using h
 simp only[go_sem,i46,E,m,j];rfl
def Qa(F:Nat)(x:Nat)(sg:Int)(ov:Bool)(f j h x4 X:PV)(k:Nat)(m:x<=1000000)(H:k<=10):aI S 113 [.one (.p (.box [.int .i64 F,f,j,h,x4,.int .i64 x,X])),aE k,aE sg,iI ov] (.agg [.p (.int .i64 2),.p (.int .i64 0),.p (.int .i64 0),.p (.int .i64 ((x+k:Nat):Int)),.p (.int .i64 sg),.p (.bool ov),.p (.bool false)]):=by refine bR arT ?_;simp only[go_sem,aeU,rX (a:=x) (b:=k) J];rfl
def BW(o:pB)(p:Nat×Nat)(i:Nat):Bool:=o[i]?==some p
def ao4(o:pB)(p:Nat×Nat)(hl:I o<=1000000):aI S 138 [.one (.p (.sl (kM o))),.agg [.p (.int .i64 p.1),.p (.int .i64 p.2)]] (jv (match (List.range (I o)).find? (BW o p)with|some k=>(k:Int)|none=> -1)):=by
 refine bR aqZ ?_;simp only[go_sem,aew];refine df (λk j blk=>j 0=.one (.p (.sl (kM o)))/\j 3=.one (.bh 8832000000 1 0)/\blk 8832000000=(1,some (.var [.p (.int .i64 p.1),.p (.int .i64 p.2)]))/\j 7=aE (I o)/\j 8=aE k/\ ∀m,m<k->BW o p m=false) 0 (I o) (bN _) ?_ ?_
 .simp only[go_sem];exact⟨rfl,λm F=>absurd F (nJ m)⟩
 rintro k j blk Q ⟨u,v,B,f,H,z⟩
 by_cases A:k<I o
 .have x:((k:Int)<(I o:Int)):=J;obtain⟨q,hp⟩:=aM A;have D:=anf hp;have y:=cE (n:=k) J;have M:BW o p k=decide (q=p):=by
   simp only[BW,hp];by_cases h:q=p<;>simp[h]
  by_cases L:q=p
  .subst L;simp only[go_sem,Mq,u,v,B,f,H,x,D,BY A z (by rw[M];simp),nT,nZ];exact aS
  have N:((p.1:Int)==(q.1:Int))=false\/(((p.1:Int)==(q.1:Int))/\((p.2:Int)==(q.2:Int))=false):=by grind
  have Y:∀m,m<k+1->BW o p m=false:=λm F=>by grind
  rcases N with E|⟨E,O⟩
  .simp only[go_sem,Mq,u,v,B,f,H,A,x,D,y,nT,nZ,E];exact⟨aS,Y⟩
  simp only[go_sem,Mq,u,v,B,f,H,A,x,D,y,nT,nZ,E,O];exact⟨aS,Y⟩
 have:k=I o:=J;subst this;simp only[go_sem,Mq,adk,f,H,ff,Gn z]
def akR(o:pB)(p:Nat×Nat)(hl:I o<=1000000):aI S 107 [.one (.p (.sl (kM o))),.agg [.p (.int .i64 p.1),.p (.int .i64 p.2)]] (eh (decide (p∈o))):=by
 have f:=ao4 o p hl;refine bR aq1 ?_;by_cases h:p∈o
 .obtain⟨k,H⟩:=fX h;cases hf:(List.range (I o)).find? (BW o p)with
  |none=>have:=CR.1 hf k (fA.2 ((bd.1 H).1));simp[BW,H]at this
  |some j=>rw[hf]at f;have m:(0:Int)<=(j:Int):=J;simp only[go_sem,Ts,acU,hI f,m,h]
 cases hf:(List.range (I o)).find? (BW o p)with
 |some j=>
  have n:=CO hf
  grind [BW]
 |none=>rw[hf]at f;have m:¬(0:Int)<= -1:=aa;simp only[go_sem,Ts,acU,hI f,m,h]
def MJ{l:aU}(A:l≠[])(hl:I l<=1000000):aI S 108 [.one (.p (.sl (dB l)))] (.one (cP lK 7 (dB l))):=by
 cases l with
 |nil=>exact absurd rfl A
 |cons p t=>exact awp p t hl
section
variable {Q:gX} {j:bj} {blk:aG} {os:fm} {d:dZ}
def ID{id:Nat}{l:aU}{c:a7}{g f b:Int}(hl:I l<=1000000)(x: -100<=b/\b<=100)(u:∀p∈l,-1000000<=p.l.ao/\p.l.ao<=1000000)(H:a8 id lK 7 (dB l) (.one c) blk)
  (z:∀A,a8 id lK 7 (dB (eL l g f b)) (.one c) A->(∀i,i≠id->A i=blk i)->jP S .all os Q (ef j d (.tup [])) A):jD S .all (.sc 106 [.one c,aE g,aE f,aE b]) d os Q j blk:=by
 have m:l=[]\/(iH (S.ctx .all) 106 [.one c,aE g,aE f,aE b] blk).ok id:=by
  rcases Si H with _|h
  .simp_all
  exact .inr (BD (by simp[h]))
 refine wN Cp (aqw m hl x u H) ?_;rintro v A ⟨rfl,y,n⟩
 exact z A y n
end
def alI(fs:BC):∀(j:Nat) (L:aC),∀v∈qe fs j L,v∈L\/v<j+I fs:=by
 have n:∀(D:aC) (L:aC) (x:Nat),∀v∈qI L D x,v∈L\/v=x:=by
  intro D
  induction D with
  |nil=>intro L x v h;exact .inl h
  |cons d D m=>
   intro L x v h;rcases m _ x v h with h|h
   .grind
   exact .inr h
 induction fs with
 |nil=>intro j L v h;exact .inl h
 |cons f r m=>
  intro j L v h;rcases m _ _ v h with h|h
  .grind
  grind
def LY:c9:=⟨false,[],[],[],false⟩
def gv(F:Nat)(h:af)(d:Nat):c9:=(fB F h).getD ((kX F h).getD d 0) LY
def Gf(F:Nat)(h:af):I (kX F h)=2*I h:=by simp[kX,SO]
def KL(g:a_ F h){d:Nat}(H:d<2*I h):∃j,(kX F h)[d]?=some j/\(fB F h)[j]?=some (gv F h d)/\j<I (fB F h):=by
 obtain⟨j,f⟩:=aM (h:=kX F h) (by rw[Gf];exact H);have n:0<I (fB F h):=by rw[ajW,g.nw];omega
 have v:j<I (fB F h):=by
  rcases alI _ 0 _ j (aX f)with m|m
  .grind
  omega
 grind [gv]
def iK(b:Nat)(r:Int)(d:Bool):aK:=⟨⟨1,b,r,0,0,false⟩,d⟩
def wD(h:af)(m b c:Nat)(f:c9)(j:Bool):aU:=ft (eL (aA h) b c 2) [iK b (if f.gh !=j then((c+2:Nat):Int)else((c+1:Nat):Int)) f.gh,iK b (if f.gh !=j then((c+1:Nat):Int)else((c+2:Nat):Int)) (!f.gh)] m
def og(F:Nat)(h:af)(m b c:Nat):Option aU:=
 if(b,c)∈(gv F h (2*m)).places then some (wD h m b c (gv F h (2*m)) false)
 else if(b,c)∈(gv F h (2*m+1)).places then some (wD h m b c (gv F h (2*m+1)) true)else none
def te (o:Option aU):RV:=.tup [.one (cP lK 7 (dB (o.getD []))),.one (.p (.bool o.isSome))]
def KA(g:a_ F h):∀p∈aA h,-1000000<=p.l.ao/\p.l.ao<=1000000:=by
 intro p hp;obtain⟨i,H⟩:=fX hp;obtain⟨l,hl⟩:=aM (by rw[<-cZ];exact(bd.1 H).1);rw[gZ hl]at H;cases H;rcases g.ok.kinds l (aX hl)with j|j
 .have f:=g.ok.ax.eO l (aX hl) j;have:=f.r0;have:=f.r1;have m:aJ h l.gate.toNat<=I h:=tH _ _;have:=g.len;simp only;omega
 have:=(Nh j).1 (g.bad l (aX hl))
 grind
def aiX{F:Nat}{h:af}(g:a_ F h){b c k:Nat}(ha:m<I h)(NF:b<=F)(hc:c<=1000){l o:Bool}{sg:Int}(hk:k<2){blk:aG}
  (Y:j 0=.one (.p (ez F h))) (H:j 3=.one (.bh 4480000000 1 0)) (h6:j 6=.one (.bh 4480064320 1 0)) (N:j 7=.one (.bh 4480128448 1 0)) (z:j 8=.one (.bh 4480192448 1 0)) (v:j 40=aE k)
  (y:blk 4480000000=(1,some (.var [.p (.int .i64 2),.p (.int .i64 m),.p (.int .i64 b),.p (.int .i64 c),.p (.bool l),.p (.bool o),.p (.int .i64 sg)]))) (b6:blk 4480064320=(1,some (.var [.p (.int .i64 b),.p (.int .i64 c)])))
  (b7:blk 4480128448=(1,some (.var ((iK b ((c+1:Nat):Int) true).ps.map .p)))) (b8:blk 4480192448=(1,some (.var ((iK b ((c+2:Nat):Int) false).ps.map .p))))
  (eI:(b,c)∉(gv F h (2*m+k)).places->∀u L,u 0=j 0->u 3=j 3->u 6=j 6->u 7=j 7->u 8=j 8->u 40=aE ((k+1:Nat):Int)->(∀i,i≠4480577088->L i=blk i)->W S .all (.loop Fy) (se 0 Q) u L)
  (R6:(b,c)∈(gv F h (2*m+k)).places->∀u L s X,u 4=.one X->u 5=iI true->a8 s lK 7 (dB (wD h m b c (gv F h (2*m+k)) (k==1))) (.one X) L->Q .ret u L):
  W S .all (.loop Fy) (se 0 Q) j blk:=by
 have ac:=g.len;have HE:=g.fing;obtain⟨ag,Kv,lH,FM⟩:=KL g (d:=2*m+k) J;have vW:=iY Kv;have Bb:=Mr lH;have aB:((k:Int)<2):=J;have cA:(gv F h (2*m+k)).places.length<=1000000:=by obtain⟨w,hw,he⟩:=cD.1 (aX lH);obtain⟨_,ud,ab⟩:=zn g.ok w hw;have h1:=(agt g.ok ab (I w) (ct _)).2.1;rw[ah8,he]at h1;have iM:I (ay h)<=I h:=uW h (I h);have h2:I w*(2*F+2)<=1600*82:=Lb (by unfold nD at ud;omega) J;omega
 generalize HC:gv F h (2*m+k)=f at*;have pc:=akR f.places (b,c) cA;have m2:=qg (a:=m) J;have m3:=rX (a:=2*m) (b:=k) J;have w1:=cE (n:=k) J;have A6:2*m+k<I (kX F h):=by rw[Gf];omega
 have aN:aA h≠[]:=gA.1 (by rw[cZ];omega);have ad:=cZ h;have O:=MJ aN J;have nU:S.lone 4480896256=false:=ah;have qt:S.lone 4481024384=false:=ah;have fS:S.shared 106:=ah;refine mP ?_;by_cases T:(b,c)∈f.places
 .rw[xq T]at pc;have Z:(!f.gh==(((k:Nat):Int)==1))=(f.gh !=(k==1)):=by
   rcases(show k=0\/k=1 by omega)with rfl|rfl<;>cases f.gh<;>rfl
  have HO:I (dB (eL (aA h) b c 2))=I (aA h):=by simp[eL]
  have A:=fL (by rw[HO];exact ct _);cases ae:(f.gh !=(k==1))with
  |true=>
    rw[ae]at Z;simp only[go_sem,Fy,Y,H,h6,N,z,v,y,b6,b7,b8,aB,m2,m3,vW,Bb,c9.ps,Z,iK,aK.ps,UI,eU pc];refine⟨aS,aS,?_⟩;refine nQ O nU (.inl rfl) λX cK gc D=>?_;have x:=D 4480000000 aa;have M:=D 4480128448 aa;have R:=D 4480192448 aa;simp only[go_sem,y]at x M R;simp only[go_sem,H,x,fS];refine ID J aa (KA g) gc λaZ sI B=>?_;have E:=(B 4480192448 aa).trans R;rcases sI with⟨e,_⟩|⟨_,gg,e,zJ⟩
    .exact absurd (by simpa [eL]using e) aN
    cases e;simp only[go_sem,H,N,z,(B 4480000000 aa).trans x,(B 4480128448 aa).trans M,E,zJ,HO,A,Fb];refine nQ (Ge (eL (aA h) b c 2) [iK b ((c+2:Nat):Int) f.gh,iK b ((c+1:Nat):Int) (!f.gh)] m (by rw[bG];omega) (by rw[bG];omega) aH) qt (.inr (sn (xm _))) λc2 lQ DR lT=>?_;simp only[go_sem];exact R6 T _ _ _ c2 (by simp only[go_sem]) (by simp only[go_sem]) (by unfold wD;rw[ae];exact DR)
  |false=>
    rw[ae]at Z;simp only[go_sem,Fy,Y,H,h6,N,z,v,y,b6,b7,b8,aB,m2,m3,vW,Bb,c9.ps,Z,iK,aK.ps,UI,eU pc];refine⟨aS,aS,?_⟩;refine nQ O nU (.inl rfl) λX cK gc D=>?_;have x:=D 4480000000 aa;have M:=D 4480128448 aa;have R:=D 4480192448 aa;simp only[go_sem,y]at x M R;simp only[go_sem,H,x,fS];refine ID J aa (KA g) gc λaZ sI B=>?_;have E:=(B 4480192448 aa).trans R;rcases sI with⟨e,_⟩|⟨_,gg,e,zJ⟩
    .exact absurd (by simpa [eL]using e) aN
    cases e;simp only[go_sem,H,N,z,(B 4480000000 aa).trans x,(B 4480128448 aa).trans M,E,zJ,HO,A,Fb];refine nQ (Ge (eL (aA h) b c 2) [iK b ((c+1:Nat):Int) f.gh,iK b ((c+2:Nat):Int) (!f.gh)] m (by rw[bG];omega) (by rw[bG];omega) aH) qt (.inr (sn (xm _))) λc2 lQ DR lT=>?_;simp only[go_sem];exact R6 T _ _ _ c2 (by simp only[go_sem]) (by simp only[go_sem]) (by unfold wD;rw[ae];exact DR)
 rw[zc T]at pc;simp only[go_sem,Fy,Y,H,h6,v,y,b6,aB,m2,m3,vW,Bb,c9.ps,UI,eU pc,w1];refine⟨aS,eI T _ _ ?_ ?_ ?_ ?_ ?_ ?_ λi hi=>?_⟩
 .simp only[go_sem,Y]
 .simp only[go_sem,H]
 .simp only[go_sem,h6]
 .simp only[go_sem,N]
 .simp only[go_sem,z]
 .simp only[go_sem]
 simp only[ba,ai hi]
def az4(g:a_ F h){b c:Nat}(ha:m<I h)(R:b<=F)(hc:c<=1000){l o:Bool}{sg:Int}:
  aI S 70 [.one (.p (ez F h)),jM 2 m b c l o sg] (te (og F h m b c)):=by
 have w1:=cE (n:=c) J;have w2:IntKind.i64.wrap ((c:Int)+2)=((c+2:Nat):Int):=(oL J J).trans J;have Z:=g.len;have FU:((I (aA h):Int)==0)=false:=mE.2 (by rw[cZ];omega);have X:∀A y s f (L:aU),og F h m b c=some L->A 4=.one f->A 5=iI true->a8 s lK 7 (dB L) (.one f) y->
   se 0 (CM S .all Xz (tU .all [(4,none),(5,none)] λv blk=>lr blk v=some (te (og F h m b c)))) .ret A y:=λA y s f L hL j u H=>by
  simp only[go_sem,j,u];rw[hL];exact tN H
 refine bR acH ?_;simp only[go_sem,UL,w1,w2,FU];have k0:2*m+0=2*m:=rfl;refine aiX g ha R hc (k:=0) J (l:=l) (o:=o) (sg:=sg) ?_ ?_ ?_ ?_ ?_ ?_ ?_ ?_ ?_ ?_ ?_ ?_
 .simp only[go_sem]
 .simp only[go_sem]
 .simp only[go_sem]
 .simp only[go_sem]
 .simp only[go_sem]
 .simp only[go_sem];rfl
 .simp only[go_sem]
 .simp only[go_sem]
 .simp only[go_sem];rfl
 .simp only[go_sem];rfl
 .intro M A y N Y T O q8 E x;have Q:(b,c)∉(gv F h (2*m)).places:=M;simp only[go_sem]at N Y T O q8;refine aiX g ha R hc J (l:=l) (o:=o) (sg:=sg) N Y T O q8 E ?_ ?_ ?_ ?_ ?_ ?_
  .rw[x _ aa];simp only[go_sem]
  .rw[x _ aa];simp only[go_sem]
  .rw[x _ aa];simp only[go_sem];rfl
  .rw[x _ aa];simp only[go_sem];rfl
  .intro B D z p0 p3 p6 p7 p8 Lj bZ;have hr:og F h m b c=none:=by unfold og;rw[ai Q,ai B]
   have mr:¬(((1+1:Nat):Int)<2):=aa;refine mP ?_;simp only[go_sem,Fy,Xz,Lj,mr,hr];rfl
  intro B D z s f j u H;exact X D z s f _ (by unfold og;rw[ai Q,an B];rfl) j u H
 intro M D z s f j u H;have Q:(b,c)∈(gv F h (2*m)).places:=M;exact X D z s f _ (by unfold og;rw[an Q];rfl) j u H
def r7(h:af)(m:Nat)(sg:Int)(o:Bool):aU:=ft (aA h) [⟨⟨2,0,0,((au U.aq h/2+1:Nat):Int),sg,o⟩,false⟩,⟨⟨2,0,0,((au U.aq h/2+1:Nat):Int),sg,!o⟩,false⟩] m
def aqA(g:a_ F h)(O:m<I h){b c:Int}{l o:Bool}{sg:Int}:
  aI S 73 [.one (.p (ez F h)),jM 5 m b c l o sg] (te (some (r7 h m sg o))):=by
 have Q:=g.cr;have L:=Qa F (au U.aq h/2) sg o (.sl (dB (aA h))) (.sl (qO (fB F h))) (.sl (bt (kX F h))) (.int .i64 (au U.aw h:Nat)) (.sl (bt (gb h F))) 1 J J;have y:=Qa F (au U.aq h/2) sg (!o) (.sl (dB (aA h))) (.sl (qO (fB F h))) (.sl (bt (kX F h))) (.int .i64 (au U.aw h:Nat)) (.sl (bt (gb h F))) 1 J J;have H:=g.len;have D:=cZ h
 have f:=Ge (aA h) [⟨⟨2,0,0,((au U.aq h/2+1:Nat):Int),sg,o⟩,false⟩,⟨⟨2,0,0,((au U.aq h/2+1:Nat):Int),sg,!o⟩,false⟩] m J J aH;refine bR azr ?_;have c1:((1:Nat):Int)=1:=rfl;rw[c1]at L y;have B:∀blk:aG,∀s,∀v j x x4 n u X:PV,fR blk [] s ((RV.agg [.p v,.p j,.p x,.p x4,.p n,.p u,.p X]).ib (S.lone s))=some (.agg [.p v,.p j,.p x,.p x4,.p n,.p u,.p X],[]):=λblk s v j x x4 n u X=>by cases S.lone s<;>rfl
 simp only[go_sem,ag4,US,pX L (B _ _ _ _ _ _ _ _ _),pX y (B _ _ _ _ _ _ _ _ _),Fb];refine GN f ah (.inr (sn (xm _))) λE M w A N z=>?_;simp only[go_sem];refine⟨?_,tN A⟩;rcases z with rfl|rfl<;>kernel_rfl
def nk(n:Nat)(i:Int):Bool:=decide (0<=i)&&decide (i<(n:Int))
def Mg(i:Int)(n:Nat):aI S 68 [aE i,.one (.p (.box [.int .i64 n]))] (eh (nk n i)):=by
 refine bR apF ?_;unfold nk;by_cases h:0<=i
 .by_cases H:i<(n:Int)
  all_goals
   simp only[go_sem,YJ,h,H]
 simp only[go_sem,YJ,h]
def Nd(l:af):((dQ l).all λe=>e.all PV.scalar):=by simp[U.ps,PV.scalar]
abbrev mz(F:Nat)(L:af):RV:=.tup [.agg [.p (.int .i64 F),cP p_ 6 (dQ L)],.one (.p (.int .i64 0))]
def sH(F:Nat)(h:af)(k:Int):Option aU->RV
 |none=>oI 4
 |some L=>if(400:Int)<(I h:Int)+(gK k).1\/(100:Int)<((au U.aq h/2:Nat):Int)+(gK k).2 then oI 7 else mz F (cL L)
abbrev BG(ls:af)(i:Nat):U:=ls.getD i ga
def aip{i:Nat}{l:U}(H:h[i]?=some l):BG h i=l:=by rw[BG,dz,H];rfl
def YX{i:Nat}(H:i<I h):h[i]?=some (BG h i):=by obtain⟨l,hl⟩:=aM H;rw[aip hl,hl]
def C3(l:af):jq 6 (dQ l):=by simp[jq,U.ps]
def abh(a b:af):dQ (a++b)=dQ a++dQ b:=fE
def yt(a b:U):Bool:=(a.kind==b.kind)&&((a.gate==b.gate)&&((a.ao==b.ao)&&((a.id==b.id)&&((a.sign==b.sign)&&(a.over==b.over)))))
def afR(x y:U):nT [true,true,true,true,true,false] [.p (.int .i64 x.kind),.p (.int .i64 x.gate),.p (.int .i64 x.ao),.p (.int .i64 x.id),.p (.int .i64 x.sign),.p (.bool x.over)] [.p (.int .i64 y.kind),.p (.int .i64 y.gate),.p (.int .i64 y.ao),.p (.int .i64 y.id),.p (.int .i64 y.sign),.p (.bool y.over)]=some (yt x y):=by
 have e:∀a b:Int,nZ true (.int .i64 a) (.int .i64 b)=some (a==b):=λa b=>by simp[nZ]
 have E:∀a b:Bool,nZ false (.bool a) (.bool b)=some (a==b):=λa b=>by simp[nZ]
 simp only[nT,yt,e,E];cases(x.kind==y.kind)<;>cases(x.gate==y.gate)<;>cases(x.ao==y.ao)<;>cases(x.id==y.id)<;>cases(x.sign==y.sign)<;>cases(x.over==y.over)<;>rfl
theorem G4(x:U):yt x x:=by simp[yt]

end
end Go.Abs
