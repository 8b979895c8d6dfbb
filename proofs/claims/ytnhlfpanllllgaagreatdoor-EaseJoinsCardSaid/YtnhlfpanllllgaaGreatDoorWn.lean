/- A part. -/
import Derived.Test.YtnhlfpanllllgaaGreatDoorWh
set_option linter.all false
open List renaming length->I
set_option maxRecDepth 100000
set_option maxHeartbeats 16000000
namespace Go.Abs
variable{h:s_}{u z x y m A E D B:Nat}{f:dV}{Q:fM}
section
variable{g:ae}{F:Nat}
def QB{e:b_}(h:I e=1):∃x,e=[x]:=by
 match e,h with
 |[a],_=>exact⟨a,rfl⟩
def ala{e:b_}(h:I e=2):∃x X,e=[x,X]:=by
 match e,h with
 |[a,b],_=>exact⟨a,b,rfl⟩
structure xU (es fs:s_) (k:Nat):Prop where
 len:I fs=I es
 at':∀i,i<I es->fs[i]?=if i<k\/I es-1-i<k then es[I es-1-i]? else es[i]?
def xU.start(h:s_):xU h h 0:=⟨rfl,λi _=>by rw[aw J]⟩
def xU.step{fs:s_}{k:Nat}{a b:b_}(j:xU h fs k)(u:k<I h-1-k)(f:h[k]?=some a)(g:h[I h-1-k]?=some b):
  fs[k]?=some a/\fs[I h-1-k]?=some b/\xU h ((fs.set k b).set (I h-1-k) a) (k+1):=by
 have H:=j.len;refine⟨?_,?_,⟨by rw[kI,kI];exact H,λi m=>?_⟩⟩
 .rw[j.at' k J,aw J,f]
 .rw[j.at' _ J,aw J,g]
 rw[mA,kI];by_cases e1:I h-1-k=i
 .rw[aH e1,aH J,aH J,show I h-1-i=k by omega,f]
 rw[aw e1,mA];by_cases e2:k=i
 .subst e2;rw[aH rfl,aH J,aH J,g]
 rw[aw e2,j.at' i m];by_cases E:i<k\/I h-1-i<k
 .rw[aH E,aH J]
 rw[aw E,aw J]
def xU.done{fs:s_}{k:Nat}(f:xU h fs k)(g:¬k<I h-1-k):fs=h.reverse:=by
 refine y_ λi=>?_;rcases LB i (I h) with H|H
 .rw[f.at' i H,IW H];by_cases e:i<k\/I h-1-i<k
  .rw[aH e]
  rw[aw e,show I h-1-i=i by omega]
 rw[oF (by rw[f.len];exact H),oF (by rw[lK];exact H)]
def GZ(id u z:Nat)(h:s_)(c:c6)(aj:aB)(v:V)(A:aB):Prop:=v=.tup []/\aY id u z h.reverse (.one c) A/\dG (· =id) aj A
def aF6{al:cG}{aj:aB}{id:Nat}{c:c6}(o:h=[]\/al.ok id)(hl:I h<=1000000)(N:∀e∈h,I e=1/\ ∀v∈e,v.norm=v)(ab:aY id u 1 h (.one c) aj):
  ∃v A,je S 172 [.one c] al aj v A/\GZ id u 1 h c aj v A:=by
 refine nc arJ (jn rfl) ?_;rcases ab with⟨rfl,H⟩|⟨L,g,H,Q⟩
 .cases H;have z:IntKind.i64.wrap (((0:Nat):Int)-1)= -1:=U;have hz:¬((0:Int)< -1):=U;simp only[go_sem,aeD,z,af,au];refine c_ (λk j A=>k=0/\j 2=aC 0/\j 3=aC (-1)/\A=aj) 0 0 (cT _) ?_ ?_
  .simp only[go_sem]
  rintro k j A _ ⟨rfl,H,f,rfl⟩
  simp only[go_sem,Se,H,f,hz,af,au];exact⟨rfl,.inl ⟨rfl,rfl⟩,λ_ _=>rfl⟩
 cases H;have o:=o.resolve_left L;have z:=u9 (a:=I h) J;simp only[go_sem,aeD,z,af,au];refine c_ (λk j A=>j 0=.one (.hsl id g 1 0 (I h))/\j 2=aC k/\j 3=aC ((I h:Int)-1-(k:Int))/\ ∃fs,A id=(g,some (.arr u 1 fs))/\xU h fs k/\dG (· =id) aj A) 0 (I h) (cE _) ?_ ?_
 .simp only[go_sem];refine⟨rfl,aQ,h,Q,xU.start h,dG.refl _ _⟩
 rintro k j A hk ⟨B,H,f,fs,m,y,F⟩
 by_cases E:k<I h-1-k
 .have e1:((I h:Int)-1-(k:Int))=((I h-1-k:Nat):Int):=J;rw[e1]at f;have x:((k:Int)<((I h-1-k:Nat):Int)):=J;have O:=cP (n:=k) J;have w2:IntKind.i64.wrap (((I h-1-k:Nat):Int)-1)=((I h:Int)-1-((k+1:Nat):Int)):=by
   rw[u9 J];omega
  obtain⟨a,M⟩:=aR (show k<I h by omega);obtain⟨b,D⟩:=aR (show I h-1-k<I h by omega);obtain⟨Y,fb,Z⟩:=y.step E M D;obtain⟨la,na⟩:=N a (ch M);obtain⟨lb,fg⟩:=N b (ch D);obtain⟨X,rfl⟩:=QB la;obtain⟨y0,rfl⟩:=QB lb;have PM:=na X aQ;have R:=fg y0 aQ;have xD:=y.len;have T:¬(k=I h-1-k):=J;have PC:¬(I h-1-k=k):=J;have l1:k<I fs:=J;have l2:I h-1-k<I fs:=J;have l3:k<I h:=J;have l4:I h-1-k<I h:=J;simp only[go_sem,Se,B,H,f,m,x,Y,fb,O,w2,o,l1,l2,l3,l4,T,PC,PM,R,mA,kI,af,au];refine⟨aI,_,rfl,Z,?_⟩;exact(F.dE rfl _).dE rfl _
 have x:¬((k:Int)<(I h:Int)-1-(k:Int)):=J;simp only[go_sem,Se,B,H,f,x,af,au];refine⟨rfl,?_,F⟩;rw[y.done E]at m;exact .inr ⟨by simpa using L,g,by rw[lK],m⟩
def axp{al:cG}{aj:aB}{id:Nat}{c:c6}(o:h=[]\/al.ok id)(hl:I h<=1000000)(R:∀e∈h,I e=2/\ ∀v∈e,v.norm=v)(ab:aY id u 2 h (.one c) aj):
  ∃v A,je S 171 [.one c] al aj v A/\GZ id u 2 h c aj v A:=by
 refine nc atk (jn rfl) ?_;rcases ab with⟨rfl,H⟩|⟨O,g,H,Y⟩
 .cases H;have B:IntKind.i64.wrap (((0:Nat):Int)-1)= -1:=U;have hz:¬((0:Int)< -1):=U;simp only[go_sem,i171,B,af,au];refine c_ (λk j A=>k=0/\j 2=aC 0/\j 3=aC (-1)/\A=aj) 0 0 (cT _) ?_ ?_
  .simp only[go_sem]
  rintro k j A _ ⟨rfl,H,f,rfl⟩
  simp only[go_sem,QZ,H,f,hz,af,au];exact⟨rfl,.inl ⟨rfl,rfl⟩,λ_ _=>rfl⟩
 cases H;have o:=o.resolve_left O;have B:=u9 (a:=I h) J;simp only[go_sem,i171,B,af,au];refine c_ (λk j A=>j 0=.one (.hsl id g 2 0 (I h))/\j 2=aC k/\j 3=aC ((I h:Int)-1-(k:Int))/\ ∃fs,A id=(g,some (.arr u 2 fs))/\xU h fs k/\dG (· =id) aj A) 0 (I h) (cE _) ?_ ?_
 .simp only[go_sem];refine⟨rfl,aQ,h,Y,xU.start h,dG.refl _ _⟩
 rintro k j A hk ⟨E,H,f,fs,x,z,M⟩
 by_cases L:k<I h-1-k
 .have e1:((I h:Int)-1-(k:Int))=((I h-1-k:Nat):Int):=J;rw[e1]at f;have y:((k:Int)<((I h-1-k:Nat):Int)):=J;have T:=cP (n:=k) J;have w2:IntKind.i64.wrap (((I h-1-k:Nat):Int)-1)=((I h:Int)-1-((k+1:Nat):Int)):=by
   rw[u9 J];omega
  obtain⟨a,Q⟩:=aR (show k<I h by omega);obtain⟨b,F⟩:=aR (show I h-1-k<I h by omega);obtain⟨fa,fb,zH⟩:=z.step L Q F;obtain⟨la,N⟩:=R a (ch Q);obtain⟨lb,fg⟩:=R b (ch F);obtain⟨X,x1,rfl⟩:=ala la;obtain⟨y0,y1,rfl⟩:=ala lb;have PM:=N X aQ;have m:=N x1 aQ;have Z:=fg y0 aQ;have D:=fg y1 aQ;have xD:=z.len;have I9:¬(k=I h-1-k):=J;have PC:¬(I h-1-k=k):=J;have l1:k<I fs:=J;have l2:I h-1-k<I fs:=J;have l3:k<I h:=J;have l4:I h-1-k<I h:=J;simp only[go_sem,QZ,E,H,f,x,y,fa,fb,T,w2,o,l1,l2,l3,l4,I9,PC,PM,m,Z,D,mA,kI,af,au];refine⟨aI,_,rfl,zH,?_⟩;exact(M.dE rfl _).dE rfl _
 have y:¬((k:Int)<(I h:Int)-1-(k:Int)):=J;simp only[go_sem,QZ,E,H,f,y,af,au];refine⟨rfl,?_,M⟩;rw[z.done L]at x;exact .inr ⟨by simpa using O,g,by rw[lK],x⟩
def Vp{f:Nat}{c:c6}{aj:aB}(x:aY f u z h (.one c) aj):(h=[]/\jA aj (.one c)=[])\/jA aj (.one c)=[f]:=by
 rcases x with⟨j,H⟩|⟨j,g,H,m⟩
 .cases H;exact .inl ⟨j,Jk⟩
 cases H;exact .inr (show l7 aj 6 (.hsl f g z 0 (I h))=[f]from DD (n:=5) m)
section
variable {al:cG} {Q:fM} {j:bn} {aj:aB} {os:eZ} {d:eh}
def ake{f id:Nat}{c:c6}(g:∀ {al:cG}{aj:aB},h=[]\/al.ok id->aY id u z h (.one c) aj->∃v A,je S f [.one c] al aj v A/\GZ id u z h c aj v A)(hs:S.sites f=[f])(H:aY id u z h (.one c) aj)(O:al.ok id)(x:al.fs.contains f)
  (D:∀A,aY id u z h.reverse (.one c) A->(∀i,i≠id->A i=aj i)->iH S al os Q (dF j d (.tup [])) A):iU S al (.sc f [.one c]) d os Q j aj:=by
 refine qq (P:=GZ id u z h c aj) (E9 ?_ ?_) (g ?_ H) ?_
 .show al.gH ([V.one c].map (jA aj)).flatten=true;rcases Vp H with⟨_,m⟩|m
  .simp[m,cG.gH]
  simp[m,cG.gH,O]
 .show(S.sites f).all al.fs.contains=true;rw[hs];simp only[mN,oc,x,wX]
 .rcases Vp H with⟨m,_⟩|m
  .exact .inl m
  exact .inr (qf (by simp[m]))
 rintro v A ⟨rfl,B,y⟩
 exact D A B y
end
def asN:S.sites 171=[171]:=ah
def aCA:S.sites 172=[172]:=ah
def aek(ok:gy F g)(h:x<ct g):cA g x<ct g:=Vz ok.lN ok.hp h
abbrev vj(id:Nat):Prop:=kO id=144
structure amb (ls:ae) (iZ gS idB gB g8 gF:Nat) (sp:eH) (f:dV) (cd cp cf:c6) (aj:aB):Prop where
 bS:aj iZ=(gS,some (.arr 4 1 (eC sp)))
 bB:aj idB=(gB,some (.arr 4 1 (eC (DW ls))))
 b8:aj 9216000000=(g8,some (.var [.p (.bool false),.p .nils,.p .nils,.p .nils,.p (.bool false)]))
 bF:aj 9216128448=(gF,some (.var [.p (.bool f.gZ),cd,cp,cf,.p (.bool f.outer)]))
 gd:aY 9216512256 3 1 (cg f.cn) (.one cd) aj
 gp:aY 9216896192 wi 2 (fB f.places) (.one cp) aj
 gf:aY 9216896448 3 1 (cg f.wm) (.one cf) aj
def aqo(ok:gy F g){k:Nat}(j:x<ct g)(h:I f.cn<=k/\I f.places<=k*(2*F+2)/\I f.wm<=k*(2*F+2)):(f.add F g x).cn.length<=k+1/\(f.add F g x).places.length<=(k+1)*(2*F+2)/\(f.add F g x).wm.length<=(k+1)*(2*F+2):=by
 obtain⟨i1,i2,u⟩:=h;rw[Ie];unfold dV.add;by_cases h:x<2*I g
 .rw[aH h];simp only[fv,dw,eK];exact⟨J,J,J⟩
 rw[aw h];have H:(x-2*I g)/2<I (aL g):=by unfold ct at j;omega
 have L:=Uc ok H;have m:=RT ok H;refine⟨by simp only;omega,?_,?_⟩
 .simp only[fv];split<;>(try rw[lK])<;>omega
 simp only[fv];split<;>(try rw[lK])<;>omega
def as8{al:cG}(ok:gy F g)(hF:F<=1000)(O:∀id,vj id->al.ok id){iZ g8 gF d:Nat}(oS:al.ok iZ)(nS:¬vj iZ)(nB:¬vj m)(a2:iZ≠m)(f1:al.fs.contains 171)(f2:al.fs.contains 172)(hd:d<2*I g):
  ∀(z k x:Nat) (B:eH) (f:dV) (j:bn) (aj:aB) (cd cp cf:c6),j 0=.one (.p (o_ F g))->j 2=.one (.hsl iZ y 1 0 (2*I g))->j 8=.one (.bh 9216000000 g8 0)->j 9=aC (I g)->j 10=aC (I (aL g))->j 11=.one (.bh 9216128448 gF 0)->j 12=aC x->
   amb g iZ y m A g8 gF (B.take (2*I g)) f cd cp cf aj->I B=ct g->x<ct g->Inv (cA g) (ct g) d B x->zi B<z->(k+z<=5000000)->(I f.cn<=k/\I f.places<=k*(2*F+2)/\I f.wm<=k*(2*F+2))->
   (∀aE ao Az qN zo,aE 8=j 8->aE 11=j 11->amb g iZ y m A g8 gF ((gW (cA g) z x B).2.take (2*I g)) ((gW (cA g) z x B).1.foldl (dV.add F g) f) Az qN zo ao->(∀id,¬(vj id\/id=iZ)->ao id=aj id)->Q .normal aE ao)->
   bP S al (.loop NU) (ld 0 Q) j aj:=by
 have hl:=ok.hl;have hJ:I (aL g)<=1000000:=lX (uq g (I g)) hl;have gk:ct g<=4000000:=by unfold ct;omega
 have m2:=tP (a:=I g) J;have k0:al.ok 9216000000:=O _ rfl;have kF:al.ok 9216128448:=O _ rfl;have az:al.ok 9216512192:=O _ rfl;have kd:al.ok 9216512256:=O _ rfl;have kp:al.ok 9216896192:=O _ rfl;have kf:al.ok 9216896448:=O _ rfl;have ab:al.ok 9216640128:=O _ rfl;have ac:al.ok 9216640129:=O _ rfl;have hm:=uu ok;intro z
 induction z with
 |zero=>intro k x B f j aj cd cp cf _ _ _ _ _ _ _ _ _ _ _ h;omega
 |succ z ih=>
  intro k x B f j aj cd cp cf M E L R D fe Y H Lx xM hi hu hk ar Z;have a7:=hm.le;obtain⟨l1,l2,l3⟩:=ar;have a8:k*(2*F+2)<=5000000*2002:=PR J J;have LW:=aqo ok xM ⟨l1,l2,l3⟩;unfold gW at Z;have N:∀ {a:Nat},vj a->a≠iZ:=λh e=>nS (e▸h);have u:∀ {a:Nat},vj a->a≠m:=λh e=>nB (e▸h);have nF:¬(9216128448=iZ):=N rfl;refine mx ?_;cases hs:B.getD x true with
  |true=>
   have a6:=hi.i4 hs;have aq:x<2*I g:=J;have aO:((x:Int)<((2*I g:Nat):Int)):=J;rw[hs]at Z;simp only[if_true]at Z;have hb:(B.take (2*I g))[x]?=some true:=by
    have h1:=ac5 aq (show 2*I g<=I B by omega);rw[show dQ B x=true from hs,dS]at h1;have zS:x<I (B.take (2*I g)):=by rw[iM];omega
    obtain⟨b,hb⟩:=aR zS;rw[hb]at h1 |-;exact congrArg some h1
   have mw:=qG hb;simp only[go_sem,NU,M,E,L,R,D,fe,Y,m2,aO,aq,H.bS,mw,oS];exact Z _ _ cd cp cf (by simp only[go_sem]) (by simp only[go_sem]) H (λ_ _=>rfl)
  |false=>
   have Md:B[x]?=some false:=by
    rw[dS]at hs;cases h1:B[x]? with
    |none=>rw[h1]at hs;cases hs
    |some b=>rw[h1]at hs;exact congrArg some hs
   have HD:=Ns Md;have pt:=agQ ok x (by unfold ct at xM;exact xM);have dh:=hi.step hm Lx xM hs;rw[hs]at Z;simp only[eX,if_false,vi]at Z;by_cases yD:x<2*I g
   .have aO:((x:Int)<((2*I g:Nat):Int)):=J;have hb:(B.take (2*I g))[x]?=some false:=by rw[nN,aH yD];exact Md
    have mw:=qG hb;have ig:=Lp (B.take (2*I g)) x true;rw[akd]at ig;have Pg:f.add F g x={f with cn:=f.cn++[x]}:=by unfold dV.add;rw[aH yD]
    simp only[go_sem,NU,M,E,L,R,D,fe,Y,m2,aO,yD,H.bS,H.bF,mw,ig,oS,kF,az,nF];refine UT (y:=9216512256) (id:=9216512256) (bytes:=8) (B:=[[.int .i64 (x:Int)]]) (rd:=[9216512192]) (by simp[kd,az]) (H.gd.of_eq ((bU U).trans (bU (N rfl)))) (by simp[fz,aT]) (.inl rfl) (by simp only[cH,dw,eK];omega) λc bJ hc bl=>?_;have LJ:∀i,i≠9216512192->i≠9216512256->i≠iZ->bJ i=aj i:=λi a b c=>(bl i b b).trans ((bU a).trans (bU c))
    have a3:=(bl iZ (N rfl).symm (N rfl).symm).trans ((bU (N rfl).symm).trans sW);have BQ:=(LJ 9216128448 U U (N rfl)).trans H.bF;simp only[go_sem,BQ,M,E,L,R,D,fe,Y,kF,RI,PT pt];refine ih (k+1) (cA g x) (B.set x true) (f.add F g x) _ _ c cp cf ?_ ?_ ?_ ?_ ?_ ?_ ?_ ?_ (by rw[kI];exact Lx) (aek ok xM) dh J J LW ?_
    .simp only[go_sem,M]
    .simp only[go_sem,E]
    .simp only[go_sem,L]
    .simp only[go_sem,R]
    .simp only[go_sem,D]
    .simp only[go_sem,fe]
    .simp only[go_sem]
    .rw[Pg];refine⟨?_,?_,?_,sW,?_,?_,?_⟩
     .exact(bU (N rfl).symm).trans a3
     .exact(bU (u rfl).symm).trans ((LJ _ (u rfl).symm (u rfl).symm a2.symm).trans H.bB)
     .exact(bU U).trans ((LJ _ U U (N rfl)).trans H.b8)
     .exact(yW _ _▸hc.of_eq (bU U))
     .exact(H.gp.of_eq (LJ _ U U (N rfl))).of_eq (bU U)
     exact(H.gf.of_eq (LJ _ U U (N rfl))).of_eq (bU U)
    intro aE ao Az qN zo q8 Dd AX dD;refine Z aE ao Az qN zo (by rw[q8];simp only[go_sem]) (by rw[Dd];simp only[go_sem]) AX λid hn=>?_;have a:∀av,vj av->id≠av:=λav hy e=>hn (.inl (e▸hy));exact(dD id hn).trans ((bU (a _ rfl)).trans (LJ id (a _ rfl) (a _ rfl) λe=>hn (.inr e)))
   have hj:(x-2*I g)/2<I (aL g):=by unfold ct at xM;omega
   have wL:=aCd ok hF hj;have lP:=Uc ok hj;have lF:=RT ok hj;have Cj:¬((x:Int)<((2*I g:Nat):Int)):=J;have ws:=SH (a:=x) (b:=2*I g) J J;have wq:=wrap_small (n:=(x-2*I g)/2) J;have w2:=C7 (a:=I (aL g)) J J;have I2:((((x-2*I g)/2:Nat):Int)==((I (aL g)-1:Nat):Int))=decide ((x-2*I g)/2+1=I (aL g)):=by
    by_cases h:(x-2*I g)/2+1=I (aL g)
    .rw[xi h];simp;omega
    rw[tJ h];simp;omega
   have sB:(f.add F g x).outer=(f.outer||decide ((x-2*I g)/2+1=I (aL g))):=by unfold dV.add;rw[aw yD]
   have ad:(f.add F g x).gZ=f.gZ:=by unfold dV.add;rw[aw yD]
   have ag:(f.add F g x).cn=f.cn:=by unfold dV.add;rw[aw yD]
   have Je:(f.add F g x).places=f.places++(if x%2=0 then qE F g ((x-2*I g)/2)else(qE F g ((x-2*I g)/2)).reverse):=by unfold dV.add;rw[aw yD]
   have Pv:(f.add F g x).wm=f.wm++(if x%2=0 then zW F g ((x-2*I g)/2)else(zW F g ((x-2*I g)/2)).reverse):=by unfold dV.add;rw[aw yD]
   generalize f.add F g x=f' at sB ad ag Je Pv Z LW;have iI:S.lone 9216640128=false:=ah;have a0:∀l:tK,((fB l).all λe=>e.all PV.scalar):=λl=>by simp[PV.scalar]
   have a1:∀l:aG,((cg l).all λe=>e.all PV.scalar):=λl=>by simp[PV.scalar]
   have a5:∀l:tK,∀e∈fB l,I e=2/\ ∀v∈e,v.norm=v:=λl e he=>by obtain⟨a,_,rfl⟩:=eg.1 he;exact⟨rfl,λv hv=>by simp at hv;rcases hv with rfl|rfl<;>rfl⟩
   have aA:∀l:aG,∀e∈cg l,I e=1/\ ∀v∈e,v.norm=v:=λl e he=>by obtain⟨a,_,rfl⟩:=eg.1 he;exact⟨rfl,λv hv=>by simp at hv;rcases hv with rfl;rfl⟩
   have sn:S.shared 171:=ah;have a4:S.shared 172:=ah;have gC:(B.set x true).take (2*I g)=B.take (2*I g):=amk J;generalize qE F g ((x-2*I g)/2)=PP at*;generalize zW F g ((x-2*I g)/2)=FF at*;simp only[go_sem,NU,M,E,L,R,D,fe,Y,m2,Cj,ws,wq,fF,ik,azb];refine ar1 (by simp[ab,ac]) wL iI (a0 _) (a1 _) λc e bY hc he hb=>?_;by_cases eB:x%2=0
   .have CB:((x:Int).tmod 2==1)=false:=by rw[kz,eB];rfl
    rw[aH eB]at Je Pv;have hP:=hc;have hE:=he;have FK:∀i,i≠9216640128->i≠9216640129->bY i=aj i:=hb;have T:=(FK 9216128448 U U).trans H.bF;simp only[go_sem,fF,CB,T,M,E,L,R,D,fe,Y,kF];obtain⟨rP,Jo,PZ⟩:=hP.elems;refine HY (y:=9216896192) (id:=9216896192) (bytes:=16) (by rcases PZ with rfl|rfl<;>simp[kp,ab]) (H.gp.of_eq (FK _ U U)) Jo hP.au (by simp only[cH,lK];omega) λc2 jF r1 u1 l9 eQ iQ=>?_
    have BQ:=(eQ 9216128448 U U).trans T;simp only[go_sem,BQ,M,E,L,R,D,fe,Y,kF];obtain⟨rE,Jn,PY⟩:=(hE.of_eq (eQ _ U U)).elems;refine HY (y:=9216896448) (id:=9216896448) (bytes:=8) (by rcases PY with rfl|rfl<;>simp[kf,ac]) (H.gf.of_eq ((eQ _ U U).trans (FK _ U U))) Jn hE.au (by simp only[cH,lK];omega) λc3 Fm r2 u2 zJ He sE=>?_
    have xr:=(He 9216128448 U U).trans BQ;have X:∀i,i≠9216640128->i≠9216640129->i≠9216896192->i≠9216896448->Fm i=aj i:=λi a b c d=>(He i d d).trans ((eQ i c c).trans (FK i a b));have ap:aY 9216896192 wi 2 (fB f'.places) (.one c2) Fm:=by rw[Je,Aj];exact l9.of_eq (He _ U U)
    have an:aY 9216896448 3 1 (cg f'.wm) (.one c3) Fm:=by rw[Pv,yW];exact zJ
    clear l9 zJ;cases ho:f.outer;all_goals
     rw[ho]at xr;simp only[go_sem,xr,M,E,L,R,D,fe,Y,kF,w2,I2,RI,PT pt];refine⟨?_,?_⟩
     .rcases PZ with rfl|rfl<;>rcases PY with rfl|rfl<;>rcases iQ with⟨rfl,rfl⟩|⟨rfl,rfl⟩|⟨rfl,rfl⟩<;>rcases sE with⟨rfl,rfl⟩|⟨rfl,rfl⟩|⟨rfl,rfl⟩<;>kernel_rfl
     refine ih (k+1) (cA g x) (B.set x true) f' _ _ cd c2 c3 ?_ ?_ ?_ ?_ ?_ ?_ ?_ ?_ (by rw[kI];exact Lx) (aek ok xM) dh J J LW ?_
     .simp only[go_sem,M]
     .simp only[go_sem,E]
     .simp only[go_sem,L]
     .simp only[go_sem,R]
     .simp only[go_sem,D]
     .simp only[go_sem,fe]
     .simp only[go_sem]
     .rw[gC];refine⟨?_,?_,?_,?_,?_,?_,?_⟩
      .exact(bU (N rfl).symm).trans ((bU (N rfl).symm).trans ((bU (N rfl).symm).trans ((X _ (N rfl).symm (N rfl).symm (N rfl).symm (N rfl).symm).trans H.bS)))
      .exact(bU (u rfl).symm).trans ((bU (u rfl).symm).trans ((bU (u rfl).symm).trans ((X _ (u rfl).symm (u rfl).symm (u rfl).symm (u rfl).symm).trans H.bB)))
      .exact(bU U).trans ((bU U).trans ((bU U).trans ((X _ U U U U).trans H.b8)))
      .rw[sW,ad,sB,ho];rfl
      .rw[ag];exact H.gd.of_eq ((bU U).trans ((bU U).trans ((bU U).trans (X _ U U U U))))
      .exact ap.of_eq ((bU U).trans ((bU U).trans (bU U)))
      exact an.of_eq ((bU U).trans ((bU U).trans (bU U)))
     intro aE ao Az qN zo q8 Dd AX dD;refine Z aE ao Az qN zo (by rw[q8];simp only[go_sem]) (by rw[Dd];simp only[go_sem]) AX λid hn=>?_;have a:∀av,vj av->id≠av:=λav hy e=>hn (.inl (e▸hy));exact(dD id hn).trans ((bU (a _ rfl)).trans ((bU (a _ rfl)).trans ((bU (a _ rfl)).trans (X id (a _ rfl) (a _ rfl) (a _ rfl) (a _ rfl)))))
   have CB:((x:Int).tmod 2==1):=by rw[kz,show x%2=1 by omega];rfl
   rw[aw eB]at Je Pv;simp only[go_sem,fF,CB,M,E,L,R,D,fe,Y,sn];refine ake (f:=171) (λo h=>axp o (by simp only[cH];omega) (a5 _) h) asN hc ab f1 λbJ ji bl=>?_;simp only[go_sem,a4];refine ake (f:=172) (λo h=>aF6 o (by simp only[cH];omega) (aA _) h) aCA (he.of_eq (bl _ U)) ac f2 λfy aN dO=>?_;have hP:aY 9216640128 wi 2 (fB PP.reverse) (.one c) fy:=by rw[fB,List.map_reverse];exact ji.of_eq (dO _ U)
   have hE:aY 9216640129 3 1 (cg FF.reverse) (.one e) fy:=by rw[cg,List.map_reverse];exact aN
   have FK:∀i,i≠9216640128->i≠9216640129->fy i=aj i:=λi a b=>(dO i b).trans ((bl i a).trans (hb i a b));have T:=(FK 9216128448 U U).trans H.bF;simp only[go_sem,fF,CB,T,M,E,L,R,D,fe,Y,kF];obtain⟨rP,Jo,PZ⟩:=hP.elems;refine HY (y:=9216896192) (id:=9216896192) (bytes:=16) (by rcases PZ with rfl|rfl<;>simp[kp,ab]) (H.gp.of_eq (FK _ U U)) Jo hP.au (by simp only[cH,lK];omega) λc2 jF r1 u1 l9 eQ iQ=>?_
   have BQ:=(eQ 9216128448 U U).trans T;simp only[go_sem,BQ,M,E,L,R,D,fe,Y,kF];obtain⟨rE,Jn,PY⟩:=(hE.of_eq (eQ _ U U)).elems;refine HY (y:=9216896448) (id:=9216896448) (bytes:=8) (by rcases PY with rfl|rfl<;>simp[kf,ac]) (H.gf.of_eq ((eQ _ U U).trans (FK _ U U))) Jn hE.au (by simp only[cH,lK];omega) λc3 Fm r2 u2 zJ He sE=>?_
   have xr:=(He 9216128448 U U).trans BQ;have X:∀i,i≠9216640128->i≠9216640129->i≠9216896192->i≠9216896448->Fm i=aj i:=λi a b c d=>(He i d d).trans ((eQ i c c).trans (FK i a b));have ap:aY 9216896192 wi 2 (fB f'.places) (.one c2) Fm:=by rw[Je,Aj];exact l9.of_eq (He _ U U)
   have an:aY 9216896448 3 1 (cg f'.wm) (.one c3) Fm:=by rw[Pv,yW];exact zJ
   clear l9 zJ;cases ho:f.outer;all_goals
    rw[ho]at xr;simp only[go_sem,xr,M,E,L,R,D,fe,Y,kF,w2,I2,RI,PT pt];refine⟨?_,?_⟩
    .rcases PZ with rfl|rfl<;>rcases PY with rfl|rfl<;>rcases iQ with⟨rfl,rfl⟩|⟨rfl,rfl⟩|⟨rfl,rfl⟩<;>rcases sE with⟨rfl,rfl⟩|⟨rfl,rfl⟩|⟨rfl,rfl⟩<;>kernel_rfl
    refine ih (k+1) (cA g x) (B.set x true) f' _ _ cd c2 c3 ?_ ?_ ?_ ?_ ?_ ?_ ?_ ?_ (by rw[kI];exact Lx) (aek ok xM) dh J J LW ?_
    .simp only[go_sem,M]
    .simp only[go_sem,E]
    .simp only[go_sem,L]
    .simp only[go_sem,R]
    .simp only[go_sem,D]
    .simp only[go_sem,fe]
    .simp only[go_sem]
    .rw[gC];refine⟨?_,?_,?_,?_,?_,?_,?_⟩
     .exact(bU (N rfl).symm).trans ((bU (N rfl).symm).trans ((bU (N rfl).symm).trans ((X _ (N rfl).symm (N rfl).symm (N rfl).symm (N rfl).symm).trans H.bS)))
     .exact(bU (u rfl).symm).trans ((bU (u rfl).symm).trans ((bU (u rfl).symm).trans ((X _ (u rfl).symm (u rfl).symm (u rfl).symm (u rfl).symm).trans H.bB)))
     .exact(bU U).trans ((bU U).trans ((bU U).trans ((X _ U U U U).trans H.b8)))
     .rw[sW,ad,sB,ho];rfl
     .rw[ag];exact H.gd.of_eq ((bU U).trans ((bU U).trans ((bU U).trans (X _ U U U U))))
     .exact ap.of_eq ((bU U).trans ((bU U).trans (bU U)))
     exact an.of_eq ((bU U).trans ((bU U).trans (bU U)))
    intro aE ao Az qN zo q8 Dd AX dD;refine Z aE ao Az qN zo (by rw[q8];simp only[go_sem]) (by rw[Dd];simp only[go_sem]) AX λid hn=>?_;have a:∀av,vj av->id≠av:=λav hy e=>hn (.inl (e▸hy));exact(dD id hn).trans ((bU (a _ rfl)).trans ((bU (a _ rfl)).trans ((bU (a _ rfl)).trans (X id (a _ rfl) (a _ rfl) (a _ rfl) (a _ rfl)))))
structure cK (F:Nat) (ls:ae):Prop where
 ok:gy F ls
 len:I ls<=400
 cr:ai aa.aF ls<=200
 fing:F<=40
 ne:ls≠[]
 first:∃l,ls[0]?=some l/\l.aM
 even:ai aa.aM ls%2=0
 bad:∀l∈ls,eO F l=false
 chk:dA F ls=0
 nw:oi ls=ai aa.aM ls+ai aa.aF ls/2+2
def uU{f:Int}(h:dA f g=0)(A:g≠[]):∃F:Nat,f=(F:Int)/\cK F g:=by
 have E:=h;unfold dA at h;by_cases m:400<I g\/200<ai aa.aF g
 .rw[aH m]at h;cases h
 rw[aw m]at h;by_cases j:f<0\/40<f
 .rw[aH j]at h;cases h
 rw[aw j,aw A]at h;cases H:nH f g with
 |false=>rw[H]at h;simp at h
 |true=>
  obtain⟨F,rfl⟩:=qX (show 0<=f by omega);refine⟨F,rfl,?_⟩;unfold nH at H;simp only[dj]at H;obtain⟨⟨⟨u,B⟩,z⟩,M⟩:=H;obtain⟨D,x,Q⟩:=WT.1 z;have R:∀l∈g,eO F l=false:=λl hl=>by simpa using E5.1 D l hl
  have N:tV F g:=λl hl hp=>((sU hp).1 (R l hl)).1.1.1;obtain⟨g1,O⟩:=(PS N).1 x;obtain⟨L,y⟩:=aR (jr.2 A);rw[y]at u;exact⟨⟨J,⟨g1,O⟩,Q,λl hl=>yO (R l hl)⟩,J,J,J,A,⟨L,y,u⟩,by simpa using B,R,E,by simpa using M⟩
def cK.axne(f:cK F g):aL g≠[]:=by obtain⟨l,H,h⟩:=f.first;exact U6 (uh.2 ⟨l,H,h⟩)
def akb(F:Nat)(g:ae)(iZ y:Nat)(x:Nat)(j:eH)(aj:aB)(v:V)(A:aB):Prop:=
 ∃f h u m,f=((gW (cA g) (ct g+1) x j).1).foldl (dV.add F g) (dV.new g x)/\v=.agg [.p (.bool f.gZ),h,u,m,.p (.bool f.outer)]/\A iZ=(y,some (.arr 4 1 (eC ((gW (cA g) (ct g+1) x j).2.take (2*I g)))))/\
  aY 9216512256 3 1 (cg f.cn) (.one h) A/\aY 9216896192 wi 2 (fB f.places) (.one u) A/\aY 9216896448 3 1 (cg f.wm) (.one m) A/\dG (λid=>vj id\/id=iZ) aj A
def aza{al:cG}{F:Nat}{g:ae}(ok:gy F g)(hF:F<=1000)(O:∀id,vj id->al.ok id){iZ:Nat}(oS:al.ok iZ)(oB:al.ok m)(Q:¬vj iZ)(Y:¬vj m)(D:iZ≠m)(f1:al.fs.contains 171)(f2:al.fs.contains 172){j:eH}{aj:aB}
  (hx:x<2*I g) (Lx:I j=ct g) (cN:P6 (cA g) (ct g) j) (hs:j.getD x true=false) (bS:aj iZ=(y,some (.arr 4 1 (eC (j.take (2*I g)))))) (bB:aj m=(A,some (.arr 4 1 (eC (DW g))))):
  ∃v B,je S 144 [.one (.p (o_ F g)),aC x,.one (.hsl iZ y 1 0 (2*I g)),.one (.hsl m A 1 0 (I g))] al aj v B/\akb F g iZ y x j aj v B:=by
 have hl:=ok.hl;have hJ:I (aL g)<=I g:=uq g (I g);have gk:ct g<=4000000:=by unfold ct;omega
 have L:al.ok 9216000000:=O _ rfl;have M:al.ok 9216128448:=O _ rfl;have wq:=wrap_small (n:=x/2) J;have X:x/2<I g:=J;have z:=qG (atM X);have f:∀ {a:Nat},vj a->a≠iZ:=λh e=>Q (e▸h);have N:∀ {a:Nat},vj a->a≠m:=λh e=>Y (e▸h);have E:¬(m=9216000000):=λe=>N rfl e.symm
 have ab:=Km j;refine nc aAu (jn rfl) ?_;simp only[go_sem,apQ,bB,E,L,M,oB,fF,ik,wq,X,z];refine⟨aI,?_⟩;refine as8 ok hF O (iZ:=iZ) (y:=y) (m:=m) (A:=A) (g8:=(aj 9216000000).1+1) (gF:=(aj 9216128448).1+1) (d:=x) oS Q Y D f1 f2 hx (ct g+1) 0 x j (dV.new g x) _ _ (.p .nils) (.p .nils) (.p .nils) ?_ ?_ ?_ ?_ ?_ ?_ ?_ ?_ Lx (by unfold ct;omega) (Inv.start cN hs) J J ⟨cT _,cE _,cE _⟩ ?_
 .simp only[go_sem]
 .simp only[go_sem]
 .simp only[go_sem]
 .simp only[go_sem]
 .simp only[go_sem]
 .simp only[go_sem]
 .simp only[go_sem]
 .refine⟨?_,?_,?_,?_,aY.nil,aY.nil,aY.nil⟩
  .simp only[bU (f (a:=9216000000) rfl).symm,bU (f (a:=9216128448) rfl).symm,bS]
  .simp only[bU (N (a:=9216000000) rfl).symm,bU (N (a:=9216128448) rfl).symm,bB]
  .simp only[go_sem]
  simp only[go_sem,dV.new]
 intro aE B Az qN Z T H u dD;simp only[go_sem]at T H;have h8:=u.b8;have hf:=u.bF;simp only[go_sem,ape,T,H,h8,hf,L,M];refine⟨_,Az,qN,Z,rfl,rfl,?_,?_,?_,?_,λid R=>?_⟩
 .exact(bU (f rfl).symm).trans u.bS
 .exact u.gd.of_eq (bU U)
 .exact u.gp.of_eq (bU U)
 .exact u.gf.of_eq (bU U)
 have a:∀ac,vj ac->id≠ac:=λac hy e=>R (.inl (e▸hy));refine(bU (a _ rfl)).trans ((dD id R).trans ?_);simp only[bU (a 9216000000 rfl),bU (a 9216128448 rfl)]
def zU{c:c6}{x:PV}{aj:aB}(j:aY E D B h (.one c) aj):gr aj (.tup [.one c,.one (.p x)])=some (.tup [.one (aX D B h),.one (.p x)]):=by obtain⟨m,o,g,H,f⟩:=j.gR;cases g;rcases f with rfl|rfl<;>simp[gr,nx,tH,k5,kj,H,(show Go.Abs.gR aj (.p x)=some (.p x,[],[])from rfl),lG,pB,nD,zu]
def KH{aj:aB}{id g g0 o l f:Nat}(H:aj id=(g0,some (.arr u f h))):jA aj (.one (.hsl id g z o l))=[id]:=(DD H:l7 aj 6 (.hsl id g z o l)=[id])
def axZ:(S.sites 144).contains 144:=ah
def aqP:(S.sites 144).contains 171:=ah
def as6:(S.sites 144).contains 172:=ah
def agG{S:eH}{n k:Nat}{b:Bool}(H:k<n)(g:n<=I S)(h:S.getD k true=b):(S.take n)[k]?=some b:=by rw[nN,aH H];rw[dS]at h;obtain⟨c,f⟩:=aR (show k<I S by omega);rw[f]at h |-;exact congrArg some h
def aqz(ao:cK F g):aJ S 118 [df F g] (.tup [.one (aX uO 5 (mv (eD F g))),.one (.p (.int .i64 0))]):=by
 have ok:=ao.ok;have hl:=ok.hl;have hF:F<=1000:=by have:=ao.fing;omega
 have hJ:I (aL g)<=I g:=uq g (I g);have an:=ao.len;have gk:ct g<=4000000:=by unfold ct;omega
 have y:2*I g<=ct g:=by unfold ct;omega
 have pr:=R1 F g hl;rw[Ng ao.chk,aw ao.ne,s9]at pr;have pb:=aCT ok;have hm:=uu ok;have m2:=tP (a:=I g) J;have nk:2*I g<=140737488355328:=J;have wN:List.replicate (2*I g) [PV.bool false]=eC ((eY (cA g) (ct g) 0).2.take (2*I g)):=by show _=eC ((List.replicate (ct g) false).take (2*I g));rw[List.take_replicate,wS y];simp
 have Y:∀aj:aB,eF aj [] 7552384064 ((RV.one (.own 4 1 (eC (DW g)))).fi (S.lone 7552384064))=some (.one (.hsl 7552384064 ((aj 7552384064).1+1) 1 0 (I g)),[(7552384064,((aj 7552384064).1+1,some (.arr 4 1 (eC (DW g)))))]):=by intro aj;rw[show S.lone 7552384064=false by kernel_rfl];show some (V.one (.hsl 7552384064 ((aj 7552384064).1+1) 1 0 (I (eC (DW g)))),_)=_;rw[show(eC (DW g)).length=I g by simp[vM]];rfl
 have kh:S.shared 144:=ah;refine bt al1 ?_;simp only[go_sem,aco,N6,a_ pr cS,ajH,a_ pb (Y _),m2,nk,wN];refine c_ (λk j aj=>j 4=.one (.p (o_ F g))/\j 7=.one (.hsl 7552320448 1 1 0 (2*I g))/\j 8=.one (.hsl 7552384064 1 1 0 (I g))/\j 29=aC ((2*I g:Nat):Int)/\j 30=aC k/\
   aj 7552320448=(1,some (.arr 4 1 (eC ((eY (cA g) (ct g) k).2.take (2*I g)))))/\aj 7552384064=(1,some (.arr 4 1 (eC (DW g))))/\
   ∃Q,j 6=.one Q/\aY 7552704448 uO 5 (mv ((eY (cA g) (ct g) k).1.map (jC F g))) (.one Q) aj) 0 (2*I g) (cE _) ?_ ?_
 .simp only[go_sem];first|exact⟨rfl,rfl,rfl,_,rfl,.inl ⟨rfl,rfl⟩⟩|exact⟨rfl,rfl,_,rfl,.inl ⟨rfl,rfl⟩⟩|exact⟨rfl,_,rfl,.inl ⟨rfl,rfl⟩⟩|exact⟨rfl,rfl,rfl,rfl,_,rfl,.inl ⟨rfl,rfl⟩⟩
 rintro k j aj hk ⟨H,L,x,M,O,bS,bB,Q,N,go⟩
 by_cases A:k<2*I g
 .have aO:((k:Int)<((2*I g:Nat):Int)):=J;have w1:=cP (n:=k) J;obtain⟨cN,_⟩:=Rp hm k J;have m:=Gy (cA g) (ct g) k;have Hx:=Kj (cA g) (ct g) k;have D:=yX (cA g) (ct g) k;generalize hw:eY (cA g) (ct g) k=st at*;obtain⟨o,z⟩:=st;simp only at cN m Hx bS go;unfold vC at D;cases hs:z.getD k true with
  |true=>simp only[hs,if_true]at D;have T:=qG (agG A J hs);simp only[go_sem,Oz,H,N,L,x,M,O,bS,bB,A,aO,T,w1,D];exact⟨Q,rfl,go⟩
  |false=>
   simp only[hs,eX,if_false,m]at D;have T:=qG (agG A J hs);obtain⟨t,ht⟩:=agn (cA g) (k:=ct g) hs;have A5:((gW (cA g) (ct g+1) k z).1).foldl (dV.add F g) (dV.new g k)=jC F g (gW (cA g) (ct g+1) k z).1:=by unfold jC;rw[ht];rfl
   have eV:=aiq (F:=F) (t:=t) A;rw[<-ht]at eV;simp only[go_sem,Oz,H,N,L,x,M,O,bS,bB,A,aO,T,w1,kh];have u:jA aj (.one (.hsl 7552320448 1 1 0 (2*I g)))=[7552320448]:=KH bS;have P9:jA aj (.one (.hsl 7552384064 1 1 0 (I g)))=[7552384064]:=KH bB;refine qq (P:=akb F g 7552320448 1 k z aj) uR (aza ok hF (λid h=>sP (by rw[h];exact axZ)) (qf ?_) (qf ?_) U U U ?_ ?_ A m cN hs bS bB) ?_
   .simp only[eR,lI,u,P9];simp
   .simp only[eR,lI,u,P9];simp
   .exact aqP
   .exact as6
   rintro v bY ⟨f,cd,cp,cf,hf,rfl,ad,gd,gp,gf,dD⟩
   rw[A5]at hf;rw[<-hf]at eV;have Of:=(dD 7552384064 U).trans bB;have B:=go.of_eq (dD 7552704448 U);have sB:mv (o.map (jC F g))++[f.ps]=mv ((eY (cA g) (ct g) (k+1)).1.map (jC F g)):=by rw[D,hf];simp
   have X:(eY (cA g) (ct g) (k+1)).2=(gW (cA g) (ct g+1) k z).2:=by rw[D]
   have Z:I (mv (o.map (jC F g)))<=k:=by simpa using Hx
   generalize mv (o.map (jC F g))=ag at B sB Z;have E:=gd;rcases gd with⟨e,_⟩|⟨_,gg,e,ap⟩
   .simp at e;exact absurd e eV
   cases e;simp only[go_sem,H,N,L,x,M,O,afo];rw[cH]at E;obtain⟨fr,hx,yF,A4⟩:=alQ (aj:=dE bY 7552704384 ((bY 7552704384).1+1,some (.jw uO 5 [[.p (.bool f.gZ),.hsl 9216512256 gg 1 0 (I f.cn),cp,cf,.p (.bool f.outer)]]))) (s:=7552704384) sW (E.of_eq (bU U)) (gp.of_eq (bU U)) (gf.of_eq (bU U));have R:∀i,i≠9216512256->i≠9216896192->i≠9216896448->i∉fr:=λi a b c h=>by
    rcases A4 i h with h|h|h
    .exact a h
    .exact b h
    exact c h
   refine akP (y:=7552704448) (id:=7552704448) (bytes:=88) (B.of_eq (bU U)) hx yF (R _ U U U) (R _ U U U) (.inl rfl) (by simp only[dw,eK];omega) λc bJ hc bl=>?_;have ab:=(bl 7552320448 U U (R _ U U U)).trans ((bU U).trans ad);have ac:=(bl 7552384064 U U (R _ U U U)).trans ((bU U).trans Of);simp only[go_sem,H,N,L,x,M,O,ab,ac,w1,A,X];refine⟨c,rfl,?_⟩;rw[<-sB];exact hc
 have:k=2*I g:=J;subst this;simp only[go_sem,Oz,aaE,H,N,L,x,M,O,dW];have:=adQ hm (ct g) y (cT _);unfold eD fO;rw[this];exact zU go
structure aU where
 l:aa
 d:Bool
abbrev cY:=List aU
def aU.ps(p:aU):b_:=[.int .i64 p.l.kind,.int .i64 p.l.gate,.int .i64 p.l.ay,.int .i64 p.l.id,.int .i64 p.l.sign,.bool p.l.over,.bool p.d]
abbrev fA(o:cY):s_:=o.map aU.ps
abbrev oO:Nat:=175
def lD:aa:=⟨0,0,0,0,0,false⟩
def cq(g:ae):cY:=(List.range (I g)).map λi=>⟨g.getD i lD,jK g i⟩
def cU(g:ae):I (cq g)=I g:=by simp[cq]
def nR{i:Nat}{l:aa}(h:g[i]?=some l):(cq g)[i]?=some ⟨l,jK g i⟩:=by have:=(cD.1 h).1;simp only[cq,fY,qx this,se,dS,h,mO]
def lQ{o:cY}{k:Nat}{p:aU}(h:o[k]?=some p):(fA o)[k]?=some p.ps:=by simp[h]
def qu(L:aG)(D:aG)(v:Nat):aG:=D.foldl (λL d=>L.set d v) L
def rN:CU->Nat->aG->aG
 |[],_,L=>L
 |f::r,j,L=>rN r (j+1) (qu L f.cn j)
def p_(F:Nat)(g:ae):aG:=rN (eD F g) 0 (List.replicate (2*I g) 0)
def MQ(L D:aG)(v:Nat):I (qu L D v)=I L:=by
 induction D generalizing L with
 |nil=>rfl
 |cons d D f=>show(qu (L.set d v) D v).length=_;rw[f];simp
def azS(L a b:aG)(v:Nat):qu L (a++b) v=qu (qu L a v) b v:=by simp[qu]
def UE(fs:CU):∀(j:Nat) (L:aG),I (rN fs j L)=I L:=by
 induction fs with
 |nil=>intro j L;rfl
 |cons f r g=>intro j L;show(rN r (j+1) _).length=_;rw[g,MQ]
def aws(a:CU)(f:dV):∀(j:Nat) (L:aG),rN (a++[f]) j L=qu (rN a j L) f.cn (j+I a):=by
 induction a with
 |nil=>intro j L;rfl
 |cons g r h=>intro j L;show rN (r++[f]) (j+1) _=_;rw[h];simp[rN];congr 1;omega
def auZ(F:Nat)(g:ae):∀(w:aG) (f:dV),(w.foldl (dV.add F g) f).cn=f.cn++w.filter (λx=>decide (x<2*I g)):=by
 intro w
 induction w with
 |nil=>intro f;simp
 |cons x w j=>
  intro f;rw[vi,j];unfold dV.add;by_cases h:x<2*I g
  .rw[aH h,List.filter_cons_of_pos (by simpa using h)];simp
  rw[aw h,Uf (by simpa using h)]
def Ez(F:Nat)(g:ae)(w:aG):(jC F g w).cn=w.filter (λx=>decide (x<2*I g)):=by unfold jC;rw[auZ];rfl
def abl(h:f∈eD F g):∀d∈f.cn,d<2*I g:=by
 obtain⟨w,_,rfl⟩:=eg.1 h;intro d H;rw[Ez]at H
 simpa using(uQ.1 H).2
def RZ(ok:gy F g)(h:f∈eD F g):I f.cn<=ct g:=by obtain⟨w,H,rfl⟩:=eg.1 h;rw[Ez];exact lX (List.length_filter_le _ _) (LL ok w H).2.1
def aeK(F:Nat)(g:ae):I (eD F g)=oi g:=by simp[eD,oi]
def Ul{o:CU}{k:Nat}{p:dV}(h:o[k]?=some p):(mv o)[k]?=some p.ps:=by simp[h]
abbrev gT(F:Nat)(ls:ae):PV:=.box [.int .i64 F,.sl (fA (cq ls)),.sl (mv (eD F ls)),.sl (cg (p_ F ls)),.int .i64 (ai aa.aM ls:Nat),.int .i64 ((ai aa.aF ls/2:Nat):Int),.sl (cg (jh ls F))]
abbrev Qn(F:Nat)(ls:ae)(pc cf:c6):eG:=[.p (.int .i64 F),pc,cf,.hsl 5248256448 1 1 0 (2*I ls),.p (.int .i64 (ai aa.aM ls:Nat)),.p (.int .i64 ((ai aa.aF ls/2:Nat):Int)),.hsl 5248256960 1 1 0 (F+1)]
def aCx{F:Nat}{g:ae}(ar:cK F g){pc h:c6}{j:bn}{aj:aB}(h4:j 4=.one h)(h6:j 6=.one (.bh 5248257088 1 0))
  (bB:aj 5248257088=(1,some (.var (Qn F g pc h)))) (B:aj 5248256448=(1,some (.arr 3 1 (cg (List.replicate (2*I g) 0))))) (E:aj 5248256960=(1,some (.arr 3 1 (cg (jh g F))))) (gp:aY 5248896448 oO 7 (fA (cq g)) (.one pc) aj) (gf:aY 5248064064 uO 5 (mv (eD F g)) (.one h) aj)
  (hq:∀u A,u 6=j 6->A 5248257088=(1,some (.var (Qn F g pc h)))->A 5248256448=(1,some (.arr 3 1 (cg (p_ F g))))->A 5248256960=(1,some (.arr 3 1 (cg (jh g F))))->aY 5248896448 oO 7 (fA (cq g)) (.one pc) A->aY 5248064064 uO 5 (mv (eD F g)) (.one h) A->bP S .all RX Q u A):
  bP S .all TN Q j aj:=by
 have ok:=ar.ok;have hl:=ok.hl;have ap:=ar.len;have hJ:I (aL g)<=I g:=uq g (I g);have gk:ct g<=4000000:=by unfold ct;omega
 have xD:I (eD F g)<=ct g:=by rw[eD,cH];exact Kj (cA g) (ct g) _
 obtain⟨g0,aaA⟩:∃m,h=.hsl 5248064064 m 5 0 (I (eD F g)):=by
  rcases gf with⟨e,_⟩|⟨_,m,e,hb⟩
  .have h1:I (eD F g)=0:=by simpa using congrArg List.length e
   rw[aeK,ar.nw]at h1;omega
  cases e;exact⟨m,by rw[cH]⟩
 have yA:=h4;rw[aaA]at yA;simp only[go_sem,TN,yA];refine c_ (λk u A=>u 6=j 6/\u 78=.one h/\u 79=aC (I (eD F g))/\u 80=aC k/\A 5248257088=(1,some (.var (Qn F g pc h)))/\A 5248256448=(1,some (.arr 3 1 (cg (rN ((eD F g).take k) 0 (List.replicate (2*I g) 0)))))/\A 5248256960=(1,some (.arr 3 1 (cg (jh g F))))/\
   aY 5248896448 oO 7 (fA (cq g)) (.one pc) A/\aY 5248064064 uO 5 (mv (eD F g)) (.one h) A) 0 (I (eD F g)) (cE _) ?_ ?_
 .simp only[go_sem,bB,B,E,rN,aaA];exact⟨rfl,gp,by first|exact gf|(rw[<-aaA];exact gf)⟩
 rintro k u A hk ⟨Z,ab,y,H,bB,B,E,gp,gf⟩
 rw[h6]at Z;by_cases aq:k<I (eD F g)
 .have aO:((k:Int)<(I (eD F g):Int)):=J;obtain⟨f,hf⟩:=aR aq;have I4:=Ul hf;have pS:=ch hf;have DT:=RZ ok pS;have ag:=abl pS;have w1:=cP (n:=k) J;have gC:rN ((eD F g).take (k+1)) 0 (List.replicate (2*I g) 0)=qu (rN ((eD F g).take k) 0 (List.replicate (2*I g) 0)) f.cn k:=by
   rw[iJ,hf];show rN (_++[f]) 0 _=_;rw[aws,iM,wS J,kA]
  have X:I (rN ((eD F g).take k) 0 (List.replicate (2*I g) 0))=2*I g:=by rw[UE,Tq]
  generalize rN ((eD F g).take k) 0 (List.replicate (2*I g) 0)=L at B gC X;obtain⟨m,yC,bf⟩:∃m,h=.hsl 5248064064 m 5 0 (I (mv (eD F g)))/\A 5248064064=(m,some (.arr uO 5 (mv (eD F g)))):=by
   rcases gf with⟨e,_⟩|⟨_,m,e,hb⟩
   .have:I (eD F g)=0:=by simpa using congrArg List.length e
    omega
   cases e;exact⟨m,rfl,hb⟩
  rw[cH]at yC;have x:=ab;rw[yC]at x;simp only[go_sem,VI,Z,x,y,H,bB,B,E,bf,I4,dV.ps,aq,aO];refine c_ (λM D z=>D 6=.one (.bh 5248257088 1 0)/\D 11=aC k/\D 78=.one h/\D 79=aC (I (eD F g))/\D 80=aC k/\D 86=.one (.p (.sl (cg f.cn)))/\D 87=aC (I f.cn)/\D 88=aC M/\
   z 5248257088=(1,some (.var (Qn F g pc h)))/\z 5248256448=(1,some (.arr 3 1 (cg (qu L (f.cn.take M) k))))/\z 5248256960=(1,some (.arr 3 1 (cg (jh g F))))/\aY 5248896448 oO 7 (fA (cq g)) (.one pc) z/\aY 5248064064 uO 5 (mv (eD F g)) (.one h) z) 0 (I f.cn) (cE _) ?_ ?_
  .simp only[go_sem,Z,yC,x,y,H,bB,B,E,qu,IH];refine⟨rfl,gp.of_eq (bU U),?_⟩;first|exact gf.of_eq (bU U)|(rw[<-yC];exact gf.of_eq (bU U))
  rintro M D z hj ⟨p6,QT,N,R,ad,Y,O,ac,cB,cL,cC,cp,di⟩
  by_cases vz:M<I f.cn
  .have Jb:((M:Int)<(I f.cn:Int)):=J;obtain⟨d,hd⟩:=aR vz;have mf:=jZ hd;have T:=ag d (ch hd);have w2:=cP (n:=M) J;have ig:(qu L (f.cn.take M) k).set d k=qu L (f.cn.take (M+1)) k:=by rw[iJ,hd,azS];rfl
   have gV:=LC (qu L (f.cn.take M) k) d k;rw[ig]at gV;obtain⟨v0,an⟩:=aR (L:=qu L (f.cn.take M) k) (k:=d) (by rw[MQ,X];exact T);have hv:=jZ an;simp only[go_sem,aaV,p6,QT,N,R,ad,Y,O,ac,cB,cL,cC,vz,Jb,mf,T,hv,gV,w2];exact⟨cp.of_eq (bU U),di.of_eq (bU U)⟩
  have:M=I f.cn:=J;subst this;rw[jN,<-gC]at cL;simp only[go_sem,aaV,alL,p6,QT,N,R,ad,Y,O,ac,cB,cL,cC,dW,w1,aq,h6];exact⟨cp,di⟩
 have:k=I (eD F g):=J;subst this;rw[jN]at B;simp only[go_sem,VI,Z,ab,y,H,dW];exact hq _ _ (by simp only[go_sem,Z,h6]) bB B E gp gf
def WU(ar:cK F g):aJ S 82 [df F g] (AM (gT F g) (.int .i64 0)):=by
 have ok:=ar.ok;have hl:=ok.hl;have ap:=ar.len;have Cl:=ar.fing;have pf:=aqz ar;have ag:=abh F g hl;have ab:=aoR F g hl;have lo:S.lone 5248064064=false:=ah;have m2:=tP (a:=I g) J;have wF:=cP (n:=F) J;have r1:2*I g*8<=140737488355328:=J;have r2:(F+1)*8<=140737488355328:=J;have e1:List.replicate (2*I g) [PV.int .i64 0]=cg (List.replicate (2*I g) 0):=aQ;have e2:List.replicate (F+1) [PV.int .i64 0]=cg (tQ g F 0):=by rw[WV];simp
 refine bt ajI ?_;simp only[go_sem,abO,anp];refine akJ pf lo λR pG yC nQ=>?_;have Od:=nQ 5248000000 U;simp only[go_sem]at Od;simp only[go_sem,Od,m2,wF,r1,r2,abS,Qs,ek ag,ek ab,e1,e2];refine⟨aI,?_⟩;have hz:∀an,an≠5248064064->an≠5248000000->pG an=(0,none):=λan a b=>(nQ an a).trans (bU b);have B:=hz 5248256448 U U;have z2:=hz 5248256960 U U;have z3:=hz 5248257088 U U;refine c_ (λk j aj=>j 4=.one R/\j 6=.one (.bh 5248257088 1 0)/\j 7=fT (c9 g k)/\j 42=.one (.p (c8 g))/\j 43=aC (I g)/\j 44=aC k/\
   aj 5248256448=(1,some (.arr 3 1 (cg (List.replicate (2*I g) 0))))/\aj 5248256960=(1,some (.arr 3 1 (cg (tQ g F k))))/\
   ∃pc,aj 5248257088=(1,some (.var (Qn F g pc R)))/\aY 5248896448 oO 7 (fA ((cq g).take k)) (.one pc) aj/\aY 5248064064 uO 5 (mv (eD F g)) (.one R) aj) 0 (I g) (cE _) ?_ ?_
 .simp only[go_sem,B,z2,z3];refine⟨rfl,rfl,.p .nils,rfl,.inl ⟨rfl,rfl⟩,yC.of_eq ?_⟩;simp only[go_sem]
 rintro k j aj hk ⟨y,H,Q,T,X,N,z,x,pc,bB,gp,gf⟩
 by_cases L:k<I g
 .obtain⟨l,f⟩:=aR L;have hi:=fP f;have aO:((k:Int)<(I g:Int)):=J;have w1:=cP (n:=k) J;have Z:=nR f;cases hp:(l.kind==1)with
  |false=>
   have h:l.aM=false:=hp;have Y:jK g k=false:=by simp[jK,f,h]
   rw[Y]at Z;have hd:=NH f h;have A0:=alr (F:=F) f h;have gC:fA ((cq g).take (k+1))=fA ((cq g).take k)++[(aU.mk l false).ps]:=by rw[iJ,Z];simp
   simp only[go_sem,PK,y,H,Q,T,X,N,hi,pF,aa.ps,aO,L,hp,bB,z,x];refine nP (y:=5248896448) (id:=5248896448) (bytes:=56) (B:=[(aU.mk l false).ps]) (rd:=[5248896384]) (gp.of_eq (by simp only[bU,aT,Nat.reduceEqDiff,if_false])) (by simp[fz,aT,aU.ps]) (.inl rfl) (by simp only[cH,dw,eK,iM,cU];omega) λc bY r u hc A hr=>?_;have M:∀i,i≠5248896448->i≠5248896384->i≠5248576128->i≠5248512128->i≠5248256960->bY i=aj i:=λi a b c d e=>(A i a a).trans (by simp only[aT,aw b,aw c,aw d,aw e])
   have O:=(A 5248256960 U U);simp only[aT,Nat.reduceEqDiff,if_false,if_true,x]at O;have Of:=(M 5248257088 U U U U U).trans bB;have m:=(M 5248256448 U U U U U).trans z;simp only[go_sem,y,H,Q,T,X,N,Of,m,O,w1,hd,A0,L];refine⟨?_,?_⟩
   .rcases hr with⟨rfl,rfl⟩|⟨rfl,rfl⟩|⟨rfl,rfl⟩<;>kernel_rfl
   refine⟨c,rfl,?_,?_⟩
   .rw[gC];exact hc.of_eq (bU U)
   exact gf.of_eq ((bU U).trans (M _ U U U U U))
  |true=>
   have h:l.aM:=hp;have Y:jK g k=c9 g k:=by simp[jK,f,h]
   rw[Y]at Z;have hd:=PI f h;have gC:fA ((cq g).take (k+1))=fA ((cq g).take k)++[(aU.mk l (c9 g k)).ps]:=by rw[iJ,Z];simp
   have zM:=ok.ax.fK l (ch f) h;obtain⟨G,hG⟩:=qX zM.g0;have Lu:G<=F:=by have:=zM.g1;omega
   have IT:G<F+1:=J;have tY:=jZ (an3 (L:=g) (k:=k) Lu);have cN:di (g.take k) G<=k:=Au _ _ _;have w2:=cP (n:=di (g.take k) G) J;have E:=LC (tQ g F k) G (di (g.take k) G+1);rw[<-alf f h hG]at E;simp only[go_sem,PK,y,H,Q,T,X,N,hi,pF,aa.ps,aO,L,hp,hG,bB,z,x,tY,IT,w2,E];refine⟨aI,?_⟩;refine nP (y:=5248896448) (id:=5248896448) (bytes:=56) (B:=[(aU.mk l (c9 g k)).ps]) (rd:=[5248896384]) (gp.of_eq (by simp only[bU,aT,Nat.reduceEqDiff,if_false])) (by simp[fz,aT,aU.ps,hG]) (.inl rfl) (by simp only[cH,dw,eK,iM,cU];omega) λc bY r u hc A hr=>?_
   have M:∀i,i≠5248896448->i≠5248896384->i≠5248576128->i≠5248512128->i≠5248256960->bY i=aj i:=λi a b c d e=>(A i a a).trans (by simp only[aT,aw b,aw c,aw d,aw e]);have O:=(A 5248256960 U U);simp only[aT,Nat.reduceEqDiff,if_false,if_true,x]at O;have Of:=(M 5248257088 U U U U U).trans bB;have m:=(M 5248256448 U U U U U).trans z;simp only[go_sem,y,H,Q,T,X,N,Of,m,O,w1,hd,L];refine⟨?_,?_⟩
   .rcases hr with⟨rfl,rfl⟩|⟨rfl,rfl⟩|⟨rfl,rfl⟩<;>kernel_rfl
   refine⟨c,rfl,?_,?_⟩
   .rw[gC];exact hc.of_eq (bU U)
   exact gf.of_eq ((bU U).trans (M _ U U U U U))
 have:k=I g:=J;subst this;rw[e_ (by rw[cU];exact cT _)]at gp;rw[abZ]at x;simp only[go_sem,PK,y,H,Q,T,X,N,dW];refine aCx ar (pc:=pc) (h:=R) ?_ ?_ bB z x gp gf ?_
 .simp only[go_sem,y]
 .simp only[go_sem,H]
 intro aE ao q6 cB cL cC ad ac;simp only[go_sem,H]at q6;obtain⟨rp,np,_⟩:=ad.acT (n:=4);obtain⟨rS,nf,_⟩:=ac.acT (n:=4);have D:List.take (2*I g) (cg (p_ F g))=cg (p_ F g):=e_ (by simp[p_,UE]);have t2:List.take (F+1) (cg (jh g F))=cg (jh g F):=e_ (by simp[jh]);have n1:2*I g<=I (p_ F g):=by simp[p_,UE]
 have n2:F+1<=I (jh g F):=by simp[jh]
 simp only[go_sem,RX,q6];simp only[go_sem,gr,nx,tH,k5,kj,gR,cB,cL,cC,np,nf,D,t2,n1,n2];rfl
def nK{x:Int}(m: -9223372036854775808<=x)(j:x<=9223372036854775807):IntKind.i64.wrap x=x:=by
 have e:(2 ^ IntKind.i64.bits:Int)=18446744073709551616:=U;have e2:(2 ^ (IntKind.i64.bits-1):Int)=9223372036854775808:=U;unfold IntKind.wrap;simp only[e,e2];by_cases h:0<=x
 .have f:x%18446744073709551616=x:=J;rw[f];have H:¬x≥9223372036854775808:=J;simp[H]
 have f:x%18446744073709551616=x+18446744073709551616:=J;rw[f];have H:x+18446744073709551616≥9223372036854775808:=J;have g:IntKind.i64.signed:=rfl;simp[H,g]
def aEX(l:cY):au 7 (fA l):=by simp[au,aU.ps]
def CX(l:cY):((fA l).all λe=>e.all PV.scalar):=by simp[aU.ps,PV.scalar]
abbrev Ek(l x:cY)(k:Nat):cY:=l.take (k+1)++x++l.drop (k+1)
def afU(a b:cY):fA (a++b)=fA a++fA b:=aQ
def asC(p:aU)(t:cY)(hl:I (p::t)<=1000000):aJ S 178 [.one (.p (.sl (fA (p::t))))] (.one (aX oO 7 (fA (p::t)))):=by
 have hs:=aEX (p::t);have H:(0+I (fA (p::t)))*56<=mi:=by unfold mi;rw[cH];omega
 refine bt aDu ?_;obtain⟨E,h,hq⟩:∃E h,fA (p::t)=E::h:=⟨_,_,rfl⟩;rw[hq]at hs H |-;have A:E::h≠[]:=aQ;have u:aX oO 7 (E::h)=.own oO 7 (E::h):=aw A;rw[u];unfold mi at H;simp only[kA,dw]at H;simp only[au,mN]at hs;simp only[go_sem,apW,af,au];simp only[hs,H,not_true_eq_false,if_true,if_false];simp only[go_sem,af,au];exact E3 sW rfl
def sn(g A b:Int)(p:aU):aU:=if(p.l.kind==1)&&((p.l.gate==g)&&decide (A<p.l.ay))then{p with l:={p.l with ay:=p.l.ay+b}}else p
abbrev lz(l:cY)(g ab b:Int):cY:=l.map (sn g ab b)
def akX(id:Nat)(h:s_)(c:c6)(aj:aB)(v:V)(A:aB):Prop:=v=.tup []/\aY id oO 7 h (.one c) A/\dG (· =id) aj A
def aGn{al:cG}{aj:aB}{id:Nat}{l:cY}{c:c6}{g A b:Int}(o:l=[]\/al.ok id)(hl:I l<=1000000)(hb: -100<=b/\b<=100)(hr:∀p∈l,-1000000<=p.l.ay/\p.l.ay<=1000000)(h:aY id oO 7 (fA l) (.one c) aj):
  ∃v f,je S 176 [.one c,aC g,aC A,aC b] al aj v f/\akX id (fA (lz l g A b)) c aj v f:=by
 refine nc aET (jn rfl) ?_;rcases h with⟨y,H⟩|⟨aN,Z,H,hC⟩
 .cases H;have xF:l=[]:=by simpa using y
  subst xF;have hz:¬(((0:Nat):Int)<((0:Nat):Int)):=J;simp only[go_sem,aeE,af,au];refine c_ (λk j f=>k=0/\j 10=aC ((0:Nat):Int)/\j 11=aC ((0:Nat):Int)/\f=aj) 0 0 (cT _) ?_ ?_
  .simp only[go_sem];exact rfl
  rintro k j f _ ⟨rfl,D,fe,rfl⟩
  simp only[go_sem,G_,D,fe,hz,af,au];exact⟨rfl,.inl ⟨rfl,rfl⟩,λ_ _=>rfl⟩
 cases H;have o:=o.resolve_left (by simpa using aN);simp only[go_sem,aeE,af,au];refine c_ (λk j f=>j 0=.one (.hsl id Z 7 0 (I l))/\j 1=aC g/\j 2=aC A/\j 3=aC b/\j 10=aC (I l)/\j 11=aC k/\f id=(Z,some (.arr oO 7 (fA ((lz (l.take k) g A b)++l.drop k))))/\dG (· =id) aj f) 0 (I l) (cE _) ?_ ?_
 .simp only[go_sem,hC];refine⟨?_,?_⟩
  .simp[lz]
  exact dG.refl _ _
 rintro k j f hk ⟨L,y,H,Q,D,fe,z,N⟩
 by_cases M:k<I l
 .have X:((k:Int)<(I l:Int)):=J;obtain⟨p,hp⟩:=aR M;have R:=cP (n:=k) J;obtain⟨r1,r2⟩:=hr p (ch hp);have wr:=nK (x:=p.l.ay+b) J J;have zK:l.drop k=p::l.drop (k+1):=by
   obtain⟨hh,rfl⟩:=cD.1 hp;exact Kv hh
  have O:I ((lz (l.take k) g A b)++l.drop k)=I l:=by simp[lz];omega
  have jR:((lz (l.take k) g A b)++l.drop k)[k]?=some p:=by
   rw[vI (by simp[lz];omega)];have:k-I (lz (l.take k) g A b)=0:=by simp[lz];omega
   rw[this,zK];rfl
  have ig:((lz (l.take k) g A b)++l.drop k).set k (sn g A b p)=(lz (l.take (k+1)) g A b)++l.drop (k+1):=by
   have e1:I (lz (l.take k) g A b)=k:=by simp[lz];omega
   rw[J3 _ _ J,e1,ze,zK,Vt,iJ,hp];simp[lz]
  have E:=lQ jR;have F:fA (((lz (l.take k) g A b)++l.drop k).set k (sn g A b p))=(fA ((lz (l.take k) g A b)++l.drop k)).set k (sn g A b p).ps:=by simp[fA,xf]
  rw[ig]at F;have T:sn g A b p=p->fA ((lz (l.take k) g A b)++l.drop k)=fA ((lz (l.take (k+1)) g A b)++l.drop (k+1)):=λe=>by rw[F,e];obtain⟨hh,he⟩:=cD.1 E;rw[<-he,Ra]
  generalize(lz (l.take k) g A b)++l.drop k=m at z jR E F T O;have iB:k<I (fA m):=by rw[cH];omega
  cases u:(p.l.kind==1)with
  |false=>have e:=T (by unfold sn;rw[u];rfl);simp only[go_sem,G_,L,y,H,Q,D,fe,z,E,aU.ps,M,X,u,R,o,af,au];exact⟨by rw[e],N⟩
  |true=>
   cases B:(p.l.gate==g)with
   |false=>have e:=T (by unfold sn;rw[u,B];rfl);simp only[go_sem,G_,L,y,H,Q,D,fe,z,E,aU.ps,M,X,u,B,R,o,af,au];exact⟨by rw[e],N⟩
   |true=>
    by_cases Y:A<p.l.ay
    .have e:(sn g A b p).ps=[.int .i64 p.l.kind,.int .i64 p.l.gate,.int .i64 (p.l.ay+b),.int .i64 p.l.id,.int .i64 p.l.sign,.bool p.l.over,.bool p.d]:=by unfold sn;rw[u,B,xi Y];rfl
     rw[e]at F;simp only[go_sem,G_,L,y,H,Q,D,fe,z,E,aU.ps,M,X,u,B,Y,R,wr,o,iB,af,au];refine⟨?_,?_⟩
     .first|rw[F]|(rw[F];rfl)
     exact N.dE rfl _
    have e:=T (by unfold sn;rw[u,B,tJ Y];rfl);simp only[go_sem,G_,L,y,H,Q,D,fe,z,E,aU.ps,M,X,u,B,Y,R,o,af,au];exact⟨by rw[e],N⟩
 have:k=I l:=J;subst this;simp only[go_sem,G_,L,y,H,Q,D,fe,dW,af,au];refine⟨rfl,?_,N⟩;rw[jN,Ak,lg]at z;exact .inr ⟨by simpa using aN,Z,by simp[lz],z⟩
def E1(p:aU):Bool:=(p.l.kind==1)&&p.d
def OZ(l:cY)(i:Nat):Bool:=match l[i]? with|some p=>E1 p|none=>false
def acs{l:cY}{i:Nat}{p:aU}(h:l[i]?=some p):OZ l i=E1 p:=by simp[OZ,h]
def tL(l:cY):eh:=(List.range (I l)).find? (OZ l)
def aHr(p:aU):aJ S 156 [.agg (p.ps.map .p)] (dn (E1 p)):=by
 refine bt aFp ?_;unfold E1;cases h:(p.l.kind==1)with
 |true=>simp only[go_sem,abx,aU.ps,h,af,au]
 |false=>simp only[go_sem,abx,aU.ps,h,af,au]
def avx(l:cY)(hl:I l<=1000000):aJ S 155 [.one (.p (.sl (fA l))),.one (.p (.fn 156 [] []))] (fQ (match tL l with|some k=>(k:Int)|none=> -1)):=by
 refine bt auQ ?_;simp only[go_sem,alI,af,au];refine c_ (λk j aj=>j 0=.one (.p (.sl (fA l)))/\j 1=.one (.p (.fn 156 [] []))/\j 7=aC (I l)/\j 8=aC k/\ ∀D,D<k->OZ l D=false) 0 (I l) (cE _) ?_ ?_
 .simp only[go_sem];exact⟨rfl,λD y=>absurd y (mX D)⟩
 rintro k j aj N ⟨m,z,B,g,x⟩
 by_cases A:k<I l
 .have L:((k:Int)<(I l:Int)):=J;obtain⟨p,hp⟩:=aR A;have E:=lQ hp;have M:=cP (n:=k) J;have f:=aHr p;have u:=acs hp;cases F:E1 p with
  |true=>rw[F]at f u;have H:tL l=some k:=Cz A x u;simp only[aU.ps,eR,jS]at f;simp only[go_sem,Ry,m,z,B,g,A,L,E,aU.ps,afm,aD f,H,af,au]
  |false=>
   rw[F]at f u;simp only[aU.ps,eR,jS]at f;simp only[go_sem,Ry,m,z,B,g,A,L,E,aU.ps,afm,aD f,M,af,au];intro D y;rcases m_.1 y with h|rfl
   .exact x D h
   exact u
 have:k=I l:=J;subst this;have H:tL l=none:=Gb x;simp only[go_sem,Ry,agj,m,z,B,g,dW,H,af,au]
abbrev fI:Nat:=49
def sR(l:cY)(A k:Nat):ae:=(List.range k).map λi=>(l.getD ((A+i)%I l) ⟨lD,false⟩).l
def aAr{l:cY}{f k:Nat}{p:aU}(h:l[(f+k)%I l]?=some p):sR l f (k+1)=sR l f k++[p.l]:=by simp[sR,r9,dS,h]
def oo(l:cY):ae:=sR l ((tL l).getD 0) (I l)
abbrev bQ(o:ae):s_:=o.map aa.ps
def E7{c:c6}{x:PV}{aj:aB}(j:aY E D B h (.one c) aj):gr aj (.agg [.p x,c])=some (.agg [.p x,aX D B h]):=by obtain⟨m,o,g,H,f⟩:=j.gR;cases g;rcases f with rfl|rfl<;>simp[gr,nx,k5,kj,H,(show Go.Abs.gR aj (.p x)=some (.p x,[],[])from rfl),lG,pB,nD]
def au3(F:Nat)(l:cY)(hl:I l<=1000000)(x1 x2 x3 x4 x5 x6:PV):aJ S 124 [.one (.p (.box [.int .i64 F,x1,x2,x3,x4,x5,x6])),.one (.p (.sl (fA l)))] (.agg [.p (.int .i64 F),aX fI 6 (bQ (oo l))]):=by
 have g:=avx l hl;have R:∃f,(tL l).getD 0=f/\(l≠[]->f<I l):=by
  refine⟨_,rfl,λQ=>?_⟩;cases h:tL l with
  |none=>exact jr.2 Q
  |some k=>exact gI.1 (Eo h)
 obtain⟨f,H,Y⟩:=R;have vB:((tL l=none/\f=0)\/tL l=some f):=by
  cases h:tL l with
  |none=>rw[h]at H;exact .inl ⟨rfl,H.symm⟩
  |some k=>rw[h]at H;exact .inr (congrArg some H)
 unfold oo;rw[H];have m:∀(j:bn) (aj:aB),j 1=.one (.p (.sl (fA l)))->j 4=.one (.bh 7936000000 1 0)->j 5=.one (.bh 7936064320 1 0)->j 6=aC f->j 17=aC (I l)->j 18=aC ((0:Nat):Int)->aj 7936000000=(1,some (.var [.p (.int .i64 0),.p .nils]))->aj 7936064320=(1,some (.var [.p (.int .i64 F),.p .nils]))->
   bP S .all (.loop Sj) (ld 0 (vb S .all Xv (ns .all [(4,some (some 2))] λv aj=>gr aj v=some (.agg [.p (.int .i64 F),aX fI 6 (bQ (sR l f (I l)))])))) j aj:=by
  intro j aj e1 e4 e5 e6 K9 La b0 B;refine c_ (λk j aj=>j 1=.one (.p (.sl (fA l)))/\j 4=.one (.bh 7936000000 1 0)/\j 5=.one (.bh 7936064320 1 0)/\j 6=aC f/\j 17=aC (I l)/\j 18=aC k/\aj 7936000000=(1,some (.var [.p (.int .i64 0),.p .nils]))/\ ∃c,aj 7936064320=(1,some (.var [.p (.int .i64 F),c]))/\aY 7936384832 fI 6 (bQ (sR l f k)) (.one c) aj) 0 (I l) (cE _) ⟨e1,e4,e5,e6,K9,La,b0,.p .nils,B,.inl ⟨rfl,rfl⟩⟩ ?_;rintro k j aj hk ⟨z,y,A,M,D,E,b0,c,B,Z⟩
  by_cases X:k<I l
  .have aO:((k:Int)<(I l:Int)):=J;have Q:l≠[]:=jr.1 J;have Y:=Y Q;have w1:=cP (n:=k) J;have w2:=vR (a:=f) (b:=k) J;have e2:=tf (f+k) (I l);have hm:=fC (f+k) (show 0<I l by omega);obtain⟨p,hp⟩:=aR hm;have iD:=lQ hp;have hz:¬((I l:Int)=0):=J;have hr:=aAr hp;have O:I (sR l f k)=k:=by simp[sR]
   simp only[go_sem,Sj,z,y,A,M,D,E,B,b0,X,aO,w2,e2,hm,hz,iD,aU.ps];refine nP (y:=7936384832) (id:=7936384832) (bytes:=48) (B:=[p.l.ps]) (rd:=[7936384768]) (Z.of_eq (bU U)) (by simp[fz,aT,aa.ps]) (.inl rfl) (by simp only[cH,O,dw,eK];omega) λc' bY r u hc T N=>?_;have L:=(T 7936064320 U U).trans ((bU U).trans B);have x:=(T 7936000000 U U).trans ((bU U).trans b0);simp only[go_sem,z,y,A,M,D,E,L,x,X,w1];refine⟨?_,c',rfl,?_⟩
   .rcases N with⟨rfl,rfl⟩|⟨rfl,rfl⟩|⟨rfl,rfl⟩<;>kernel_rfl
   rw[hr,bQ,lU];exact hc.of_eq (bU U)
  have:k=I l:=J;subst this;simp only[go_sem,Sj,Xv,z,y,A,M,D,E,B,b0,dW];exact E7 (Z.of_eq (bU U))
 refine bt aA6 ?_;rcases vB with⟨hn,rfl⟩|hs
 .rw[hn]at g;have PJ:¬((0:Int)< -1):=U;simp only[go_sem,aeO,ah9,dP g];exact m _ _ (by simp only[go_sem]) (by simp only[go_sem]) (by simp only[go_sem]) (by simp only[go_sem];rfl) (by simp only[go_sem]) (by simp only[go_sem];rfl) (by simp only[go_sem]) (by simp only[go_sem])
 rw[hs]at g;simp only[go_sem,aeO,ah9,dP g];exact m _ _ (by simp only[go_sem]) (by simp only[go_sem]) (by simp only[go_sem]) (by simp only[go_sem];split<;>(first|rfl|(congr 1;simp;omega))) (by simp only[go_sem]) (by simp only[go_sem];rfl) (by simp only[go_sem]) (by simp only[go_sem])
def azs:aJ S 122 [] (.agg [.p .Bm,.p (.fn 146 [] []),.p (.fn 147 [] []),.p (.fn 148 [] []),.p (.fn 149 [] []),.p (.fn 150 [] []),.p (.fn 151 [] []),.p (.fn 152 [] []),.p (.fn 153 [] []),.p (.fn 154 [] []),.p (.fn 154 [] [])]):=by refine bt aAp ?_;simp only[go_sem,aku,af,au];rfl
def og(k:Int):Int×Int:=if k=2 then(2,0)else if k=5 then(2,1)else if k=7 then(4,2)else(0,0)
def aAG(k:Int):aJ S 123 [aC k] (.tup [.one (.p (.int .i64 (og k).1)),.one (.p (.int .i64 (og k).2))]):=by
 refine bt azV ?_;unfold og;by_cases f:k=2
 .subst f;simp only[go_sem,M9,af,au];rfl
 by_cases H:k=5
 .subst H;simp only[go_sem,M9,af,au];rfl
 by_cases h:k=7
 .subst h;simp only[go_sem,M9,af,au];rfl
 rw[aw f,aw H,aw h];have e2:(k==2)=false:=by simpa using f
 have e5:(k==5)=false:=by simpa using H
 have e7:(k==7)=false:=by simpa using h
 simp only[go_sem,M9,e2,e5,e7,af,au];rfl
def ahf{l:cY}(A:l≠[])(hl:I l<=1000000):aJ S 178 [.one (.p (.sl (fA l)))] (.one (aX oO 7 (fA l))):=by
 cases l with
 |nil=>exact absurd rfl A
 |cons p t=>exact asC p t hl
section
variable {Q:fM} {j:bn} {aj:aB} {os:eZ} {d:eh}
def apy{id:Nat}{l:cY}{c:c6}{g f b:Int}(hl:I l<=1000000)(y: -100<=b/\b<=100)(x:∀p∈l,-1000000<=p.l.ay/\p.l.ay<=1000000)(H:aY id oO 7 (fA l) (.one c) aj)
  (B:∀A,aY id oO 7 (fA (lz l g f b)) (.one c) A->(∀i,i≠id->A i=aj i)->iH S .all os Q (dF j d (.tup [])) A):iU S .all (.sc 176 [.one c,aC g,aC f,aC b]) d os Q j aj:=by
 have m:l=[]\/(f_ (S.ctx .all) 176 [.one c,aC g,aC f,aC b] aj).ok id:=by
  rcases Vp H with⟨h,_⟩|h
  .exact .inl (by simpa using h)
  exact .inr (qf (by simp[h]))
 refine qq (P:=akX id (fA (lz l g f b)) c aj) uR (aGn m hl y x H) ?_;rintro v A ⟨rfl,z,u⟩
 exact B A z u
end
def axS(fs:CU):∀(j:Nat) (L:aG),∀v∈rN fs j L,v∈L\/v<j+I fs:=by
 have m:∀(D:aG) (L:aG) (x:Nat),∀v∈qu L D x,v∈L\/v=x:=by
  intro D
  induction D with
  |nil=>intro L x v h;exact .inl h
  |cons d D g=>
   intro L x v h;rcases g (L.set d x) x v h with h|h
   .rcases OD h with h|h
    .exact .inl h
    exact .inr h
   exact .inr h
 induction fs with
 |nil=>intro j L v h;exact .inl h
 |cons f r g=>
  intro j L v h;rcases g (j+1) (qu L f.cn j) v h with h|h
  .rcases m _ _ _ v h with h|h
   .exact .inl h
   subst h;exact .inr aQ
  exact .inr (by simp only[dw];omega)
def Oa:dV:=⟨false,[],[],[],false⟩
def nh(F:Nat)(g:ae)(d:Nat):dV:=(eD F g).getD ((p_ F g).getD d 0) Oa
def aby(F:Nat)(g:ae):I (p_ F g)=2*I g:=by simp[p_,UE]
def Y1(y:cK F g){d:Nat}(u:d<2*I g):∃j,(p_ F g)[d]?=some j/\(eD F g)[j]?=some (nh F g d)/\j<I (eD F g):=by
 obtain⟨j,H⟩:=aR (L:=p_ F g) (k:=d) (by rw[aby];exact u);have z:0<I (eD F g):=by rw[aeK,y.nw];omega
 have m:j<I (eD F g):=by
  rcases axS (eD F g) 0 _ j (ch H)with h|h
  .have:=Ou h;omega
  omega
 refine⟨j,H,?_,m⟩;obtain⟨f,x⟩:=aR m;unfold nh;rw[dS (l:=p_ F g),H,mO,dS,x];rfl
def afu(b:Nat)(r:Int)(d:Bool):aU:=⟨⟨1,b,r,0,0,false⟩,d⟩
def RQ(g:ae)(A b c:Nat)(f:dV)(h:Bool):cY:=Ek (lz (cq g) b c 2) [afu b (if f.gZ !=h then((c+2:Nat):Int)else((c+1:Nat):Int)) f.gZ,afu b (if f.gZ !=h then((c+1:Nat):Int)else((c+2:Nat):Int)) (!f.gZ)] A
def ahy(F:Nat)(g:ae)(A b c:Nat):Option cY:=
 if(b,c)∈(nh F g (2*A)).places then some (RQ g A b c (nh F g (2*A)) false)
 else if(b,c)∈(nh F g (2*A+1)).places then some (RQ g A b c (nh F g (2*A+1)) true)else none
def Gw (o:Option cY):RV:=.tup [.one (aX oO 7 (fA (o.getD []))),.one (.p (.bool o.isSome))]
def aak(m:cK F g):∀p∈cq g,-1000000<=p.l.ay/\p.l.ay<=1000000:=by
 intro p hp;obtain⟨i,H⟩:=jL hp;have M:i<I g:=by rw[<-cU];exact(cD.1 H).1
 obtain⟨l,hl⟩:=aR M;rw[nR hl]at H;cases H;rcases m.ok.kinds l (ch hl)with h|h
 .have j:=m.ok.ax.fK l (ch hl) h;have:=j.r0;have:=j.r1;have u:di g l.gate.toNat<=I g:=qk _ _;have:=m.len;simp only;omega
 have:=(M6 (f:=F) h).1 (m.bad l (ch hl));simp only[this.1.2];omega
def ahU(g:ae)(A:Nat)(sg:Int)(o:Bool):cY:=Ek (cq g) [⟨⟨2,0,0,((ai aa.aF g/2+1:Nat):Int),sg,o⟩,false⟩,⟨⟨2,0,0,((ai aa.aF g/2+1:Nat):Int),sg,!o⟩,false⟩] A
def kR(n:Nat)(i:Int):Bool:=decide (0<=i)&&decide (i<(n:Int))
def auS(i:Int)(n:Nat):aJ S 145 [aC i,.one (.p (.box [.int .i64 n]))] (dn (kR n i)):=by
 refine bt aCR ?_;unfold kR;by_cases h:0<=i
 .by_cases H:i<(n:Int)
  .simp only[go_sem,Ut,h,H,af,au]
  simp only[go_sem,Ut,h,H,af,au]
 simp only[go_sem,Ut,h,af,au]
def zf(l:ae):((bQ l).all λe=>e.all PV.scalar):=by simp[aa.ps,PV.scalar]
abbrev nm(F:Nat)(L:ae):RV:=.tup [.agg [.p (.int .i64 F),aX fI 6 (bQ L)],.one (.p (.int .i64 0))]
def AJ(F:Nat)(g:ae)(k:Int):Option cY->RV
 |none=>sV 4
 |some L=>if(400:Int)<(I g:Int)+(og k).1\/(100:Int)<((ai aa.aF g/2:Nat):Int)+(og k).2 then sV 7 else nm F (oo L)
def akZ(L:cY):I (oo L)=I L:=by simp[oo,sR]
def RY(l x:cY)(k:Nat):I (Ek l x k)=I l+I x:=by simp only[Ek,fv,iM,l8];omega
end
end Go.Abs
