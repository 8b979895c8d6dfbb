/- A part. -/
import Derived.Test.YtdlmpmilnbhmgaaGreatDoorWc
set_option linter.all false
open List renaming length->I
set_option maxRecDepth 100000
set_option maxHeartbeats 16000000
namespace Go.Abs
variable{v g z r T j x B A D:Nat}{n u q:b_}{Q:fp}{h:dC}
section
variable{F y:Nat}{f:aI}
abbrev qY:Nat:=89
abbrev Ee(o:List aA):dC:=o.map λw=>[pj w]
def aiK{o:List aA}{k:Nat}{w:aA}(h:o[k]?=some w):(Ee o)[k]?=some [pj w]:=by simp[h]
def gP:aA:=[3712000000,3712128064,3712192064,3712576512,3712896448,3713216192,3713280192,3713408192]
structure Q_ (F:Nat) (ls:aI) (outs:dC) (gA mO gF:Nat) (f:cM) (cd cp cf vo:b_) (blk:aB):Prop where
 b0:blk 3712000000=(1,some (.var (mw F ls)))
 bA:blk 3712128064=(gA,some (.arr 3 1 (aS (aH ls))))
 bW:blk 3712192064=(mO,some (.arr 25 1 (Ee (fW (bZ ls) (bH ls)))))
 bF:blk 3712576512=(gF,some (.var [.p (.bool f.dA),cd,cp,cf,.p (.bool f.outer)]))
 gd:aW 3712896448 3 1 (aS f.aT) (.one cd) blk
 gp:aW 3713216192 rI 2 (dc f.places) (.one cp) blk
 gf:aW 3713280192 3 1 (aS f.mY) (.one cf) blk
 go:aW 3713408192 qY 5 outs (.one vo) blk
def ajC{F:Nat}{f:aI}(ok:gC F f)(hF:F<=1000){w:aA}(hw:∀x∈w,x<bH f)(nj:I w<=bH f){ab:dC}{gA mO i:Nat}{vo:b_}{m:bD}{blk:aB}
  (e1:m 1=.one (.bg 3712000000 1 0)) (e3:m 3=.one vo) (e4:m 4=.one (.hsl 3712128064 gA 1 0 (I (aH f)))) (e5:m 5=.one (.hsl 3712192064 mO 1 0 (I (fW (bZ f) (bH f))))) (e6:m 6=aq (I f)) (e7:m 7=aq i) (e8:m 8=.one (.p (pj w))) (e9:m 9=.one (.bg 3712576512 v 0)) (Cu:m 10=aq 0)
  (H:Q_ F f ab gA mO v (sB F f w 0) n u q vo blk)
  (hq:∀A ak uM lS tM,A 1=m 1->A 3=m 3->A 4=m 4->A 5=m 5->A 6=m 6->A 7=m 7->A 9=m 9->Q_ F f ab gA mO v (iP F f w) uM lS tM vo ak->Q .normal A ak):
  W S .all (.loop FZ) (kZ 2 Q) m blk:=by
 have hl:=ok.hl;have fQ:I (aH f)<=1000000:=jO (mv f (I f)) hl;have fD:bH f<=4000000:=by unfold bH;omega
 have m2:=lR (a:=I f) J;refine cD (λk A ak=>A 1=.one (.bg 3712000000 1 0)/\A 3=.one vo/\A 4=.one (.hsl 3712128064 gA 1 0 (I (aH f)))/\A 5=.one (.hsl 3712192064 mO 1 0 (I (fW (bZ f) (bH f))))/\A 6=aq (I f)/\A 7=aq i/\A 8=.one (.p (pj w))/\A 9=.one (.bg 3712576512 v 0)/\A 10=aq k/\
   ∃n u q,Q_ F f ab gA mO v (sB F f w k) n u q vo ak) 0 (I w) (bC _) ⟨e1,e3,e4,e5,e6,e7,e8,e9,Cu,n,u,q,H⟩ ?_
 rintro k A blk hk ⟨B,z,j,M,N,L,R,O,T,n,u,q,H⟩
 by_cases au:k<I w
 .have aL:((k:Int)<(I w:Int)):=J;obtain⟨x,hx⟩:=bq au;have tg:=hw x (bY hx);have wy:=fC hx;have w1:=bJ (n:=k) J;obtain⟨l1,l2,l3⟩:=Jy ok hw k J;have aa:=SH (F:=F) (h:=f) hx;have Ys:k*(2*F+2)<=4000000*2002:=A_ J J;generalize sB F f w k=am at H aa l1 l2 l3;unfold cM.add at aa;by_cases hd:x<2*I f
  .rw[aM hd]at aa;have CN:((x:Int)<((2*I f:Nat):Int)):=J;simp only[go_sem,FZ,B,z,j,M,N,L,R,O,T,H.bF,au,aL,wy,m2,CN];generalize hG:(blk 3712896384).1+1=g2;refine tB (q:=3712896448) (id:=3712896448) (A:=[[.int .i64 (x:Int)]]) (rd:=[3712896384]) (H.gd.of_eq (by simp[bj])) (by simp[eO,bj]) (.inl rfl) (by simp only[cT,dE,eR];omega) λc bp r ay hc hb hr=>?_;have l5:∀i∈gP,i≠3712896448->bp i=blk i:=λi g hn=>by
    rw[hb i hn hn,bj,aD (Ht g U).symm.symm]
   have av:=(l5 3712576512 (by simp[gP]) U).trans H.bF;simp only[go_sem,av,B,z,j,M,N,L,R,O,T,w1,au];refine⟨?_,c,u,q,?_⟩
   .rcases hr with⟨rfl,rfl⟩|⟨rfl,rfl⟩|⟨rfl,rfl⟩<;>kernel_rfl
   rw[aa];refine⟨?_,?_,?_,?_,?_,?_,?_,?_⟩
   .simp only[bj,Nat.reduceEqDiff,if_false];exact(l5 _ (by simp[gP]) U).trans H.b0
   .simp only[bj,Nat.reduceEqDiff,if_false];exact(l5 _ (by simp[gP]) U).trans H.bA
   .simp only[bj,Nat.reduceEqDiff,if_false];exact(l5 _ (by simp[gP]) U).trans H.bW
   .simp only[bj,if_true]
   .rw[tC];exact hc.of_eq (by simp[bj])
   .exact(H.gp.of_eq (l5 _ (by simp[gP]) U)).of_eq (by simp[bj])
   .exact(H.gf.of_eq (l5 _ (by simp[gP]) U)).of_eq (by simp[bj])
   exact(H.go.of_eq (l5 _ (by simp[gP]) U)).of_eq (by simp[bj])
  rw[aD hd]at aa;have hj:(x-2*I f)/2<I (aH f):=by unfold bH at tg;omega
  have pp:=ajt ok hF hj;have lP:=JC ok hj;have lF:=J1 ok hj;have CN:¬((x:Int)<((2*I f:Nat):Int)):=J;have ws:=KM (a:=x) (b:=2*I f) J J;have wq:=wrap_small (n:=(x-2*I f)/2) J;have w2:=wO (a:=I (aH f)) J J;have t1:List.take (I (aH f)) (aS (aH f))=aS (aH f):=eW aG;have CQ:((((x-2*I f)/2:Nat):Int)==((I (aH f)-1:Nat):Int))=decide ((x-2*I f)/2+1=I (aH f)):=by
   by_cases h:(x-2*I f)/2+1=I (aH f)
   .rw[sN h];simp;omega
   rw[r3 h];simp;omega
  have nW:S.lone 3713024192=false:=ah;have pG:S.lone 3713152064=false:=ah;have yp:S.lone 3713152192=false:=ah;have ad:∀l:gN,((dc l).all λe=>e.all PV.scalar):=λl=>by simp[PV.scalar]
  have ag:∀l:aA,((aS l).all λe=>e.all PV.scalar):=λl=>by simp[PV.scalar]
  generalize pN F f ((x-2*I f)/2)=PP at*;generalize s6 F f ((x-2*I f)/2)=FF at*;simp only[go_sem,FZ,B,z,j,M,N,L,R,O,T,H.bF,H.b0,H.bA,au,aL,wy,m2,CN,ws,wq,de,dZ,t1,aiH];refine akZ pp nW (ad _) (ag _) λc e bp hc he hb=>?_;have Yq:∀i∈gP,bp i=blk i:=λi g=>hb i (Ht g U) (Ht g U);by_cases ed:x%2=0
  .have zJ:((x:Int).tmod 2 !=0)=false:=by rw[hD,ed];rfl
   simp only[aM ed]at aa;have hP:=hc;have hE:=he;have zq:=Yq;have lE:=lF;have Z:=(zq _ (by simp[gP])).trans H.bF;simp only[go_sem,de,zJ,wy,au,Z,B,z,j,M,N,L,R,O,T];obtain⟨rP,Dm,_⟩:=hP.elems;refine iR (q:=3713216192) (id:=3713216192) (bytes:=16) (H.gp.of_eq (zq _ (by simp[gP]))) Dm hP.ao (by simp only[cT,j5];omega) λc2 aV lv X=>?_
   have vM:=(X 3712576512 U U).trans Z;simp only[go_sem,vM,B,z,j,M,N,L,R,O,T];obtain⟨rE,Dl,_⟩:=(hE.of_eq (ak:=cQ aV 3712576512 (v,some (.var [.p (.bool am.dA),n,c2,q,.p (.bool am.outer)]))) ((bo U).trans (X _ U U))).elems;refine iR (q:=3713280192) (id:=3713280192) (bytes:=8) (H.gf.of_eq ((bo U).trans ((X _ U U).trans (zq _ (by simp[gP]))))) Dl hE.ao (by simp only[cT,j5];omega) λcP gh ub Y=>?_
   have rL:=(Y 3712576512 U U).trans (oJ (b:=aV) (a:=3712576512) (x:=(v,some (.var [.p (.bool am.dA),n,c2,q,.p (.bool am.outer)]))));have D:∀i∈gP,i≠3712576512->i≠3713216192->i≠3713280192->gh i=blk i:=λi g n1 n2 n3=>(Y i n3 n3).trans ((bo n1).trans ((X i n2 n2).trans (zq i g)));have E:∀y y2:Nat×Option eN,∀i,i≠3712576512->cQ (cQ gh 3712576512 y) 3712576512 y2 i=gh i:=λy y2 i g=>(bo g).trans (bo g);cases ho:am.outer with
   |true=>
    rw[ho]at rL;simp only[go_sem,rL,B,z,j,M,N,L,R,O,T,w1,au];refine⟨n,c2,cP,?_⟩;rw[aa];exact⟨(E _ _ _ U).trans ((D _ (by simp[gP]) U U U).trans H.b0),(E _ _ _ U).trans ((D _ (by simp[gP]) U U U).trans H.bA),(E _ _ _ U).trans ((D _ (by simp[gP]) U U U).trans H.bW),(by rw[oJ];simp[ho]),
     H.gd.of_eq ((E _ _ _ U).trans (D _ (by simp[gP]) U U U)),(uH _ _▸lv).of_eq ((E _ _ _ U).trans ((Y _ U U).trans (bo U))),(tC _ _▸ub).of_eq (E _ _ _ U),H.go.of_eq ((E _ _ _ U).trans (D _ (by simp[gP]) U U U))⟩
   |false=>
    rw[ho]at rL;simp only[go_sem,rL,B,z,j,M,N,L,R,O,T,w1,w2,au,CQ];refine⟨n,c2,cP,?_⟩;rw[aa];exact⟨(E _ _ _ U).trans ((D _ (by simp[gP]) U U U).trans H.b0),(E _ _ _ U).trans ((D _ (by simp[gP]) U U U).trans H.bA),(E _ _ _ U).trans ((D _ (by simp[gP]) U U U).trans H.bW),(by rw[oJ];simp[ho]),
     H.gd.of_eq ((E _ _ _ U).trans (D _ (by simp[gP]) U U U)),(uH _ _▸lv).of_eq ((E _ _ _ U).trans ((Y _ U U).trans (bo U))),(tC _ _▸ub).of_eq (E _ _ _ U),H.go.of_eq ((E _ _ _ U).trans (D _ (by simp[gP]) U U U))⟩
  have zJ:((x:Int).tmod 2 !=0):=by rw[hD,show x%2=1 by omega];rfl
  simp only[aD ed]at aa;obtain⟨r1,ap,_⟩:=hc.dS;simp only[go_sem,de,zJ,wy,au,ap,B,z,j,M,N,L,R,O,T,arK];refine ke (ahR PP J) pG (.inr (ff (ad _))) λc1 aV fA X=>?_;have u7:=he.of_eq (X _ U);obtain⟨r2,ar,_⟩:=u7.dS;simp only[go_sem,ar,B,z,j,M,N,L,R,O,T,afl];refine ke (arS FF J) yp (.inr (ff (ag _))) λe1 gh an Y=>?_;have zq:∀i∈gP,gh i=blk i:=λi g=>(Y i (Ht g U)).trans ((X i (Ht g U)).trans (Yq i g));have hP:=fA.of_eq (Y _ U);have hE:=an;have lE:I FF.reverse<=2*F+2:=by rw[j5];exact lF
  have lP:I PP.reverse<=2*F+2:=by rw[j5];exact lP
  have Z:=(zq _ (by simp[gP])).trans H.bF;simp only[go_sem,de,zJ,wy,au,Z,B,z,j,M,N,L,R,O,T];obtain⟨rP,Dm,_⟩:=hP.elems;refine iR (q:=3713216192) (id:=3713216192) (bytes:=16) (H.gp.of_eq (zq _ (by simp[gP]))) Dm hP.ao (by simp only[cT,j5];omega) λc2 aV lv X=>?_
  have vM:=(X 3712576512 U U).trans Z;simp only[go_sem,vM,B,z,j,M,N,L,R,O,T];obtain⟨rE,Dl,_⟩:=(hE.of_eq (ak:=cQ aV 3712576512 (v,some (.var [.p (.bool am.dA),n,c2,q,.p (.bool am.outer)]))) ((bo U).trans (X _ U U))).elems;refine iR (q:=3713280192) (id:=3713280192) (bytes:=8) (H.gf.of_eq ((bo U).trans ((X _ U U).trans (zq _ (by simp[gP]))))) Dl hE.ao (by simp only[cT,j5];omega) λcP gh ub Y=>?_
  have rL:=(Y 3712576512 U U).trans (oJ (b:=aV) (a:=3712576512) (x:=(v,some (.var [.p (.bool am.dA),n,c2,q,.p (.bool am.outer)]))));have D:∀i∈gP,i≠3712576512->i≠3713216192->i≠3713280192->gh i=blk i:=λi g n1 n2 n3=>(Y i n3 n3).trans ((bo n1).trans ((X i n2 n2).trans (zq i g)));have E:∀y y2:Nat×Option eN,∀i,i≠3712576512->cQ (cQ gh 3712576512 y) 3712576512 y2 i=gh i:=λy y2 i g=>(bo g).trans (bo g);cases ho:am.outer with
  |true=>
   rw[ho]at rL;simp only[go_sem,rL,B,z,j,M,N,L,R,O,T,w1,au];refine⟨n,c2,cP,?_⟩;rw[aa];exact⟨(E _ _ _ U).trans ((D _ (by simp[gP]) U U U).trans H.b0),(E _ _ _ U).trans ((D _ (by simp[gP]) U U U).trans H.bA),(E _ _ _ U).trans ((D _ (by simp[gP]) U U U).trans H.bW),(by rw[oJ];simp[ho]),
    H.gd.of_eq ((E _ _ _ U).trans (D _ (by simp[gP]) U U U)),(uH _ _▸lv).of_eq ((E _ _ _ U).trans ((Y _ U U).trans (bo U))),(tC _ _▸ub).of_eq (E _ _ _ U),H.go.of_eq ((E _ _ _ U).trans (D _ (by simp[gP]) U U U))⟩
  |false=>
   rw[ho]at rL;simp only[go_sem,rL,B,z,j,M,N,L,R,O,T,w1,w2,au,CQ];refine⟨n,c2,cP,?_⟩;rw[aa];exact⟨(E _ _ _ U).trans ((D _ (by simp[gP]) U U U).trans H.b0),(E _ _ _ U).trans ((D _ (by simp[gP]) U U U).trans H.bA),(E _ _ _ U).trans ((D _ (by simp[gP]) U U U).trans H.bW),(by rw[oJ];simp[ho]),
    H.gd.of_eq ((E _ _ _ U).trans (D _ (by simp[gP]) U U U)),(uH _ _▸lv).of_eq ((E _ _ _ U).trans ((Y _ U U).trans (bo U))),(tC _ _▸ub).of_eq (E _ _ _ U),H.go.of_eq ((E _ _ _ U).trans (D _ (by simp[gP]) U U U))⟩
 have:k=I w:=J;subst this;rw[MZ]at H;simp only[go_sem,FZ,B,z,j,M,N,L,R,O,T,dF];exact hq _ _ n u q (by simp only[go_sem,B,e1]) (by simp only[go_sem,z,e3]) (by simp only[go_sem,j,e4]) (by simp only[go_sem,M,e5]) (by simp only[go_sem,N,e6]) (by simp only[go_sem,L,e7]) (by simp only[go_sem,O,e9]) H
def XJ{a b:PV}{id o l:Nat}:w5 [[.p a,.hsl id g z o l,u,q,.p b]]=none:=rfl
def Xw{blk:aB}{s j T Z f v A m x z:Nat}{a o:Bool}{D P G:dC}(H:blk s=(g,some (.gT y 5 [[.p (.bool a),n,u,q,.p (.bool o)]])))(gd:aW j T Z D (.one n) blk)(gp:aW f v A P (.one u) blk)(gf:aW m x z G (.one q) blk):
  ∃fr,eO blk (.one (.hsl s g 5 0 1))=some ([[.bool a,.sl D,.sl P,.sl G,.bool o]],[s],fr)/\sD blk fr/\ ∀i∈fr,i=j\/i=f\/i=m:=by
 obtain⟨r1,E,B,L⟩:=gd.Ng;obtain⟨R,O,F,X⟩:=gp.Ng;obtain⟨r,N,M,Q⟩:=gf.Ng;refine⟨r1++(R++r),?_,B.app (F.app M),λi h=>?_⟩
 .simp only[eO,H];simp[fk,E,O,N,RG,PV.norm]
 simp only[fB]at h;rcases h with h|h|h
 .rcases L with rfl|rfl<;>simp at h;exact .inl h
 .rcases X with rfl|rfl<;>simp at h;exact .inr (.inl h)
 rcases Q with rfl|rfl<;>simp at h;exact .inr (.inr h)
abbrev g_(l:wi):dC:=l.map cM.ps
def agr(F:Nat)(f:aI):∀(w:aA) (g:cM),g.aT≠[]->(w.foldl (cM.add F f) g).aT≠[]:=by
 intro w
 induction w with
 |nil=>intro g h;exact h
 |cons x w j=>
  intro g h;refine j _ ?_;unfold cM.add;split
  .simp
  exact h
def VL{d:Nat}{t:aA}(h:d<2*I f):(iP F f (d::t)).aT≠[]:=by unfold iP;refine agr F f t _ ?_;unfold cM.add;rw[show(d::t).headD 0=d from rfl,aM h];simp
def amJ(ok:gC F f)(hF:F<=1000)(aY:aH f≠[]):aC S 58 [dQ F f] (.one (bn qY 5 (g_ (cZ F f)))):=by
 have hl:=ok.hl;have fQ:I (aH f)<=1000000:=jO (mv f (I f)) hl;have fD:bH f<=4000000:=by unfold bH;omega
 have ap:=yS ok;have pa:=Xn F f hl;have pw:=acS F f hl aY ok.hp;unfold E9 at pa;rw[aD aY]at pa;have nj:I (fW (bZ f) (bH f))<=bH f:=Dr (bZ f) (bH f) _;have ag:∀blk:aB,d_ blk [] 3712128064 ((RV.one (.own 3 1 (aS (aH f)))).eU (S.lone 3712128064))=some (.one (.hsl 3712128064 ((blk 3712128064).1+1) 1 0 (I (aH f))),[(3712128064,((blk 3712128064).1+1,some (.arr 3 1 (aS (aH f)))))]):=by intro blk;rw[show S.lone 3712128064=false by kernel_rfl,show(aH f).length=I (aS (aH f)) by simp];rfl
 have an:∀blk:aB,d_ blk [] 3712192064 ((RV.one (.own 25 1 (Ee (fW (bZ f) (bH f))))).eU (S.lone 3712192064))=some (.one (.hsl 3712192064 ((blk 3712192064).1+1) 1 0 (I (fW (bZ f) (bH f)))),[(3712192064,((blk 3712192064).1+1,some (.arr 25 1 (Ee (fW (bZ f) (bH f))))))]):=by intro blk;rw[show S.lone 3712192064=false by kernel_rfl,show(fW (bZ f) (bH f)).length=I (Ee (fW (bZ f) (bH f))) by simp];rfl
 refine bG amB ?_;simp only[go_sem,X4,adT,Tt,bl pa (ag _),bl pw (an _)];refine cD (λk m blk=>m 1=.one (.bg 3712000000 1 0)/\m 4=.one (.hsl 3712128064 1 1 0 (I (aH f)))/\m 5=.one (.hsl 3712192064 1 1 0 (I (fW (bZ f) (bH f))))/\m 6=aq (I f)/\m 7=aq k/\
   blk 3712000000=(1,some (.var (mw F f)))/\blk 3712128064=(1,some (.arr 3 1 (aS (aH f))))/\blk 3712192064=(1,some (.arr 25 1 (Ee (fW (bZ f) (bH f)))))/\
   ∃g,m 3=.one g/\aW 3713408192 qY 5 (g_ (((fW (bZ f) (bH f)).take k).map (iP F f))) (.one g) blk) 0 (I (fW (bZ f) (bH f))) (bC _) ?_ ?_
 .simp only[go_sem];first|exact⟨rfl,_,rfl,.inl ⟨rfl,rfl⟩⟩|exact⟨rfl,rfl,_,rfl,.inl ⟨rfl,rfl⟩⟩|exact⟨rfl,rfl,rfl,_,rfl,.inl ⟨rfl,rfl⟩⟩|exact⟨rfl,rfl,rfl,rfl,_,rfl,.inl ⟨rfl,rfl⟩⟩
 rintro k m blk hk ⟨x,j,z,A,y,b0,bA,bW,g,r,go⟩
 by_cases au:k<I (fW (bZ f) (bH f))
 .have aL:((k:Int)<(I (fW (bZ f) (bH f)):Int)):=J;obtain⟨w,X⟩:=bq au;obtain⟨⟨d,t,H,hd⟩,D,I8⟩:=ap w (bY X);have ot:=aiK X;have w1:=bJ (n:=k) J;have dH:(aS w)[0]?=some [.int .i64 (d:Int)]:=by rw[H];rfl
  have ad:0<I w:=by rw[H];simp
  have ar:(0:Int)<(I w:Int):=J;have wq:=wrap_small (n:=d/2) J;have pb:=ahQ F f (d/2) hl J;have IB:w.headD 0=d:=by rw[H];rfl
  have eK:g_ (((fW (bZ f) (bH f)).take (k+1)).map (iP F f))=g_ (((fW (bZ f) (bH f)).take k).map (iP F f))++[(iP F f w).ps]:=by rw[jN,X];simp
  have kD:I (g_ (((fW (bZ f) (bH f)).take k).map (iP F f)))<=k:=by simp;omega
  generalize g_ (((fW (bZ f) (bH f)).take k).map (iP F f))=O at go eK kD;simp only[go_sem,OB,x,r,j,z,A,y,b0,bA,bW,au,aL,ot,dH,ad,ar,de,dZ,wq,agv,cN pb];refine⟨aw,?_⟩;refine ajC ok hF I8 D (gA:=1) (mO:=1) (v:=(blk 3712576512).1+1) (i:=k) (n:=.p .nils) (u:=.p .nils) (q:=.p .nils) (vo:=g) (ab:=O) ?_ ?_ ?_ ?_ ?_ ?_ ?_ ?_ ?_ ⟨?_,?_,?_,?_,aW.nil,aW.nil,aW.nil,?_⟩ ?_
  .simp only[go_sem,x]
  .simp only[go_sem,r]
  .simp only[go_sem,j]
  .simp only[go_sem,z]
  .simp only[go_sem,A]
  .simp only[go_sem,y]
  .simp only[go_sem]
  .simp only[go_sem]
  .simp only[go_sem]
  .simp only[go_sem,b0]
  .simp only[go_sem,bA]
  .simp only[go_sem,bW]
  .simp only[go_sem,sB,cM.new,IB];simp
  .exact go.of_eq (by simp only[go_sem])
  intro aE Z uM lS tM q1 M q4 T q6 q7 Q hB;simp only[go_sem,x,r,j,z,A,y]at q1 M q4 T q6 q7 Q;have B:=VL (F:=F) (t:=t) hd;rw[<-H]at B;generalize iP F f w=av at hB eK B;obtain⟨B0,BA,BW,BF,gd,gp,gf,ab⟩:=hB;rcases gd with⟨e,_⟩|⟨_,Y,e,eX⟩
  .simp at e;exact absurd e B
  cases e;simp only[go_sem,Xl,NP,q1,M,q4,T,q6,q7,Q,BF,XJ];have gd:aW 3712896448 3 1 (aS av.aT) (.one (.hsl 3712896448 Y 1 0 (I (aS av.aT)))) Z:=.inr ⟨by simpa using B,Y,rfl,eX⟩;rw[cT]at gd;obtain⟨fr,hx,vc,zx⟩:=Xw (blk:=cQ Z 3713408128 ((Z 3713408128).1+1,some (.gT qY 5 [[.p (.bool av.dA),.hsl 3712896448 Y 1 0 (I av.aT),lS,tM,.p (.bool av.outer)]]))) (s:=3713408128) oJ (gd.of_eq (bo U)) (gp.of_eq (bo U)) (gf.of_eq (bo U));have N:∀i,i≠3712896448->i≠3713216192->i≠3713280192->i∉fr:=λi a b c h=>by
   rcases zx i h with h|h|h
   .exact a h
   .exact b h
   exact c h
  refine ac0 (q:=3713408192) (id:=3713408192) (bytes:=88) (ab.of_eq (bo U)) hx vc (N _ U U U) (N _ U U U) (.inl rfl) (by simp only[dE,eR];omega) λc aV hc R=>?_;have E:=(R 3712000000 U U (N _ U U U)).trans ((bo U).trans B0);have am:=(R 3712128064 U U (N _ U U U)).trans ((bo U).trans BA);have L:=(R 3712192064 U U (N _ U U U)).trans ((bo U).trans BW);simp only[go_sem,NP,q1,M,q4,T,q6,q7,Q,E,am,L,w1,au];refine⟨c,rfl,?_⟩;rw[eK];exact hc
 have:k=I (fW (bZ f) (bH f)):=J;subst this;rw[iV]at go;simp only[go_sem,OB,Wr,x,r,j,z,A,y,b0,bA,bW,dF];exact nV go
def qL(f:aI)(k:Nat):eo:=(List.range (I f)).map λi=>decide (i<k)&& !dP f (i+1)
def acE(f:aI)(k:Nat):I (qL f k)=I f:=by simp[qL]
def asq(f:aI):qL f 0=List.replicate (I f) false:=by
 refine Ai λi=>?_;simp only[qL,gZ,List.getElem?_replicate];by_cases h:i<I f
 .simp[nH h,h]
 rw[o6 (by simpa using h),aD h];rfl
def ant(f:aI)(k:Nat):qL f (k+1)=(qL f k).set k (!dP f (k+1)):=by
 refine Ai λi=>?_;rw[lC,acE];simp only[qL,gZ];by_cases h:i<I f
 .rw[nH h];by_cases e:k=i
  .subst e;simp[h]
  simp only[oG,e,if_false];congr 2;exact decide_eq_decide.2 J
 rw[o6 (by simpa using h)];by_cases e:k=i
 .subst e;rw[aM rfl,aD h];rfl
 rw[aD e];rfl
abbrev xo(ls:aI):eo:=qL ls (I ls)
def aqr{i:Nat}(h:i<I f):(xo f)[i]?=some (!dP f (i+1)):=by simp[qL,h]
def akM(ok:gC F f):aC S 60 [.one (.p (pV F f))] (.one (.own 4 1 (gE (xo f)))):=by
 have hl:=ok.hl;have L:I f<=140737488355328:=J;have M:List.replicate (I f) [PV.bool false]=gE (qL f 0):=by rw[asq];simp
 refine bG W_ ?_;simp only[go_sem,Vl,L,M,ae,ao];refine cD (λk m blk=>m 0=.one (.p (pV F f))/\m 3=.one (.hsl 3840064384 1 1 0 (I f))/\blk 3840064384=(1,some (.arr 4 1 (gE (qL f k))))/\
   m 4=kN (!dP f k)/\m 18=.one (.p (jF f))/\m 19=aq (I f)/\m 20=aq k) 0 (I f) (bC _) ?_ ?_
 .simp only[go_sem];first|exact⟨rfl,rfl⟩|exact⟨rfl,rfl,rfl⟩|exact⟨rfl,rfl,rfl,rfl⟩|exact rfl
 rintro k m blk Q ⟨u,v,q,z,X,r,x⟩
 by_cases A:k<I f
 .obtain⟨l,g⟩:=bq A;have D:=iF g;have E:((k:Int)<(I f:Int)):=J;have B:=bJ (n:=k) J;have H:k<I (qL f k):=by rw[acE];exact A
  obtain⟨b0,O⟩:=bq H;have N:=qa O;have j:=Dj (qL f k) k (!dP f (k+1));rw[<-ant]at j;cases hp:(l.kind==1)with
  |true=>have h:=UG g hp;have y:=qa (MO g hp);rw[h]at j;rw[Bool.not_not]at j;simp only[go_sem,FE,u,v,q,z,X,r,x,D,cW,af.ps,A,E,B,hp,y,N,j,h,ae,ao]
  |false=>have h:=Up g hp;rw[h]at j;simp only[go_sem,FE,u,v,q,z,X,r,x,D,cW,af.ps,A,E,B,hp,N,j,h,ae,ao]
 have:k=I f:=J;subst this;simp only[go_sem,FE,UB,u,v,q,z,X,r,x,dF,ae,ao];exact DN q (by simp[qL])
abbrev yO(id:Nat):Prop:=lG id=145
def Z7{k:Nat}(h:k<=T-g):(kz g r T)[k]?=some (g+k,if k=0 then r else 0):=by
 cases k with
 |zero=>rfl
 |succ k=>unfold kz;rw[List.getElem?_cons_succ,gZ,nH J];simp;omega
def af3{k:Nat}(h:k<T-g):(nG g T)[k]?=some (g+1+k):=by unfold nG;rw[gZ,nH h];rfl
def Cr(g r T:Nat)(ps fs:dC)(i1 i2:Nat)(blk:aB)(v:V)(A:aB):Prop:=
 ∃h f j,v=.tup [.one h,.one f]/\aW 9280320192 rI 2 (ps++dc (kz g r T)) (.one h) A/\aW j 3 1 (fs++aS (nG g T)) (.one f) A/\(j=i2\/j=9280256256)/\
  c8 (λid=>yO id\/id=i1\/id=i2) blk A
def J3:aA:=[9280000000,9280000064,9280128128,9280256192,9280256256,9280320128]
def Nc:aA:=[9280000000,9280000064,9280128128,9280128192,9280256192,9280320128,9280320192]
def HC{al:bP}{blk:aB}{t i1 i2:Nat}{ps fs:dC}{c1 c2:b_}(O:∀id,yO id->al.ok id)(o1:al.ok i1)(o2:al.ok i2)(hT:g<=T)(ht:t=if T=g then r else 0)(hb:T<=1000)(dd:I ps<=1000000)(a1:I fs<=1000000)
  (az:i1≠i2) (u:i1∉J3) (y:i2∉Nc) (X:aW i1 rI 2 ps (.one c1) blk) (h2:aW i2 3 1 fs (.one c2) blk):
  ∃v A,ia S 145 [.agg [.p (.int .i64 g),.p (.int .i64 r)],.agg [.p (.int .i64 T),.p (.int .i64 t)],.one c1,.one c2] al blk v A/\Cr g r T ps fs i1 i2 blk v A:=by
 have k0:al.ok 9280000000:=O _ rfl;have q:al.ok 9280000064:=O _ rfl;have ab:al.ok 9280128128:=O _ rfl;have av:al.ok 9280128192:=O _ rfl;have M:al.ok 9280256192:=O _ rfl;have ag:al.ok 9280256256:=O _ rfl;have D:al.ok 9280320128:=O _ rfl;have aE:al.ok 9280320192:=O _ rfl;refine mU aoe (gU rfl) ?_;simp only[go_sem,aa1,k0,q];have a0:=yM g r T;have aY:=FI g T;refine cD (λk m A=>m 4=.one (.bg 9280000000 ((blk 9280000000).1+1) 0)/\m 5=.one (.bg 9280000064 ((blk 9280000064).1+1) 0)/\
   A 9280000000=((blk 9280000000).1+1,some (.var [.p (.int .i64 ((g+k:Nat):Int)),.p (.int .i64 ((if k=0 then r else 0:Nat):Int))]))/\A 9280000064=((blk 9280000064).1+1,some (.var [.p (.int .i64 T),.p (.int .i64 t)]))/\
   ∃d1 d2 j f,m 2=.one d1/\m 3=.one d2/\(j=i1\/j=9280128192)/\(f=i2\/f=9280256256)/\aW j rI 2 (ps++dc ((kz g r T).take k)) (.one d1) A/\aW f 3 1 (fs++aS ((nG g T).take k)) (.one d2) A/\c8 (λid=>yO id\/id=i1\/id=i2) blk A) 0 (T-g) (bC _) ?_ ?_
 .simp only[go_sem];refine⟨rfl,c1,c2,i1,i2,rfl,rfl,.inl rfl,.inl rfl,?_,?_,?_⟩
  .exact(X.of_eq (bo (LL u (by simp[J3])))).of_eq (bo (LL u (by simp[J3])))
  .exact(h2.of_eq (bo (LL y (by simp[Nc])))).of_eq (bo (LL y (by simp[Nc])))
  exact((c8.refl _ _).cQ (.inl rfl) _).cQ (.inl rfl) _
 rintro k m A hk ⟨h4,h5,hA,hB,d1,d2,j,f,E,Y,q1,Q,g1,g2,cR⟩
 have z:al.ok j:=by rcases q1 with rfl|rfl<;>assumption
 have ay:al.ok f:=by rcases Q with rfl|rfl<;>assumption
 have Z:∀a,a∈J3->j≠a:=λa F e=>by
  rcases q1 with rfl|rfl
  .exact u (e▸F)
  exact absurd (e▸F) U
 have N:∀a,a∈Nc->f≠a:=λa F e=>by
  rcases Q with rfl|rfl
  .exact y (e▸F)
  exact absurd (e▸F) U
 have n3:j≠f:=λe=>by
  rcases q1 with rfl|rfl
  .rcases Q with rfl|rfl
   .exact az e
   exact Z _ U e
  exact N _ U e.symm
 have R:yO j\/j=i1\/j=i2:=by
  rcases q1 with rfl|rfl
  .exact .inr (.inl rfl)
  exact .inl rfl
 have am:yO f\/f=i1\/f=i2:=by
  rcases Q with rfl|rfl
  .exact .inr (.inr rfl)
  exact .inl rfl
 have L:I ((kz g r T).take k)=k:=by rw[iU];omega
 have ad:I ((nG g T).take k)=k:=by rw[iU];omega
 by_cases au:k<T-g
 .have aL:(((g+k:Nat):Int)<(T:Int)):=J;have w1:IntKind.i64.wrap (((g+k:Nat):Int)+1)=((g+(k+1):Nat):Int):=bJ (n:=g+k) J;have hp:dc ((kz g r T).take (k+1))=dc ((kz g r T).take k)++[[.int .i64 ((g+k:Nat):Int),.int .i64 ((if k=0 then r else 0:Nat):Int)]]:=by
   rw[jN,Z7 J,uH];rfl
  have hf:aS ((nG g T).take (k+1))=aS ((nG g T).take k)++[[.int .i64 ((g+(k+1):Nat):Int)]]:=by rw[jN,af3 au,tC,show g+1+k=g+(k+1) by omega];rfl
  simp only[go_sem,TW,h4,h5,hA,hB,E,Y,au,aL,k0,q,ab];refine Kh (id:=j) (q:=9280128192) (bytes:=16) (A:=[[.int .i64 ((g+k:Nat):Int),.int .i64 ((if k=0 then r else 0:Nat):Int)]]) (rd:=[9280128128]) (by simp[av,z,ab]) (g1.of_eq (bo (Z _ U))) (by simp[eO,bj]) (.inl rfl) (by simp only[ep,cT,L,dE,eR];omega) λc aV hc B=>?_;have ap:=(B 9280000000 U (Z _ U).symm).trans ((bo U).trans hA);have lu:=(B 9280000064 U (Z _ U).symm).trans ((bo U).trans hB);simp only[go_sem,h4,h5,ap,lu,E,Y,w1,k0,q,M]
  refine Kh (id:=f) (q:=9280256256) (bytes:=8) (A:=[[.int .i64 ((g+(k+1):Nat):Int)]]) (rd:=[9280256192]) (by simp[ag,ay,M]) (g2.of_eq ((bo (N _ U)).trans ((bo (N _ U)).trans ((B _ (N _ U) n3.symm).trans (bo (N _ U)))))) (by simp[eO,bj]) (.inl rfl) (by simp only[ep,cT,ad,dE,eR];omega) λc' gh j9 fX=>?_;have an:=(fX 9280000000 U (N _ U).symm).trans ((bo U).trans oJ);have ar:=(fX 9280000064 U (N _ U).symm).trans ((bo U).trans ((bo U).trans lu));simp only[go_sem,h4,h5,an,ar,E,Y,au];refine⟨rfl,c,c',9280128192,9280256256,rfl,rfl,.inr rfl,.inr rfl,?_,?_,λid H=>?_⟩
  .rw[hp,<-jL];exact hc.of_eq ((fX _ U (N _ U).symm).trans ((bo U).trans (bo U)))
  .rw[hf,<-jL];exact j9
  have a:∀x,yO x->id≠x:=λx hx e=>H (.inl (e▸hx));have b1:id≠j:=λe=>H (e▸R);have b2:id≠f:=λe=>H (e▸am);exact(fX id (a _ rfl) b2).trans ((bo (a _ rfl)).trans ((bo (a _ rfl)).trans ((B id (a _ rfl) b1).trans ((bo (a _ rfl)).trans (cR id H)))))
 have:k=T-g:=J;subst this;have aL:¬(((g+(T-g):Nat):Int)<(T:Int)):=J;simp only[go_sem,TW,aa9,h4,h5,hA,hB,E,Y,aL,k0,q,D];have SU:dc (kz g r T)=dc ((kz g r T).take (T-g))++[[.int .i64 (T:Int),.int .i64 (t:Int)]]:=by
  have X:=jN (l:=kz g r T) (i:=T-g);rw[Z7 (cH _),eW (show(kz g r T).length<=T-g+1 by omega)]at X;have e1:g+(T-g)=T:=J;have E:(if T-g=0 then r else 0)=t:=by
   rw[ht];by_cases h:T=g
   .rw[aM h,aM J]
   rw[aD h,aD J]
  rw[e1,E]at X;exact(congrArg (λl:gN=>dc l) X).trans (uH _ _)
 have di:(nG g T).take (T-g)=nG g T:=eW J;refine Kh (id:=j) (q:=9280320192) (bytes:=16) (A:=[[.int .i64 (T:Int),.int .i64 (t:Int)]]) (rd:=[9280320128]) (by simp[aE,z,D]) (g1.of_eq (bo (Z _ U))) (by simp[eO,bj]) (.inl rfl) (by simp only[ep,cT,L,dE,eR];omega) λc aV hc B=>?_;simp only[go_sem,Y];refine⟨c,d2,f,rfl,?_,?_,Q,λid H=>?_⟩
 .rw[SU,<-jL];exact hc
 .rw[di]at g2;exact g2.of_eq ((B _ (N _ U) n3.symm).trans (bo (N _ U)))
 have a:∀x,yO x->id≠x:=λx hx e=>H (.inl (e▸hx));have b1:id≠j:=λe=>H (e▸R);exact(B id (a _ rfl) b1).trans ((bo (a _ rfl)).trans (cR id H))
def aa5(ok:gC F f)(n:j<I (aH f)):∃u l,(aH f)[j]?=some u/\(aH f).getD j 0=u/\f[u]?=some l/\l.aN/\pH F f l/\ei f l=j:=by obtain⟨u,l,h,q,H,r,v⟩:=EX ok n;obtain⟨L,g,x,m⟩:=Bz ok.ax h;rw[H]at g;cases g;exact⟨u,l,h,q,H,r,v,m⟩
def amK{g pr Q x:Nat}{p q:af}(gp:pH F f p)(B:pH F f q)(hp:ei f p=j)(m:ei f q=j+1)(y:p.gate=(g:Int))(H:p.aK=(pr:Int))(v:q.gate=(Q:Int))(n:q.aK=(x:Int)):
  g<=Q/\x-1=if Q=g then pr else 0:=by
 obtain⟨_,_,A,u⟩:=gp;obtain⟨_,_,D,z⟩:=B;unfold ei at hp m;rw[y,H]at hp;rw[v,n]at m;rw[H]at A;rw[y,H]at u;rw[n]at D;rw[v,n]at z;simp only[nY]at hp m u z;have E:=uq f g;have L:=uq f Q;have r:g<=Q:=by
  rcases DE Q g with h|h
  .have:=zl (h:=f) (show Q+1<=g by omega);omega
  exact h
 refine⟨r,?_⟩;by_cases e:Q=g
 .subst e;rw[aM rfl];omega
 rw[aD e];have:=zl (h:=f) (show g+1<=Q by omega);omega
def agF{g Q:Nat}{q:af}(j:pH F f q)(h:ei f q=0)(n:q.gate=(g:Int))(H:q.aK=(Q:Int)):Q-1=0:=by obtain⟨_,_,m,r⟩:=j;unfold ei at h;rw[n,H]at h;rw[H]at m;simp only[nY]at h;omega
def ae9:S.sites 145=[145]:=ah
def qI{v:c7}{blk:aB}:∀id,yO id->(gr (S.ctx .all) 145 v blk).ok id:=λid h=>EY (by rw[ae9,h];simp)
def alb(ok:gC F f)(hF:F<=1000)(hj:j<I (aH f)):
  aC S 96 [.one (.p (pV F f)),aq j] (.tup [.one (bn rI 2 (dc (pN F f j))),.one (bn 3 1 (aS (s6 F f j)))]):=by
 have hl:=ok.hl;have fQ:I (aH f)<=1000000:=jO (mv f (I f)) hl;have hm:=fO (j+1) (show 0<I (aH f) by omega);obtain⟨u,p,hu,du,hp,pp,gp,xp⟩:=aa5 ok hj;obtain⟨v,q,hv,dv,hq,pq,M,xq⟩:=aa5 ok hm;unfold pN s6;simp only[du,dv,AS hp,AS hq,OI hp];have dy:=iF hp;have vf:=iF hq;have wx:=fC hu;have oq:=fC hv;have e1:=n_ (j+1) (I (aH f));have w1:=bJ (n:=j) J;have w2:=wO (a:=I (aH f)) J J;have kh:¬((I (aH f):Int)=0):=J
 have ag:=gp.g0;have zy:=gp.g1;have we:=M.g0;have cA:=M.g1;have Fx:=gp.r0;have dD:=gp.r1;have kX:=M.r0;have ni:=M.r1;have zu:dY f p.gate.toNat<=I f:=ld _ _;have O:dY f q.gate.toNat<=I f:=ld _ _;obtain⟨y,N⟩:=lM (show 0<=p.gate by omega);obtain⟨pr,E⟩:=lM (show 0<=p.aK by omega);obtain⟨Q,B⟩:=lM (show 0<=q.gate by omega);obtain⟨qr,H⟩:=lM (show 0<=q.aK by omega);have wr:=wO (a:=qr) (by rw[H]at kX;omega) J;have X:S.shared 145:=ah;have Bj:=λh=>amK gp M xp (h:ei f q=j+1) N E B H;have SQ:=λh=>agF M (h:ei f q=0) B H
 rw[N]at zy dD zu ag;rw[E]at dD Fx;rw[B]at we cA ni O;rw[H]at kX ni;rw[N,E,B];simp only[nY]at dD zu ni O |-;refine bG ag2 ?_;by_cases au:j+1<I (aH f)
 .have aL:(j:Int)<((I (aH f)-1:Nat):Int):=J;rw[o_ au]at xq;obtain⟨n1,n2⟩:=Bj xq;simp only[aM au];simp only[go_sem,Kw,wx,oq,dy,vf,cW,af.ps,w1,e1,w2,wr,aL,kh,N,E,B,H,X];refine⟨aw,?_⟩;refine sf (P:=Cr y pr Q [] [] 9280128192 9280256256 _) xt (HC (g:=y) (r:=pr) (T:=Q) (t:=qr-1) (c1:=.p .nils) (c2:=.p .nils) qI (qI _ rfl) (qI _ rfl) n1 n2 J (bC _) (bC _) U U U aW.nil aW.nil) ?_;rintro v ak ⟨A,z,j2,rfl,g1,D,x,cR⟩
  have x:j2=9280256256:=by rcases x with h|h<;>exact h
  subst x;simp only[go_sem];exact C2 U g1 D
 have aL:¬(j:Int)<((I (aH f)-1:Nat):Int):=J;have CU:(j+1)%I (aH f)=0:=by rw[show j+1=I (aH f) by omega,GC]
 rw[CU]at xq;have n2:=SQ xq;simp only[aD au];have SU:∃t:Nat,t=(if F=y then pr else 0):=⟨_,rfl⟩;obtain⟨t,L⟩:=SU;have fin:∀(m:bD) (blk:aB) (A z:b_),True:=λ_ _ _ _=>trivial;have ab:(((y:Int)==(F:Int))/\t=pr/\F=y)\/(((y:Int)==(F:Int))=false/\t=0):=by
  by_cases h:F=y
  .subst h;rw[aM rfl]at L;exact .inl ⟨aG,L,rfl⟩
  rw[aD h]at L;exact .inr ⟨by simp;omega,L⟩
 rcases ab with⟨hb,Y,ad⟩|⟨hb,Y⟩
 .subst ad;simp only[go_sem,Kw,wx,oq,dy,vf,cW,af.ps,w1,e1,w2,wr,aL,kh,N,E,B,H,X,hb];refine⟨aw,?_⟩;refine⟨aw,?_⟩;refine sf (P:=Cr F pr F [] [] 9280128192 9280256256 _) xt (HC (g:=F) (r:=pr) (T:=F) (t:=pr) (c1:=.p .nils) (c2:=.p .nils) qI (qI _ rfl) (qI _ rfl) J (by rw[aM rfl]) J (bC _) (bC _) U U U aW.nil aW.nil) ?_;rintro v bp ⟨A,z,j2,rfl,g1,D,x,cR⟩
  have x:j2=9280256256:=by rcases x with h|h<;>exact h
  subst x;rw[tz]at g1 D;have Z:=cR 6144256384 U;simp only[go_sem]at Z;simp only[go_sem,Z,X];refine sf (P:=Cr 0 0 Q (dc (kz F pr F)) (aS (nG F F)) 9280320192 9280256256 _) xt (HC (g:=0) (r:=0) (T:=Q) (t:=qr-1) (c1:=A) (c2:=z) qI (qI _ rfl) (qI _ rfl) (bC _) (by rw[n2];split<;>rfl) J (by simp only[cT,yM];omega) (by simp only[cT,FI];omega) U U U g1 D) ?_;rintro v aV ⟨d1,d2,j3,rfl,k1,k2,R,_⟩
  have R:j3=9280256256:=by rcases R with h|h<;>exact h
  subst R;simp only[go_sem];rw[uH,tC];exact C2 U k1 k2
 simp only[go_sem,Kw,wx,oq,dy,vf,cW,af.ps,w1,e1,w2,wr,aL,kh,N,E,B,H,X,hb];refine⟨aw,?_⟩;refine⟨aw,?_⟩;refine sf (P:=Cr y pr F [] [] 9280128192 9280256256 _) xt (HC (g:=y) (r:=pr) (T:=F) (t:=0) (c1:=.p .nils) (c2:=.p .nils) qI (qI _ rfl) (qI _ rfl) J (by rw[Y]at L;exact L) J (bC _) (bC _) U U U aW.nil aW.nil) ?_;rintro v bp ⟨A,z,j2,rfl,g1,D,x,cR⟩
 have x:j2=9280256256:=by rcases x with h|h<;>exact h
 subst x;rw[tz]at g1 D;have Z:=cR 6144256384 U;simp only[go_sem]at Z;simp only[go_sem,Z,X];refine sf (P:=Cr 0 0 Q (dc (kz y pr F)) (aS (nG y F)) 9280320192 9280256256 _) xt (HC (g:=0) (r:=0) (T:=Q) (t:=qr-1) (c1:=A) (c2:=z) qI (qI _ rfl) (qI _ rfl) (bC _) (by rw[n2];split<;>rfl) J (by simp only[cT,yM];omega) (by simp only[cT,FI];omega) U U U g1 D) ?_;rintro v aV ⟨d1,d2,j3,rfl,k1,k2,R,_⟩
 have R:j3=9280256256:=by rcases R with h|h<;>exact h
 subst R;simp only[go_sem];rw[uH,tC];exact C2 U k1 k2
def GO{e:c_}(h:I e=1):∃x,e=[x]:=by
 match e,h with
 |[a],_=>exact⟨a,rfl⟩
def W6{e:c_}(h:I e=2):∃x X,e=[x,X]:=by
 match e,h with
 |[a,b],_=>exact⟨a,b,rfl⟩
def adE{e:c_}(h:I e=7):∃x m q n X r j,e=[x,m,q,n,X,r,j]:=by
 match e,h with
 |[a,b,c,d,f,g,i],_=>exact⟨a,b,c,d,f,g,i,rfl⟩
structure sk (es fs:dC) (k:Nat):Prop where
 len:I fs=I es
 at':∀i,i<I es->fs[i]?=if i<k\/I es-1-i<k then es[I es-1-i]? else es[i]?
def sk.start(h:dC):sk h h 0:=⟨rfl,λi _=>by rw[aD J]⟩
def sk.step{fs:dC}{k:Nat}{a b:c_}(n:sk h fs k)(r:k<I h-1-k)(g:h[k]?=some a)(m:h[I h-1-k]?=some b):
  fs[k]?=some a/\fs[I h-1-k]?=some b/\sk h ((fs.set k b).set (I h-1-k) a) (k+1):=by
 have H:=n.len;refine⟨?_,?_,⟨by rw[jc,jc];exact H,λi q=>?_⟩⟩
 .rw[n.at' k J,aD J,g]
 .rw[n.at' _ J,aD J,m]
 rw[lC,jc];by_cases E:I h-1-k=i
 .rw[aM E,aM J,aM J,show I h-1-i=k by omega,g]
 rw[aD E,lC];by_cases j:k=i
 .subst j;rw[aM rfl,aM J,aM J,m]
 rw[aD j,n.at' i q];by_cases f:i<k\/I h-1-i<k
 .rw[aM f,aM J]
 rw[aD f,aD J]
def sk.done{fs:dC}{k:Nat}(f:sk h fs k)(g:¬k<I h-1-k):fs=h.reverse:=by
 refine Ai λi=>?_;rcases DE i (I h) with H|H
 .rw[f.at' i H,NM H];by_cases e:i<k\/I h-1-i<k
  .rw[aM e]
  rw[aD e,show I h-1-i=i by omega]
 rw[o6 (by rw[f.len];exact H),o6 (by rw[j5];exact H)]
def AJ(id y z:Nat)(h:dC)(c:b_)(blk:aB)(v:V)(A:aB):Prop:=v=.tup []/\aW id y z h.reverse (.one c) A/\c8 (· =id) blk A
def aoj{al:bP}{blk:aB}{id:Nat}{c:b_}(o:h=[]\/al.ok id)(hl:I h<=1000000)(B:∀e∈h,I e=1/\ ∀v∈e,v.norm=v)(ab:aW id y 1 h (.one c) blk):
  ∃v A,ia S 98 [.one c] al blk v A/\AJ id y 1 h c blk v A:=by
 refine mU aqk (gU rfl) ?_;rcases ab with⟨rfl,H⟩|⟨E,g,H,N⟩
 .cases H;have u:IntKind.i64.wrap (((0:Nat):Int)-1)= -1:=U;have R:¬((0:Int)< -1):=U;simp only[go_sem,U3,u,ae,ao];refine cD (λk m A=>k=0/\m 2=aq 0/\m 3=aq (-1)/\A=blk) 0 0 (cH _) ?_ ?_
  .simp only[go_sem]
  rintro k m A _ ⟨rfl,H,f,rfl⟩
  simp only[go_sem,M3,H,f,R,ae,ao];exact⟨rfl,.inl ⟨rfl,rfl⟩,λ_ _=>rfl⟩
 cases H;have o:=o.resolve_left E;have u:=oe (a:=I h) J;simp only[go_sem,U3,u,ae,ao];refine cD (λk m A=>m 0=.one (.hsl id g 1 0 (I h))/\m 2=aq k/\m 3=aq ((I h:Int)-1-(k:Int))/\ ∃fs,A id=(g,some (.arr y 1 fs))/\sk h fs k/\c8 (· =id) blk A) 0 (I h) (bC _) ?_ ?_
 .simp only[go_sem];refine⟨rfl,aG,h,N,sk.start h,c8.refl _ _⟩
 rintro k m A hk ⟨x,H,f,fs,q,r,D⟩
 by_cases L:k<I h-1-k
 .have e1:((I h:Int)-1-(k:Int))=((I h-1-k:Nat):Int):=J;rw[e1]at f;have j:((k:Int)<((I h-1-k:Nat):Int)):=J;have M:=bJ (n:=k) J;have w2:IntKind.i64.wrap (((I h-1-k:Nat):Int)-1)=((I h:Int)-1-((k+1:Nat):Int)):=by
   rw[oe J];omega
  obtain⟨a,F⟩:=bq (show k<I h by omega);obtain⟨b,z⟩:=bq (show I h-1-k<I h by omega);obtain⟨Q,fb,T⟩:=r.step L F z;obtain⟨la,na⟩:=B a (bY F);obtain⟨lb,O⟩:=B b (bY z);obtain⟨X,rfl⟩:=GO la;obtain⟨y0,rfl⟩:=GO lb;have Y:=na X aG;have IU:=O y0 aG;have jI:=r.len;have Bc:¬(k=I h-1-k):=J;have IH:¬(I h-1-k=k):=J;have l1:k<I fs:=J;have l2:I h-1-k<I fs:=J;have Z:k<I h:=J;have l4:I h-1-k<I h:=J;simp only[go_sem,M3,x,H,f,q,j,Q,fb,M,w2,o,l1,l2,Z,l4,Bc,IH,Y,IU,lC,jc,ae,ao];refine⟨aw,_,rfl,T,?_⟩;exact(D.cQ rfl _).cQ rfl _
 have j:¬((k:Int)<(I h:Int)-1-(k:Int)):=J;simp only[go_sem,M3,x,H,f,j,ae,ao];refine⟨rfl,?_,D⟩;rw[r.done L]at q;exact .inr ⟨by simpa using E,g,by rw[j5],q⟩
def alr{al:bP}{blk:aB}{id:Nat}{c:b_}(o:h=[]\/al.ok id)(hl:I h<=1000000)(D:∀e∈h,I e=2/\ ∀v∈e,v.norm=v)(ab:aW id y 2 h (.one c) blk):
  ∃v A,ia S 97 [.one c] al blk v A/\AJ id y 2 h c blk v A:=by
 refine mU arq (gU rfl) ?_;rcases ab with⟨rfl,H⟩|⟨F,g,H,Q⟩
 .cases H;have u:IntKind.i64.wrap (((0:Nat):Int)-1)= -1:=U;have Z:¬((0:Int)< -1):=U;simp only[go_sem,Th,u,ae,ao];refine cD (λk m A=>k=0/\m 2=aq 0/\m 3=aq (-1)/\A=blk) 0 0 (cH _) ?_ ?_
  .simp only[go_sem]
  rintro k m A _ ⟨rfl,H,f,rfl⟩
  simp only[go_sem,JT,H,f,Z,ae,ao];exact⟨rfl,.inl ⟨rfl,rfl⟩,λ_ _=>rfl⟩
 cases H;have o:=o.resolve_left F;have u:=oe (a:=I h) J;simp only[go_sem,Th,u,ae,ao];refine cD (λk m A=>m 0=.one (.hsl id g 2 0 (I h))/\m 2=aq k/\m 3=aq ((I h:Int)-1-(k:Int))/\ ∃fs,A id=(g,some (.arr y 2 fs))/\sk h fs k/\c8 (· =id) blk A) 0 (I h) (bC _) ?_ ?_
 .simp only[go_sem];refine⟨rfl,aG,h,Q,sk.start h,c8.refl _ _⟩
 rintro k m A hk ⟨x,H,f,fs,q,r,E⟩
 by_cases M:k<I h-1-k
 .have e1:((I h:Int)-1-(k:Int))=((I h-1-k:Nat):Int):=J;rw[e1]at f;have j:((k:Int)<((I h-1-k:Nat):Int)):=J;have O:=bJ (n:=k) J;have w2:IntKind.i64.wrap (((I h-1-k:Nat):Int)-1)=((I h:Int)-1-((k+1:Nat):Int)):=by
   rw[oe J];omega
  obtain⟨a,L⟩:=bq (show k<I h by omega);obtain⟨b,z⟩:=bq (show I h-1-k<I h by omega);obtain⟨R,fb,T⟩:=r.step M L z;obtain⟨la,B⟩:=D a (bY L);obtain⟨lb,N⟩:=D b (bY z);obtain⟨X,x1,rfl⟩:=W6 la;obtain⟨y0,Y,rfl⟩:=W6 lb;have IT:=B X aG;have S3:=B x1 aG;have IU:=N y0 aG;have S4:=N Y aG;have jI:=r.len;have Bc:¬(k=I h-1-k):=J;have IH:¬(I h-1-k=k):=J;have l1:k<I fs:=J;have l2:I h-1-k<I fs:=J;have l3:k<I h:=J;have l4:I h-1-k<I h:=J;simp only[go_sem,JT,x,H,f,q,j,R,fb,O,w2,o,l1,l2,l3,l4,Bc,IH,IT,S3,IU,S4,lC,jc,ae,ao];refine⟨aw,_,rfl,T,?_⟩;exact(E.cQ rfl _).cQ rfl _
 have j:¬((k:Int)<(I h:Int)-1-(k:Int)):=J;simp only[go_sem,JT,x,H,f,j,ae,ao];refine⟨rfl,?_,E⟩;rw[r.done M]at q;exact .inr ⟨by simpa using F,g,by rw[j5],q⟩
def Jb{f:Nat}{c:b_}{blk:aB}(q:aW f y z h (.one c) blk):(h=[]/\kr blk (.one c)=[])\/kr blk (.one c)=[f]:=by
 rcases q with⟨j,H⟩|⟨j,g,H,m⟩
 .cases H;exact .inl ⟨j,Tz⟩
 cases H;exact .inr (show kP blk 6 (.hsl f g z 0 (I h))=[f]from DI (n:=5) m)
section
variable {al:bP} {Q:fp} {m:bD} {blk:aB} {os:en} {d:my}
def ZY{f id y:Nat}{c:b_}(T:∀ {al:bP}{blk:aB},h=[]\/al.ok id->aW id y z h (.one c) blk->∃v A,ia S f [.one c] al blk v A/\AJ id y z h c blk v A)(aa:S.sites f=[f])(H:aW id y z h (.one c) blk)(O:al.ok id)(j:al.fs.contains f)
  (r:∀A,aW id y z h.reverse (.one c) A->(∀i,i≠id->A i=blk i)->gV S al os Q (dx m d (.tup [])) A):iM S al (.sc f [.one c]) d os Q m blk:=by
 refine sf (P:=AJ id y z h c blk) (GL ?_ ?_) (T ?_ H) ?_
 .show al.fG ([V.one c].map (kr blk)).flatten=true;rcases Jb H with⟨_,g⟩|g
  .simp[g,bP.fG]
  simp[g,bP.fG,O]
 .show(S.sites f).all al.fs.contains=true;rw[aa];simp only[oQ,qF,j,Ba]
 .rcases Jb H with⟨g,_⟩|g
  .exact .inl g
  exact .inr (wY (by simp[g]))
 rintro v A ⟨rfl,q,n⟩
 exact r A q n
end
def alB:S.sites 97=[97]:=ah
def apC:S.sites 98=[98]:=ah
def U2(ok:gC F f)(h:x<bH f):bZ f x<bH f:=JW ok.iD ok.hp h
abbrev qz(id:Nat):Prop:=lG id=61
structure aaY (ls:aI) (fZ gS idB gB g8 gF:Nat) (sp:eo) (f:cM) (cd cp cf:b_) (blk:aB):Prop where
 bS:blk fZ=(gS,some (.arr 4 1 (gE sp)))
 bB:blk idB=(gB,some (.arr 4 1 (gE (xo ls))))
 b8:blk 3904000000=(g8,some (.var [.p (.bool false),.p .nils,.p .nils,.p .nils,.p (.bool false)]))
 bF:blk 3904128448=(gF,some (.var [.p (.bool f.dA),cd,cp,cf,.p (.bool f.outer)]))
 gd:aW 3904512256 3 1 (aS f.aT) (.one cd) blk
 gp:aW 3904896192 rI 2 (dc f.places) (.one cp) blk
 gf:aW 3904896448 3 1 (aS f.mY) (.one cf) blk
def arz(ok:gC F f){g:cM}{k:Nat}(j:x<bH f)(h:I g.aT<=k/\I g.places<=k*(2*F+2)/\I g.mY<=k*(2*F+2)):(g.add F f x).aT.length<=k+1/\(g.add F f x).places.length<=(k+1)*(2*F+2)/\(g.add F f x).mY.length<=(k+1)*(2*F+2):=by
 obtain⟨i1,i2,i3⟩:=h;rw[Nat.succ_mul];unfold cM.add;by_cases h:x<2*I f
 .rw[aM h];simp only[ep,dE,eR];exact⟨J,J,J⟩
 rw[aD h];have H:(x-2*I f)/2<I (aH f):=by unfold bH at j;omega
 have L:=JC ok H;have m:=J1 ok H;refine⟨by simp only;omega,?_,?_⟩
 .simp only[ep];split<;>(try rw[j5])<;>omega
 simp only[ep];split<;>(try rw[j5])<;>omega
def apr{al:bP}(ok:gC F f)(hF:F<=1000)(O:∀id,qz id->al.ok id){fZ g8 d:Nat}(oS:al.ok fZ)(nS:¬qz fZ)(nB:¬qz A)(ay:fZ≠A)(f1:al.fs.contains 97)(f2:al.fs.contains 98)(hd:d<2*I f):
  ∀(j k x:Nat) (r:eo) (X:cM) (m:bD) (blk:aB) (n u q:b_),m 0=.one (.p (pV F f))->m 2=.one (.hsl fZ B 1 0 (2*I f))->m 8=.one (.bg 3904000000 g8 0)->m 9=aq (I f)->m 10=aq (I (aH f))->m 11=.one (.bg 3904128448 v 0)->m 12=aq x->
   aaY f fZ B A D g8 v (r.take (2*I f)) X n u q blk->I r=bH f->x<bH f->Inv (bZ f) (bH f) d r x->tR r<j->(k+j<=5000000)->(I X.aT<=k/\I X.places<=k*(2*F+2)/\I X.mY<=k*(2*F+2))->
   (∀aE ak uM lS tM,aE 8=m 8->aE 11=m 11->aaY f fZ B A D g8 v ((eZ (bZ f) j x r).2.take (2*I f)) ((eZ (bZ f) j x r).1.foldl (cM.add F f) X) uM lS tM ak->(∀id,¬(qz id\/id=fZ)->ak id=blk id)->Q .normal aE ak)->
   W S al (.loop Gs) (kZ 0 Q) m blk:=by
 have hl:=ok.hl;have fQ:I (aH f)<=1000000:=jO (mv f (I f)) hl;have fD:bH f<=4000000:=by unfold bH;omega
 have m2:=lR (a:=I f) J;have k0:al.ok 3904000000:=O _ rfl;have kF:al.ok 3904128448:=O _ rfl;have am:al.ok 3904512192:=O _ rfl;have kd:al.ok 3904512256:=O _ rfl;have kp:al.ok 3904896192:=O _ rfl;have kf:al.ok 3904896448:=O _ rfl;have ab:al.ok 3904640128:=O _ rfl;have ad:al.ok 3904640129:=O _ rfl;have hm:=xy ok;intro j
 induction j with
 |zero=>intro k x r X m blk n u q _ _ _ _ _ _ _ _ _ _ _ h;omega
 |succ j ih=>
  intro k x r X m blk n u q M E L T R z jk H Fk tg hi hu hk ag hq;have a4:=hm.le;obtain⟨l1,l2,l3⟩:=ag;have Ys:k*(2*F+2)<=5000000*2002:=A_ J J;have Fv:=arz ok tg ⟨l1,l2,l3⟩;unfold eZ at hq;have N:∀ {a:Nat},qz a->a≠fZ:=λh e=>nS (e▸h);have g:∀ {a:Nat},qz a->a≠A:=λh e=>nB (e▸h);have nF:¬(3904128448=fZ):=N rfl;refine mu ?_;cases aa:r.getD x true with
  |true=>
   have a3:=hi.i4 aa;have au:x<2*I f:=J;have aL:((x:Int)<((2*I f:Nat):Int)):=J;rw[aa]at hq;simp only[if_true]at hq;have hb:(r.take (2*I f))[x]?=some true:=by
    have h1:=Un au (show 2*I f<=I r by omega);rw[show cG r x=true from aa,dT]at h1;have wE:x<I (r.take (2*I f)):=by rw[iU];omega
    obtain⟨b,hb⟩:=bq wE;rw[hb]at h1 |-;exact congrArg some h1
   have nd:=qa hb;simp only[go_sem,Gs,M,E,L,T,R,z,jk,m2,aL,au,H.bS,nd,oS];exact hq _ _ n u q (by simp only[go_sem]) (by simp only[go_sem]) H (λ_ _=>rfl)
  |false=>
   have FA:r[x]?=some false:=by
    rw[dT]at aa;cases h1:r[x]? with
    |none=>rw[h1]at aa;cases aa
    |some b=>rw[h1]at aa;exact congrArg some aa
   have Bp:=HW FA;have pt:=aba ok x (by unfold bH at tg;exact tg);have da:=hi.step hm Fk tg aa;rw[aa]at hq;simp only[ib,if_false,qG]at hq;by_cases xT:x<2*I f
   .have aL:((x:Int)<((2*I f:Nat):Int)):=J;have hb:(r.take (2*I f))[x]?=some false:=by rw[lT,aM xT];exact FA
    have nd:=qa hb;have jK:=Dj (r.take (2*I f)) x true;rw[aa6]at jK;have a0:X.add F f x={X with aT:=X.aT++[x]}:=by unfold cM.add;rw[aM xT]
    simp only[go_sem,Gs,M,E,L,T,R,z,jk,m2,aL,xT,H.bS,H.bF,nd,jK,oS,kF,am,nF];refine Kh (q:=3904512256) (id:=3904512256) (bytes:=8) (A:=[[.int .i64 (x:Int)]]) (rd:=[3904512192]) (by simp[kd,am]) (H.gd.of_eq ((bo U).trans (bo (N rfl)))) (by simp[eO,bj]) (.inl rfl) (by simp only[cT,dE,eR];omega) λc aV hc bc=>?_;have Ft:∀i,i≠3904512192->i≠3904512256->i≠fZ->aV i=blk i:=λi a b c=>(bc i b b).trans ((bo a).trans (bo c))
    have a1:=(bc fZ (N rfl).symm (N rfl).symm).trans ((bo (N rfl).symm).trans oJ);have vM:=(Ft 3904128448 U U (N rfl)).trans H.bF;simp only[go_sem,vM,M,E,L,T,R,z,jk,kF,Kt,FX pt];refine ih (k+1) (bZ f x) (r.set x true) (X.add F f x) _ _ c u q ?_ ?_ ?_ ?_ ?_ ?_ ?_ ?_ (by rw[jc];exact Fk) (U2 ok tg) da J J Fv ?_
    .simp only[go_sem,M]
    .simp only[go_sem,E]
    .simp only[go_sem,L]
    .simp only[go_sem,T]
    .simp only[go_sem,R]
    .simp only[go_sem,z]
    .simp only[go_sem]
    .rw[a0];refine⟨?_,?_,?_,oJ,?_,?_,?_⟩
     .exact(bo (N rfl).symm).trans a1
     .exact(bo (g rfl).symm).trans ((Ft _ (g rfl).symm (g rfl).symm ay.symm).trans H.bB)
     .exact(bo U).trans ((Ft _ U U (N rfl)).trans H.b8)
     .exact(tC _ _▸hc.of_eq (bo U))
     .exact(H.gp.of_eq (Ft _ U U (N rfl))).of_eq (bo U)
     exact(H.gf.of_eq (Ft _ U U (N rfl))).of_eq (bo U)
    intro aE ak uM lS tM q8 w7 u3 cR;refine hq aE ak uM lS tM (by rw[q8];simp only[go_sem]) (by rw[w7];simp only[go_sem]) u3 λid hn=>?_;have a:∀y,qz y->id≠y:=λy hy e=>hn (.inl (e▸hy));exact(cR id hn).trans ((bo (a _ rfl)).trans (Ft id (a _ rfl) (a _ rfl) λe=>hn (.inr e)))
   have hj:(x-2*I f)/2<I (aH f):=by unfold bH at tg;omega
   have Dc:=alb ok hF hj;have lP:=JC ok hj;have lF:=J1 ok hj;have CN:¬((x:Int)<((2*I f:Nat):Int)):=J;have ws:=KM (a:=x) (b:=2*I f) J J;have wq:=wrap_small (n:=(x-2*I f)/2) J;have w2:=wO (a:=I (aH f)) J J;have CQ:((((x-2*I f)/2:Nat):Int)==((I (aH f)-1:Nat):Int))=decide ((x-2*I f)/2+1=I (aH f)):=by
    by_cases h:(x-2*I f)/2+1=I (aH f)
    .rw[sN h];simp;omega
    rw[r3 h];simp;omega
   have lB:(X.add F f x).outer=(X.outer||decide ((x-2*I f)/2+1=I (aH f))):=by unfold cM.add;rw[aD xT]
   have SC:(X.add F f x).dA=X.dA:=by unfold cM.add;rw[aD xT]
   have SN:(X.add F f x).aT=X.aT:=by unfold cM.add;rw[aD xT]
   have Da:(X.add F f x).places=X.places++(if x%2=0 then pN F f ((x-2*I f)/2)else(pN F f ((x-2*I f)/2)).reverse):=by unfold cM.add;rw[aD xT]
   have xV:(X.add F f x).mY=X.mY++(if x%2=0 then s6 F f ((x-2*I f)/2)else(s6 F f ((x-2*I f)/2)).reverse):=by unfold cM.add;rw[aD xT]
   generalize X.add F f x=f' at lB SC SN Da xV hq Fv;have nW:S.lone 3904640128=false:=ah;have ar:∀l:gN,((dc l).all λe=>e.all PV.scalar):=λl=>by simp[PV.scalar]
   have av:∀l:aA,((aS l).all λe=>e.all PV.scalar):=λl=>by simp[PV.scalar]
   have a2:∀l:gN,∀e∈dc l,I e=2/\ ∀aY∈e,aY.norm=aY:=λl e he=>by obtain⟨a,_,rfl⟩:=eJ.1 he;exact⟨rfl,λaY hv=>by simp at hv;rcases hv with rfl|rfl<;>rfl⟩
   have an:∀l:aA,∀e∈aS l,I e=1/\ ∀aY∈e,aY.norm=aY:=λl e he=>by obtain⟨a,_,rfl⟩:=eJ.1 he;exact⟨rfl,λaY hv=>by simp at hv;rcases hv with rfl;rfl⟩
   have lk:S.shared 97:=ah;have az:S.shared 98:=ah;have eK:(r.set x true).take (2*I f)=r.take (2*I f):=Wu J;generalize pN F f ((x-2*I f)/2)=PP at*;generalize s6 F f ((x-2*I f)/2)=FF at*;simp only[go_sem,Gs,M,E,L,T,R,z,jk,m2,CN,ws,wq,de,dZ,arO];refine apm (by simp[ab,ad]) Dc nW (ar _) (av _) λc e bp hc he hb=>?_;by_cases ed:x%2=0
   .have zJ:((x:Int).tmod 2==1)=false:=by rw[hD,ed];rfl
    rw[aM ed]at Da xV;have hP:=hc;have hE:=he;have zo:∀i,i≠3904640128->i≠3904640129->bp i=blk i:=hb;have Y:=(zo 3904128448 U U).trans H.bF;simp only[go_sem,de,zJ,Y,M,E,L,T,R,z,jk,kF];obtain⟨rP,Dm,I2⟩:=hP.elems;refine Nb (q:=3904896192) (id:=3904896192) (bytes:=16) (by rcases I2 with rfl|rfl<;>simp[kp,ab]) (H.gp.of_eq (zo _ U U)) Dm hP.ao (by simp only[cT,j5];omega) λc2 qb r1 u1 lv ef dD=>?_
    have vM:=(ef 3904128448 U U).trans Y;simp only[go_sem,vM,M,E,L,T,R,z,jk,kF];obtain⟨rE,Dl,I1⟩:=(hE.of_eq (ef _ U U)).elems;refine Nb (q:=3904896448) (id:=3904896448) (bytes:=8) (by rcases I1 with rfl|rfl<;>simp[kf,ad]) (H.gf.of_eq ((ef _ U U).trans (zo _ U U))) Dl hE.ao (by simp only[cT,j5];omega) λcP yY r2 u2 ub xS ui=>?_
    have rL:=(xS 3904128448 U U).trans vM;have Z:∀i,i≠3904640128->i≠3904640129->i≠3904896192->i≠3904896448->yY i=blk i:=λi a b c d=>(xS i d d).trans ((ef i c c).trans (zo i a b));have SI:aW 3904896192 rI 2 (dc f'.places) (.one c2) yY:=by rw[Da,uH];exact lv.of_eq (xS _ U U)
    have SJ:aW 3904896448 3 1 (aS f'.mY) (.one cP) yY:=by rw[xV,tC];exact ub
    clear lv ub;cases ho:X.outer;all_goals
     rw[ho]at rL;simp only[go_sem,rL,M,E,L,T,R,z,jk,kF,w2,CQ,Kt,FX pt];refine⟨?_,?_⟩
     .rcases I2 with rfl|rfl<;>rcases I1 with rfl|rfl<;>rcases dD with⟨rfl,rfl⟩|⟨rfl,rfl⟩|⟨rfl,rfl⟩<;>rcases ui with⟨rfl,rfl⟩|⟨rfl,rfl⟩|⟨rfl,rfl⟩<;>kernel_rfl
     refine ih (k+1) (bZ f x) (r.set x true) f' _ _ n c2 cP ?_ ?_ ?_ ?_ ?_ ?_ ?_ ?_ (by rw[jc];exact Fk) (U2 ok tg) da J J Fv ?_
     .simp only[go_sem,M]
     .simp only[go_sem,E]
     .simp only[go_sem,L]
     .simp only[go_sem,T]
     .simp only[go_sem,R]
     .simp only[go_sem,z]
     .simp only[go_sem]
     .rw[eK];refine⟨?_,?_,?_,?_,?_,?_,?_⟩
      .exact(bo (N rfl).symm).trans ((bo (N rfl).symm).trans ((bo (N rfl).symm).trans ((Z _ (N rfl).symm (N rfl).symm (N rfl).symm (N rfl).symm).trans H.bS)))
      .exact(bo (g rfl).symm).trans ((bo (g rfl).symm).trans ((bo (g rfl).symm).trans ((Z _ (g rfl).symm (g rfl).symm (g rfl).symm (g rfl).symm).trans H.bB)))
      .exact(bo U).trans ((bo U).trans ((bo U).trans ((Z _ U U U U).trans H.b8)))
      .rw[oJ,SC,lB,ho];rfl
      .rw[SN];exact H.gd.of_eq ((bo U).trans ((bo U).trans ((bo U).trans (Z _ U U U U))))
      .exact SI.of_eq ((bo U).trans ((bo U).trans (bo U)))
      exact SJ.of_eq ((bo U).trans ((bo U).trans (bo U)))
     intro aE ak uM lS tM q8 w7 u3 cR;refine hq aE ak uM lS tM (by rw[q8];simp only[go_sem]) (by rw[w7];simp only[go_sem]) u3 λid hn=>?_;have a:∀y,qz y->id≠y:=λy hy e=>hn (.inl (e▸hy));exact(cR id hn).trans ((bo (a _ rfl)).trans ((bo (a _ rfl)).trans ((bo (a _ rfl)).trans (Z id (a _ rfl) (a _ rfl) (a _ rfl) (a _ rfl)))))
   have zJ:((x:Int).tmod 2==1):=by rw[hD,show x%2=1 by omega];rfl
   rw[aD ed]at Da xV;simp only[go_sem,de,zJ,M,E,L,T,R,z,jk,lk];refine ZY (f:=97) (λo h=>alr o (by simp only[cT];omega) (a2 _) h) alB hc ab f1 λaV fA bc=>?_;simp only[go_sem,az];refine ZY (f:=98) (λo h=>aoj o (by simp only[cT];omega) (an _) h) apC (he.of_eq (bc _ U)) ad f2 λgh ap fX=>?_;have hP:aW 3904640128 rI 2 (dc PP.reverse) (.one c) gh:=by rw[dc,List.map_reverse];exact fA.of_eq (fX _ U)
   have hE:aW 3904640129 3 1 (aS FF.reverse) (.one e) gh:=by rw[aS,List.map_reverse];exact ap
   have zo:∀i,i≠3904640128->i≠3904640129->gh i=blk i:=λi a b=>(fX i b).trans ((bc i a).trans (hb i a b));have Y:=(zo 3904128448 U U).trans H.bF;simp only[go_sem,de,zJ,Y,M,E,L,T,R,z,jk,kF];obtain⟨rP,Dm,I2⟩:=hP.elems;refine Nb (q:=3904896192) (id:=3904896192) (bytes:=16) (by rcases I2 with rfl|rfl<;>simp[kp,ab]) (H.gp.of_eq (zo _ U U)) Dm hP.ao (by simp only[cT,j5];omega) λc2 qb r1 u1 lv ef dD=>?_
   have vM:=(ef 3904128448 U U).trans Y;simp only[go_sem,vM,M,E,L,T,R,z,jk,kF];obtain⟨rE,Dl,I1⟩:=(hE.of_eq (ef _ U U)).elems;refine Nb (q:=3904896448) (id:=3904896448) (bytes:=8) (by rcases I1 with rfl|rfl<;>simp[kf,ad]) (H.gf.of_eq ((ef _ U U).trans (zo _ U U))) Dl hE.ao (by simp only[cT,j5];omega) λcP yY r2 u2 ub xS ui=>?_
   have rL:=(xS 3904128448 U U).trans vM;have Z:∀i,i≠3904640128->i≠3904640129->i≠3904896192->i≠3904896448->yY i=blk i:=λi a b c d=>(xS i d d).trans ((ef i c c).trans (zo i a b));have SI:aW 3904896192 rI 2 (dc f'.places) (.one c2) yY:=by rw[Da,uH];exact lv.of_eq (xS _ U U)
   have SJ:aW 3904896448 3 1 (aS f'.mY) (.one cP) yY:=by rw[xV,tC];exact ub
   clear lv ub;cases ho:X.outer;all_goals
    rw[ho]at rL;simp only[go_sem,rL,M,E,L,T,R,z,jk,kF,w2,CQ,Kt,FX pt];refine⟨?_,?_⟩
    .rcases I2 with rfl|rfl<;>rcases I1 with rfl|rfl<;>rcases dD with⟨rfl,rfl⟩|⟨rfl,rfl⟩|⟨rfl,rfl⟩<;>rcases ui with⟨rfl,rfl⟩|⟨rfl,rfl⟩|⟨rfl,rfl⟩<;>kernel_rfl
    refine ih (k+1) (bZ f x) (r.set x true) f' _ _ n c2 cP ?_ ?_ ?_ ?_ ?_ ?_ ?_ ?_ (by rw[jc];exact Fk) (U2 ok tg) da J J Fv ?_
    .simp only[go_sem,M]
    .simp only[go_sem,E]
    .simp only[go_sem,L]
    .simp only[go_sem,T]
    .simp only[go_sem,R]
    .simp only[go_sem,z]
    .simp only[go_sem]
    .rw[eK];refine⟨?_,?_,?_,?_,?_,?_,?_⟩
     .exact(bo (N rfl).symm).trans ((bo (N rfl).symm).trans ((bo (N rfl).symm).trans ((Z _ (N rfl).symm (N rfl).symm (N rfl).symm (N rfl).symm).trans H.bS)))
     .exact(bo (g rfl).symm).trans ((bo (g rfl).symm).trans ((bo (g rfl).symm).trans ((Z _ (g rfl).symm (g rfl).symm (g rfl).symm (g rfl).symm).trans H.bB)))
     .exact(bo U).trans ((bo U).trans ((bo U).trans ((Z _ U U U U).trans H.b8)))
     .rw[oJ,SC,lB,ho];rfl
     .rw[SN];exact H.gd.of_eq ((bo U).trans ((bo U).trans ((bo U).trans (Z _ U U U U))))
     .exact SI.of_eq ((bo U).trans ((bo U).trans (bo U)))
     exact SJ.of_eq ((bo U).trans ((bo U).trans (bo U)))
    intro aE ak uM lS tM q8 w7 u3 cR;refine hq aE ak uM lS tM (by rw[q8];simp only[go_sem]) (by rw[w7];simp only[go_sem]) u3 λid hn=>?_;have a:∀y,qz y->id≠y:=λy hy e=>hn (.inl (e▸hy));exact(cR id hn).trans ((bo (a _ rfl)).trans ((bo (a _ rfl)).trans ((bo (a _ rfl)).trans (Z id (a _ rfl) (a _ rfl) (a _ rfl) (a _ rfl)))))
structure ch (F:Nat) (ls:aI):Prop where
 ok:gC F ls
 len:I ls<=400
 cr:aF af.aJ ls<=200
 fing:F<=40
 ne:ls≠[]
 first:∃l,ls[0]?=some l/\l.aN
 even:aF af.aN ls%2=0
 bad:∀l∈ls,ek F l=false
 chk:kM F ls=0
 nw:sJ ls=aF af.aN ls+aF af.aJ ls/2+2
def ajG{g:Int}(h:kM g f=0)(A:f≠[]):∃F:Nat,g=(F:Int)/\ch F f:=by
 have q:=h;unfold kM at h;by_cases n:400<I f\/200<aF af.aJ f
 .rw[aM n]at h;cases h
 rw[aD n]at h;by_cases j:g<0\/40<g
 .rw[aM j]at h;cases h
 rw[aD j,aD A]at h;cases H:kn g f with
 |false=>rw[H]at h;simp at h
 |true=>
  obtain⟨F,rfl⟩:=lM (show 0<=g by omega);refine⟨F,rfl,?_⟩;unfold kn at H;simp only[cq]at H;obtain⟨⟨⟨jq,v2⟩,v3⟩,v4⟩:=H;obtain⟨B,N,u⟩:=M6.1 v3;have m:∀l∈f,ek F l=false:=λl hl=>by simpa using xM.1 B l hl
  have r:qN F f:=λl hl hp=>((Ao hp).1 (m l hl)).1.1.1;obtain⟨g1,v⟩:=(D4 r).1 N;obtain⟨L,M⟩:=bq (nA.2 A);rw[M]at jq;exact⟨⟨J,⟨g1,v⟩,u,λl hl=>KC (m l hl)⟩,J,J,J,A,⟨L,M,jq⟩,by simpa using v2,m,q,by simpa using v4⟩
def ch.axne(g:ch F f):aH f≠[]:=by obtain⟨l,H,h⟩:=g.first;exact List.ne_nil_of_mem (tm.2 ⟨l,H,h⟩)
def abk(F:Nat)(f:aI)(fZ B:Nat)(x:Nat)(h:eo)(blk:aB)(v:V)(A:aB):Prop:=
 ∃g n u q,g=((eZ (bZ f) (bH f+1) x h).1).foldl (cM.add F f) (cM.new f x)/\v=.agg [.p (.bool g.dA),n,u,q,.p (.bool g.outer)]/\A fZ=(B,some (.arr 4 1 (gE ((eZ (bZ f) (bH f+1) x h).2.take (2*I f)))))/\
  aW 3904512256 3 1 (aS g.aT) (.one n) A/\aW 3904896192 rI 2 (dc g.places) (.one u) A/\aW 3904896448 3 1 (aS g.mY) (.one q) A/\c8 (λid=>qz id\/id=fZ) blk A
def aqL{al:bP}{F:Nat}{f:aI}(ok:gC F f)(hF:F<=1000)(O:∀id,qz id->al.ok id){fZ:Nat}(oS:al.ok fZ)(oB:al.ok A)(M:¬qz fZ)(X:¬qz A)(q:fZ≠A)(f1:al.fs.contains 97)(f2:al.fs.contains 98){g:eo}{blk:aB}
  (hx:x<2*I f) (Fk:I g=bH f) (dt:Hx (bZ f) (bH f) g) (aa:g.getD x true=false) (bS:blk fZ=(B,some (.arr 4 1 (gE (g.take (2*I f)))))) (bB:blk A=(D,some (.arr 4 1 (gE (xo f))))):
  ∃ad z,ia S 61 [.one (.p (pV F f)),aq x,.one (.hsl fZ B 1 0 (2*I f)),.one (.hsl A D 1 0 (I f))] al blk ad z/\abk F f fZ B x g blk ad z:=by
 have hl:=ok.hl;have fQ:I (aH f)<=I f:=mv f (I f);have fD:bH f<=4000000:=by unfold bH;omega
 have H:al.ok 3904000000:=O _ rfl;have L:al.ok 3904128448:=O _ rfl;have Z:=wrap_small (n:=x/2) J;have Q:x/2<I f:=J;have m:=qa (aqr Q);have j:∀ {a:Nat},qz a->a≠fZ:=λh e=>M (e▸h);have N:∀ {a:Nat},qz a->a≠A:=λh e=>X (e▸h);have r:¬(A=3904000000):=λe=>N rfl e.symm
 have ab:=EK g;refine mU aoK (gU rfl) ?_;simp only[go_sem,YI,bB,r,H,L,oB,de,dZ,Z,Q,m];refine⟨aw,?_⟩;refine apr ok hF O (fZ:=fZ) (B:=B) (A:=A) (D:=D) (g8:=(blk 3904000000).1+1) (v:=(blk 3904128448).1+1) (d:=x) oS M X q f1 f2 hx (bH f+1) 0 x g (cM.new f x) _ _ (.p .nils) (.p .nils) (.p .nils) ?_ ?_ ?_ ?_ ?_ ?_ ?_ ?_ Fk (by unfold bH;omega) (Inv.start dt aa) J J ⟨cH _,bC _,bC _⟩ ?_
 .simp only[go_sem]
 .simp only[go_sem]
 .simp only[go_sem]
 .simp only[go_sem]
 .simp only[go_sem]
 .simp only[go_sem]
 .simp only[go_sem]
 .refine⟨?_,?_,?_,?_,aW.nil,aW.nil,aW.nil⟩
  .simp only[bo (j (a:=3904000000) rfl).symm,bo (j (a:=3904128448) rfl).symm,bS]
  .simp only[bo (N (a:=3904000000) rfl).symm,bo (N (a:=3904128448) rfl).symm,bB]
  .simp only[go_sem]
  simp only[go_sem,cM.new]
 intro aE z Y lS tM T E u cR;simp only[go_sem]at T E;have h8:=u.b8;have hf:=u.bF;simp only[go_sem,abe,T,E,h8,hf,H,L];refine⟨_,Y,lS,tM,rfl,rfl,?_,?_,?_,?_,λid R=>?_⟩
 .exact(bo (j rfl).symm).trans u.bS
 .exact u.gd.of_eq (bo U)
 .exact u.gp.of_eq (bo U)
 .exact u.gf.of_eq (bo U)
 have a:∀y,qz y->id≠y:=λy hy e=>R (.inl (e▸hy));refine(bo (a _ rfl)).trans ((cR id R).trans ?_);simp only[bo (a 3904000000 rfl),bo (a 3904128448 rfl)]
def iW{f T z:Nat}{c:b_}{x:PV}{blk:aB}(m:aW f T z h (.one c) blk):hJ blk (.tup [.one c,.one (.p x)])=some (.tup [.one (bn T z h),.one (.p x)]):=by obtain⟨n,o,j,H,g⟩:=m.iZ;cases j;rcases g with rfl|rfl<;>simp[hJ,pn,rl,lJ,kQ,H,(show Go.Abs.iZ blk (.p x)=some (.p x,[],[])from rfl),pE,sr,qf,BY]
def RF{blk:aB}{id g0 o l f:Nat}(H:blk id=(g0,some (.arr y f h))):kr blk (.one (.hsl id g z o l))=[id]:=(DI H:kP blk 6 (.hsl id g z o l)=[id])
def agS:(S.sites 61).contains 61:=ah
def ahk:(S.sites 61).contains 97:=ah
def aha:(S.sites 61).contains 98:=ah
def ad3{S:eo}{n k:Nat}{b:Bool}(H:k<n)(g:n<=I S)(h:S.getD k true=b):(S.take n)[k]?=some b:=by rw[lT,aM H];rw[dT]at h;obtain⟨c,f⟩:=bq (show k<I S by omega);rw[f]at h |-;exact congrArg some h
def akc(g:ch F f):aC S 39 [dQ F f] (.tup [.one (bn qY 5 (g_ (cZ F f))),.one (.p (.int .i64 0))]):=by
 have ok:=g.ok;have hl:=ok.hl;have hF:F<=1000:=by have:=g.fing;omega
 have fQ:I (aH f)<=I f:=mv f (I f);have ak:=g.len;have fD:bH f<=4000000:=by unfold bH;omega
 have x:2*I f<=bH f:=by unfold bH;omega
 have pr:=Zj F f hl;rw[MK g.chk,aD g.ne,nY]at pr;have pb:=akM ok;have hm:=xy ok;have m2:=lR (a:=I f) J;have jQ:2*I f<=140737488355328:=J;have De:List.replicate (2*I f) [PV.bool false]=gE ((dN (bZ f) (bH f) 0).2.take (2*I f)):=by show _=gE ((List.replicate (bH f) false).take (2*I f));rw[List.take_replicate,y_ x];simp
 have T:∀blk:aB,d_ blk [] 2496384064 ((RV.one (.own 4 1 (gE (xo f)))).eU (S.lone 2496384064))=some (.one (.hsl 2496384064 ((blk 2496384064).1+1) 1 0 (I f)),[(2496384064,((blk 2496384064).1+1,some (.arr 4 1 (gE (xo f)))))]):=by intro blk;rw[show S.lone 2496384064=false by kernel_rfl];show some (V.one (.hsl 2496384064 ((blk 2496384064).1+1) 1 0 (I (gE (xo f)))),_)=_;rw[show(gE (xo f)).length=I f by simp[qL]];rfl
 have dJ:S.shared 61:=ah;refine bG We ?_;simp only[go_sem,Vb,X1,bl pr bQ,Xg,bl pb (T _),m2,jQ,De];refine cD (λk m blk=>m 4=.one (.p (pV F f))/\m 7=.one (.hsl 2496320448 1 1 0 (2*I f))/\m 8=.one (.hsl 2496384064 1 1 0 (I f))/\m 29=aq ((2*I f:Nat):Int)/\m 30=aq k/\
   blk 2496320448=(1,some (.arr 4 1 (gE ((dN (bZ f) (bH f) k).2.take (2*I f)))))/\blk 2496384064=(1,some (.arr 4 1 (gE (xo f))))/\
   ∃N,m 6=.one N/\aW 2496704448 qY 5 (g_ ((dN (bZ f) (bH f) k).1.map (iP F f))) (.one N) blk) 0 (2*I f) (bC _) ?_ ?_
 .simp only[go_sem];first|exact⟨rfl,rfl,rfl,_,rfl,.inl ⟨rfl,rfl⟩⟩|exact⟨rfl,rfl,_,rfl,.inl ⟨rfl,rfl⟩⟩|exact⟨rfl,_,rfl,.inl ⟨rfl,rfl⟩⟩|exact⟨rfl,rfl,rfl,rfl,_,rfl,.inl ⟨rfl,rfl⟩⟩
 rintro k m blk hk ⟨H,E,r,y,L,bS,bB,N,M,go⟩
 by_cases A:k<2*I f
 .have aL:((k:Int)<((2*I f:Nat):Int)):=J;have w1:=bJ (n:=k) J;obtain⟨dt,_⟩:=Ma hm k J;have Z:=Ce (bZ f) (bH f) k;have Bk:=Dr (bZ f) (bH f) k;have D:=s_ (bZ f) (bH f) k;generalize hw:dN (bZ f) (bH f) k=st at*;obtain⟨o,j⟩:=st;simp only at dt Z Bk bS go;unfold qX at D;cases aa:j.getD k true with
  |true=>simp only[aa,if_true]at D;have Q:=qa (ad3 A J aa);simp only[go_sem,HI,H,M,E,r,y,L,bS,bB,A,aL,Q,w1,D];exact⟨N,rfl,go⟩
  |false=>
   simp only[aa,ib,if_false,Z]at D;have Q:=qa (ad3 A J aa);obtain⟨t,ht⟩:=abb (bZ f) (k:=bH f) aa;have vd:((eZ (bZ f) (bH f+1) k j).1).foldl (cM.add F f) (cM.new f k)=iP F f (eZ (bZ f) (bH f+1) k j).1:=by unfold iP;rw[ht];rfl
   have gH:=VL (F:=F) (t:=t) A;rw[<-ht]at gH;simp only[go_sem,HI,H,M,E,r,y,L,bS,bB,A,aL,Q,w1,dJ];have YM:kr blk (.one (.hsl 2496320448 1 1 0 (2*I f)))=[2496320448]:=RF bS;have I3:kr blk (.one (.hsl 2496384064 1 1 0 (I f)))=[2496384064]:=RF bB;refine sf (P:=abk F f 2496320448 1 k j blk) xt (aqL ok hF (λid h=>EY (by rw[h];exact agS)) (wY ?_) (wY ?_) U U U ?_ ?_ A Z dt aa bS bB) ?_
   .simp only[ew,kT,YM,I3];simp
   .simp only[ew,kT,YM,I3];simp
   .exact ahk
   .exact aha
   rintro v bp ⟨am,n,u,q,hf,rfl,ab,gd,gp,gf,cR⟩
   rw[vd]at hf;rw[<-hf]at gH;have Hm:=(cR 2496384064 U).trans bB;have z:=go.of_eq (cR 2496704448 U);have lB:g_ (o.map (iP F f))++[am.ps]=g_ ((dN (bZ f) (bH f) (k+1)).1.map (iP F f)):=by rw[D,hf];simp
   have R:(dN (bZ f) (bH f) (k+1)).2=(eZ (bZ f) (bH f+1) k j).2:=by rw[D]
   have ad:I (g_ (o.map (iP F f)))<=k:=by simpa using Bk
   generalize g_ (o.map (iP F f))=ag at z lB ad;have B:=gd;rcases gd with⟨e,_⟩|⟨_,gg,e,eX⟩
   .simp at e;exact absurd e gH
   cases e;simp only[go_sem,H,M,E,r,y,L,XJ];rw[cT]at B;obtain⟨fr,hx,vc,zx⟩:=Xw (blk:=cQ bp 2496704384 ((bp 2496704384).1+1,some (.gT qY 5 [[.p (.bool am.dA),.hsl 3904512256 gg 1 0 (I am.aT),u,q,.p (.bool am.outer)]]))) (s:=2496704384) oJ (B.of_eq (bo U)) (gp.of_eq (bo U)) (gf.of_eq (bo U));have O:∀i,i≠3904512256->i≠3904896192->i≠3904896448->i∉fr:=λi a b c h=>by
    rcases zx i h with h|h|h
    .exact a h
    .exact b h
    exact c h
   refine ac0 (q:=2496704448) (id:=2496704448) (bytes:=88) (z.of_eq (bo U)) hx vc (O _ U U U) (O _ U U U) (.inl rfl) (by simp only[dE,eR];omega) λc aV hc bc=>?_;have X:=(bc 2496320448 U U (O _ U U U)).trans ((bo U).trans ab);have Y:=(bc 2496384064 U U (O _ U U U)).trans ((bo U).trans Hm);simp only[go_sem,H,M,E,r,y,L,X,Y,w1,A,R];refine⟨c,rfl,?_⟩;rw[<-lB];exact hc
 have:k=2*I f:=J;subst this;simp only[go_sem,HI,PF,H,M,E,r,y,L,dF];have:=Sm hm (bH f) x (cH _);unfold cZ fW;rw[this];exact iW go
end
end Go.Abs
