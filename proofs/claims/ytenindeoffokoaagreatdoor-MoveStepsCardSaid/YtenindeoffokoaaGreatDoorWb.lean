/- A part. -/
import Derived.Test.YtenindeoffokoaaGreatDoorWa
set_option linter.all false
open List renaming length->I
set_option maxRecDepth 100000
set_option maxHeartbeats 16000000
namespace Go.Abs
variable{n:bJ}{u x j v:Nat}{y z:bd}{m:U}
section
variable{h:af}{F:Nat}{f:Int}
abbrev Lo(id:Nat):Prop:=id=1408320128\/rh id=82
abbrev xT(F:Nat)(ls:af)(c2 c3 c4 c5 c6:bd):eO:=[.p (.int .i64 (F:Int)),.p (gC ls),c2,c3,c4,c5,c6]
abbrev ae(id g n:Nat):bd:=.hsl id g 1 0 n
abbrev uC(F:Nat)(ls:af):Prop:=∀l∈ls,l.ay->0<=l.gate/\l.gate<=(F:Int)
def Kz(F:Nat)(h:af)(g:Nat)(y:bd)(m:aJ)(v:V)(A:aJ):Prop:=
 v=i_ (Br h)/\d_ Lo m A/\(Br h->∃g1 u x f,A 1408320128=(g,some (.var (xT F h (ae 5248128448 u (I h)) (ae 5249344128 f (dr h (F+1))) (ae 5248192448 x (I h)) y (ae 5248064448 g1 (F+1)))))/\
  A 5248064448=(g1,some (.arr 3 1 (bQ (gK h F))))/\A 5248128448=(u,some (.arr 4 1 (iQ (lr h))))/\A 5248192448=(x,some (.arr 3 1 (bQ (lp h (I h)))))/\
  A 5249344128=(f,some (.arr 3 1 (bQ (ud h (dr h (F+1)) (I h))))))
def ayU{al:cF}(O:al.ok 1408320128)(ok:∀id,rh id=82->al.ok id){mq blk:aJ}{g g1 g4 F:Nat}{h:af}{c3:bd}(hl:I h<=1000000)(hF:F<=1000000)(hg:uC F h)
  (D:n 0=.one (.bR 1408320128 g 0)) (Q:n 6=.one (ae 5248832384 g4 (F+1))) (h7:n 7=aI (dr h (F+1)))
  (v:blk 1408320128=(g,some (.var (xT F h (ae 5248128448 u (I h)) c3 (ae 5248192448 x (I h)) y (ae 5248064448 g1 (F+1))))))
  (B:blk 5248064448=(g1,some (.arr 3 1 (bQ (gK h F))))) (E:blk 5248128448=(u,some (.arr 4 1 (iQ (lr h))))) (z:blk 5248192448=(x,some (.arr 3 1 (bQ (lp h 0)))))
  (bF:blk 5248832384=(g4,some (.arr 3 1 (bQ (J9 h F))))) (hk:d_ Lo mq blk):W S al Xg (sW al [(2,none)] (Kz F h g y mq)) n blk:=by
 have o1:=ok 5248064448 rfl;have o2:=ok 5248128448 rfl;have o3:=ok 5248192448 rfl;have o4:=ok 5248448192 rfl;have Z:=ok 5248832384 rfl;have X:=ok 5249344128 rfl;have o7:=ok 5249408064 rfl;have o8:=ok 5249600192 rfl;have hT:=WO h (F+1);have QC:dr h (F+1)*8<=140737488355328:=J;have kN:dr h (F+1)<=140737488355328:=J;simp only[go_sem,Xg,D,h7,v,QC,kN,O,o1,o2,o3,o4,Z,X,o7,o8,ai,aB];refine dt (λk n A=>n 0=.one (.bR 1408320128 g 0)/\n 6=.one (ae 5248832384 g4 (F+1))/\n 10=.one (ae 5249408064 ((blk 5249408064).1+1) (dr h (F+1)))/\n 114=.one (.p (gC h))/\n 115=aI (I h)/\n 116=aI k/\
  A 1408320128=(g,some (.var (xT F h (ae 5248128448 u (I h)) (ae 5249344128 ((blk 5249344128).1+1) (dr h (F+1))) (ae 5248192448 x (I h)) y (ae 5248064448 g1 (F+1)))))/\
  A 5248064448=(g1,some (.arr 3 1 (bQ (gK h F))))/\A 5248128448=(u,some (.arr 4 1 (iQ (lr h))))/\A 5248192448=(x,some (.arr 3 1 (bQ (lp h k))))/\
  A 5248832384=(g4,some (.arr 3 1 (bQ (J9 h F))))/\A 5249344128=((blk 5249344128).1+1,some (.arr 3 1 (bQ (ud h (dr h (F+1)) k))))/\A 5249408064=((blk 5249408064).1+1,some (.arr 4 1 (iQ (yA h (dr h (F+1)) k))))/\
  (∀i,i<k->yV h i)/\d_ Lo mq A) 0 (I h) (bZ _) ?_ ?_
 .simp only[go_sem,D,Q,B,E,z,bF,ai,aB,ayG,aty,ZN,ae1];refine⟨rfl,rfl,λi T=>absurd T (o6 i),?_⟩;repeat(first|exact hk|refine d_.dV ?_ (by first|exact Or.inl rfl|exact Or.inr rfl) _)
 rintro k n A hk ⟨D,Q,fe,PD,Mg,Hg,v,B,E,z,bF,Y,bT,aF,dN⟩
 by_cases M:k<I h
 .obtain⟨l,f⟩:=aP M;have m:=jh f;have aM:((k:Int)<(I h:Int)):=J;have w1:=cS (n:=k) J;cases hp:(l.kind==1)with
  |false=>
   have j:l.ay=false:=hp;have oz:(l.kind !=1):=by simp[bne,hp]
   simp only[go_sem,GZ,D,Q,fe,PD,Mg,Hg,v,B,E,bF,z,Y,bT,m,eR,U.ps,aM,hp,oz,w1,O,o1,o2,o3,o4,Z,X,o7,o8,ai,aB];refine⟨M,?_,?_,?_,?_,?_⟩
   .rw[axN f j]
   .rw[ari f j]
   .rw[as8 f j]
   .intro i m;rcases rH.1 m with T|rfl
    .exact aF i T
    exact by simp[yV,f,j]
   repeat(first|exact dN|refine d_.dV ?_ (by first|exact Or.inl rfl|exact Or.inr rfl) _)
  |true=>
   have j:l.ay:=hp;have oz:(l.kind !=1)=false:=by simp[bne,hp]
   obtain⟨FT,am⟩:=hg l (a7 f) j;obtain⟨G,hG⟩:=ns FT;have wM:G<=F:=J;have BA:G<F+1:=J;have ow:=jy (GN (h:=h) wM);have BE:=jy (aAB (h:=h) wM);have jC:l.gate.toNat=G:=J;cases r1:decide (l.au<1)with
   |true=>have vR:=Dp r1;have ab:¬1<=l.au:=J;have L:=YC M (by simp[yV,f,j,ab]);simp only[go_sem,GZ,D,Q,fe,PD,Mg,Hg,v,B,E,bF,z,Y,bT,m,eR,U.ps,aM,hp,oz,w1,vR,O,o1,o2,o3,o4,Z,X,o7,o8,ai,aB];refine⟨aS,?_⟩;unfold Kz;refine⟨by rw[L],?_,λT=>by rw[L]at T;cases T⟩;repeat(first|exact dN|refine d_.dV ?_ (by first|exact Or.inl rfl|exact Or.inr rfl) _)
   |false=>
    have vR:=xP r1;obtain⟨R,hR⟩:=ns (show 0<=l.au by omega);have N:¬((R:Int)<1):=J;cases r2:decide ((aV h G:Int)<(R:Int))with
    |true=>
     have xn:=Dp r2;have ad:¬l.au<=(aV h l.gate.toNat:Int):=by rw[jC];omega
     have L:=YC M (by simp[yV,f,j,ad]);simp only[go_sem,GZ,D,Q,fe,PD,Mg,Hg,v,B,E,bF,z,Y,bT,m,eR,U.ps,aM,hp,oz,w1,hR,hG,N,xn,ow,BA,O,o1,o2,o3,o4,Z,X,o7,o8,ai,aB];refine⟨aS,?_⟩;unfold Kz;refine⟨by rw[L],?_,λT=>by rw[L]at T;cases T⟩;repeat(first|exact dN|refine d_.dV ?_ (by first|exact Or.inl rfl|exact Or.inr rfl) _)
    |false=>
     have xn:=xP r2;have ag:=WO h G;have ac:=yR (h:=h) (show G+1<=F+1 by omega);have DO:=pX h G;have H:dQ h l<dr h (F+1):=by unfold dQ;rw[jC];omega
     have aX:dr h G+R-1=dQ h l:=by unfold dQ;rw[jC];omega
     have dF:aV h G<=I h:=vo _ _;have w2:=tm (a:=dr h G) (b:=R) J;have w3:=Ig (a:=dr h G+R) J J;rw[aX]at w3;have Kc:=tR (aof (h:=h) (k:=k) H);cases hu:(List.range k).any (xj h (dQ h l))with
     |true=>rw[hu]at Kc;have L:=YC M (by simp[yV,f,j,hu]);simp only[go_sem,GZ,D,Q,fe,PD,Mg,Hg,v,B,E,bF,z,Y,bT,m,eR,U.ps,aM,hp,oz,w1,hR,hG,N,xn,ow,BE,BA,w2,w3,Kc,H,O,o1,o2,o3,o4,Z,X,o7,o8,ai,aB];refine⟨aS,aS,?_⟩;unfold Kz;refine⟨by rw[L],?_,λT=>by rw[L]at T;cases T⟩;repeat(first|exact dN|refine d_.dV ?_ (by first|exact Or.inl rfl|exact Or.inr rfl) _)
     |false=>
      rw[hu]at Kc;have jX:yV h k:=by
       have e1:1<=l.au:=J;have e2:l.au<=(aV h l.gate.toNat:Int):=by rw[jC];omega
       simp[yV,f,e1,e2,hu]
      obtain⟨a0,Cp⟩:=aP (show dQ h l<I (ud h (dr h (F+1)) k) by rw[aib];exact H);obtain⟨p0,lZ⟩:=aP (show k<I (lp h k) by rw[asz];exact M);have s1:=Lh (yA h (dr h (F+1)) k) (dQ h l) true;rw[<-aBh f j]at s1;have s2:=KR (ud h (dr h (F+1)) k) (dQ h l) k;rw[<-aun f j hu]at s2;have y9:=KR (lp h k) k (dQ h l);rw[<-azL f j]at y9;simp only[go_sem,GZ,D,Q,fe,PD,Mg,Hg,v,B,E,bF,z,Y,bT,m,eR,U.ps,aM,M,hp,oz,w1,hR,hG,N,xn,ow,BE,BA,w2,w3,Kc,H,jy Cp,jy lZ,s1,s2,y9,O,o1,o2,o3,o4,Z,X,o7,o8,ai,aB];refine⟨aS,aS,aS,?_,?_⟩
      .intro i m;rcases rH.1 m with T|rfl
       .exact aF i T
       exact jX
      repeat(first|exact dN|refine d_.dV ?_ (by first|exact Or.inl rfl|exact Or.inr rfl) _)
 have:k=I h:=J;subst this;simp only[go_sem,GZ,aiw,Mg,Hg,fF,ai,aB];exact⟨by rw[aph aF],dN,λ_=>⟨g1,u,x,(blk 5249344128).1+1,v,B,E,z,Y⟩⟩
def awv{al:cF}(O:al.ok 1408320128)(ok:∀id,rh id=82->al.ok id){M blk:aJ}{g g1 F:Nat}{h:af}{c3:bd}(hl:I h<=1000000)(hF:F<=1000000)(hg:uC F h)
  (H:n 0=.one (.bR 1408320128 g 0))
  (B:blk 1408320128=(g,some (.var (xT F h (ae 5248128448 u (I h)) c3 (ae 5248192448 x (I h)) y (ae 5248064448 g1 (F+1))))))
  (m:blk 5248064448=(g1,some (.arr 3 1 (bQ (gK h F))))) (v:blk 5248128448=(u,some (.arr 4 1 (iQ (lr h))))) (z:blk 5248192448=(x,some (.arr 3 1 (bQ (lp h 0)))))
  (R:d_ Lo M blk):W S al ZL (sW al [(2,none)] (Kz F h g y M)) n blk:=by
 have o1:=ok 5248064448 rfl;have Z:=ok 5248128448 rfl;have o3:=ok 5248192448 rfl;have o4:=ok 5248448192 rfl;have T:=ok 5248832384 rfl;have N:=ok 5249344128 rfl;have Y:=ok 5249408064 rfl;have o8:=ok 5249600192 rfl;have QC:(F+1)*8<=140737488355328:=J;have wF:=cS (n:=F) J;simp only[go_sem,ZL,H,B,wF,QC,O,o1,Z,o3,o4,T,N,Y,o8,ai,aB];refine dt (λk n A=>n 0=.one (.bR 1408320128 g 0)/\n 6=.one (ae 5248832384 ((blk 5248832384).1+1) (F+1))/\n 7=aI (dr h k)/\n 88=.one (ae 5248064448 g1 (F+1))/\n 89=aI ((F+1:Nat):Int)/\n 90=aI k/\
  A 1408320128=(g,some (.var (xT F h (ae 5248128448 u (I h)) c3 (ae 5248192448 x (I h)) y (ae 5248064448 g1 (F+1)))))/\
  A 5248064448=(g1,some (.arr 3 1 (bQ (gK h F))))/\A 5248128448=(u,some (.arr 4 1 (iQ (lr h))))/\A 5248192448=(x,some (.arr 3 1 (bQ (lp h 0))))/\
  A 5248832384=((blk 5248832384).1+1,some (.arr 3 1 (bQ (zf h F k))))/\d_ Lo M A) 0 (F+1) (bZ _) ?_ ?_
 .simp only[go_sem,H,B,m,v,z,ai,aB,auL,ZN];refine⟨rfl,rfl,rfl,?_⟩;repeat(first|exact R|refine d_.dV ?_ (by first|exact Or.inl rfl|exact Or.inr rfl) _)
 rintro k n A R ⟨H,h6,X,D,f,j,B,m,v,z,bF,L⟩
 by_cases Q:k<F+1
 .have aM:((k:Int)<((F+1:Nat):Int)):=J;have w1:=cS (n:=k) J;have hc:=jy (GN (h:=h) (show k<=F by omega));obtain⟨a0,E⟩:=aP (show k<I (zf h F k) by rw[aop];exact Q);have E:=jy E;have s1:=KR (zf h F k) k (dr h k);rw[<-atX]at s1;have ae:=pX h k;have ab:=WO h (k+1);have w2:=tm (a:=dr h k) (b:=aV h k) J;rw[<-ae]at w2;simp only[go_sem,Yx,H,h6,X,D,f,j,B,m,v,z,bF,Q,aM,hc,E,s1,w1,w2,O,o1,Z,o3,o4,T,N,Y,o8,ai,aB];repeat(first|exact L|refine d_.dV ?_ (by first|exact Or.inl rfl|exact Or.inr rfl) _)
 have:k=F+1:=J;subst this;simp only[go_sem,Yx,f,j,fF,ai,aB];exact ayU O ok hl hF hg H h6 X B m v z (by rw[bF,ao5]) L
def asr{al:cF}(O:al.ok 1408320128)(ok:∀id,rh id=82->al.ok id){blk:aJ}{g F:Nat}{h:af}{c3 c4 c6:bd}(hl:I h<=1000000)(hF:F<=1000000)(hg:uC F h)
  (B:blk 1408320128=(g,some (.var (xT F h z c3 c4 y c6)))):∃v A,jQ S 82 [.one (.bR 1408320128 g 0)] al blk v A/\Kz F h g y blk v A:=by
 have Y:=ok 5248064448 rfl;have X:=ok 5248128448 rfl;have o3:=ok 5248192448 rfl;have o4:=ok 5248448192 rfl;have R:=ok 5248832384 rfl;have x:=ok 5249344128 rfl;have T:=ok 5249408064 rfl;have Z:=ok 5249600192 rfl;refine oZ atp (ju rfl) ?_;have QC:(F+1)*8<=140737488355328:=J;have N:I h*8<=140737488355328:=J;have jJ:I h<=140737488355328:=J;have wF:=cS (n:=F) J;simp only[go_sem,ahY,B,wF,QC,N,jJ,O,Y,X,o3,o4,R,x,T,Z,ai,aB];refine dt (λk n A=>n 0=.one (.bR 1408320128 g 0)/\n 3=i_ (dn h k)/\n 48=.one (.p (gC h))/\n 49=aI (I h)/\n 50=aI k/\
  A 1408320128=(g,some (.var (xT F h (ae 5248128448 ((blk 5248128448).1+1) (I h)) c3 (ae 5248192448 ((blk 5248192448).1+1) (I h)) y (ae 5248064448 ((blk 5248064448).1+1) (F+1)))))/\
  A 5248064448=((blk 5248064448).1+1,some (.arr 3 1 (bQ (s7 h F k))))/\A 5248128448=((blk 5248128448).1+1,some (.arr 4 1 (iQ (u5 h k))))/\A 5248192448=((blk 5248192448).1+1,some (.arr 3 1 (bQ (lp h 0))))/\
  d_ Lo blk A) 0 (I h) (bZ _) ?_ ?_
 .simp only[go_sem,B,ai,aB,W9,aB1,auw,ZN,ae1];refine⟨rfl,rfl,rfl,rfl,?_⟩;repeat(first|exact(d_.refl _ _)|refine d_.dV ?_ (by first|exact Or.inl rfl|exact Or.inr rfl) _)
 rintro k n A hk ⟨E,h3,PN,m,H,B,L,Q,pL,D⟩
 by_cases u:k<I h
 .obtain⟨l,f⟩:=aP u;have hi:=jh f;have aM:((k:Int)<(I h:Int)):=J;have w1:=cS (n:=k) J;cases hp:(l.kind==1)with
  |false=>
   have j:=hp;simp only[go_sem,UW,E,h3,PN,m,H,B,L,Q,pL,hi,eR,U.ps,aM,hp,w1,O,Y,X,o3,o4,R,x,T,Z,ai,aB];refine⟨u,?_,?_,?_,?_⟩
   .rw[Jc f j]
   .rw[aiF f j]
   .rw[an4 f j]
   repeat(first|exact D|refine d_.dV ?_ (by first|exact Or.inl rfl|exact Or.inr rfl) _)
  |true=>have j:=hp;obtain⟨FT,ab⟩:=hg l (a7 f) j;obtain⟨G,hG⟩:=ns FT;have wM:G<=F:=J;have BA:G<F+1:=J;have ow:=jy (alN (h:=h) (k:=k) wM);have dF:aV (h.take k) G<=k:=Bb _ _ _;have w2:=cS (n:=aV (h.take k) G) J;have s1:=KR (s7 h F k) G (aV (h.take k) G+1);rw[<-ahn f j hG]at s1;obtain⟨b0,M⟩:=aP (show k<I (u5 h k) by rw[aoh];exact u);have M:=tR M;have s2:=Lh (u5 h k) k (dn h k);rw[<-aqf f j]at s2;have hd:=Ez f j;simp only[go_sem,UW,E,h3,PN,m,H,B,L,Q,pL,hi,eR,U.ps,aM,u,hp,w1,hG,ow,BA,w2,s1,M,s2,hd,O,Y,X,o3,o4,R,x,T,Z,ai,aB];refine⟨aS,?_⟩;repeat(first|exact D|refine d_.dV ?_ (by first|exact Or.inl rfl|exact Or.inr rfl) _)
 have:k=I h:=J;subst this;simp only[go_sem,UW,m,H,fF,ai,aB];exact awv O ok hl hF hg E B (by rw[L,XL]) (by rw[Q,atM]) pL D
def ug(h:af)(id:Int)(o:Bool)(j:Nat):Bool:=match h[j]? with|some m=>m.ak&&(m.id==id&&m.over==o)|none=>false
def jc(h:af)(k:Nat)(id:Int)(o:Bool):eT:=(List.range k).find? (ug h id o)
def Dy:eT->Int
 |some j=>j
 |none=> -1
def gE(h:af):Nat->cL
 |0=>[]
 |k+1=>match h[k]? with
  |some l=>if l.ak&& !(gE h k).contains l.id then gE h k++[l.id]else gE h k
  |none=>gE h k
def sY(h:af)(k:Nat)(id:Int):dW:=[.int .i64 (Dy (jc h k id false)),.int .i64 (Dy (jc h k id true))]
def qE(h:af)(k:Nat):yF:=(gE h k).map λid=>(PV.int .i64 id,sY h k id)
def Ev(h:af)(j:Nat):Int:=((h[j]?).map U.sign).getD 0
def oE(h:af)(n:Nat)(k:Nat):Bool:=match h[k]? with
 |some l=> !l.ak||((decide (1<=l.id)&&decide (l.id<=(n:Int)))&&((jc h k l.id l.over).isNone&&(match jc h k l.id (!l.over)with|some j=>Ev h j==l.sign|none=>true)))
 |none=>true
def nN(h:af):Bool:=(aq U.ak h%2==0)&&(List.range (I h)).all (oE h (aq U.ak h/2))&&(I (gE h (I h))==aq U.ak h/2)
theorem KM{k:Nat}{l:U}(f:h[k]?=some l)(H:l.ak)(id:Int)(o:Bool):ug h id o k=(l.id==id&&l.over==o):=by simp[ug,f,H]
theorem aeq{k:Nat}{l:U}(f:h[k]?=some l)(H:l.ak=false)(id:Int)(o:Bool):ug h id o k=false:=by simp[ug,f,H]
theorem T7(h:af)(k:Nat)(id:Int)(o:Bool):jc h (k+1) id o=(jc h k id o).or (if ug h id o k then some k else none):=by simp[jc,nJ,Z3,List.find?_cons,List.find?_nil];cases ug h id o k<;>rfl
def LJ{k:Nat}{id:Int}{o:Bool}(H:jc h k id o=some j):j<k/\ug h id o j:=
 ⟨gA.1 (CU H),AW H⟩
theorem C6{id:Int}{o:Bool}(H:ug h id o j):∃m,h[j]?=some m/\m.ak/\m.id=id/\m.over=o:=by
 unfold ug at H
 grind
theorem MW{k:Nat}{id:Int}{o:Bool}(f:jc h k id o=none)(H:j<k):ug h id o j=false:=by
 have:=B6.1 f j (gA.2 H)
 simpa using this
theorem ajn{k:Nat}{l:U}(f:h[k]?=some l)(H:l.ak=false):gE h (k+1)=gE h k:=by simp[gE,f,H]
def aqY{k:Nat}{l:U}(j:h[k]?=some l)(f:l.ak)(H:l.id∉gE h k):gE h (k+1)=gE h k++[l.id]:=by simp[gE,j,f,H]
def avY{k:Nat}{l:U}(f:h[k]?=some l)(H:l.id∈gE h k):gE h (k+1)=gE h k:=by simp[gE,f,H]
def apq{k:Nat}{l:U}(f:h[k]?=some l)(H:l.ak=false):qE h (k+1)=qE h k:=by grind [qE,sY,ajn,T7,aeq]
def avT{id:Int}:∀(k:Nat),k<=I h->(id∈gE h k↔ ∃j o,j<k/\ug h id o j):=by
 intro k
 induction k with
 |zero=>intro _;simp[gE]
 |succ k m=>
  intro u;obtain⟨l,hl⟩:=aP (show k<I h by omega);have m:=m J;cases n:l.ak with
  |false=>grind [ajn,aeq]
  |true=>
   have f:id∈gE h (k+1)↔(id∈gE h k\/id=l.id):=by grind [gE]
   rw[f,m];constructor
   .rintro (v|rfl)
    .exact(λ⟨j,o,x,H⟩=>⟨j,o,J,H⟩) v
    exact⟨k,l.over,J,by rw[KM hl n];simp⟩
   grind [KM]
where gI {p:Prop} (h:p):p:=h
theorem GQ{id:Int}{k:Nat}(H:k<=I h):id∈gE h k↔ ∃j o,j<k/\ug h id o j:=avT k H
theorem Vg(h:af):∀k,(gE h k).Nodup:=by
 intro k
 induction k with
 |zero=>simp[gE]
 |succ k f=>
  unfold gE
  grind
def azk{k:Nat}(H:k<=I h){id:Int}(f:id∉gE h k)(o:Bool):jc h k id o=none:=by grind [jc,GQ]
def agv{k:Nat}(u:k<=I h){id:Int}(x:id∈gE h k)(o:Bool)(v:jc h k id o=none):∃j m,jc h k id (!o)=some j/\h[j]?=some m/\j<k:=by
 obtain⟨j,O,n,H⟩:=(GQ u).1 x;by_cases e:O=o
 .subst e;rw[MW v n]at H;cases H
 have e:O= !o:=by cases o<;>cases O<;>simp_all
 subst e;cases f:jc h k id (!o)with
 |none=>rw[MW f n]at H;cases H
 |some i=>
  obtain _:=LJ f
  grind [C6]
def ahm{k:Nat}{l:U}(j:h[k]?=some l)(f:l.ak){id:Int}(H:¬l.id=id)(o:Bool):jc h (k+1) id o=jc h k id o:=by rw[T7,KM j f];simp[H]
def aaX{k:Nat}{l:U}(j:h[k]?=some l)(f:l.ak)(H:jc h k l.id l.over=none):jc h (k+1) l.id l.over=some k:=by rw[T7,KM j f,H];simp
def aa7{k:Nat}{l:U}(f:h[k]?=some l)(H:l.ak):jc h (k+1) l.id (!l.over)=jc h k l.id (!l.over):=by rw[T7,KM f H];cases l.over<;>simp
theorem ajT{k:Nat}{l:U}(j:h[k]?=some l)(f:l.ak){id:Int}(H:¬l.id=id):sY h (k+1) id=sY h k id:=by unfold sY;rw[ahm j f H,ahm j f H]
def av6{k:Nat}{l:U}(j:h[k]?=some l)(f:l.ak)(H:l.id∉gE h k):qE h (k+1)=qE h k++[(.int .i64 l.id,sY h (k+1) l.id)]:=by
 unfold qE;rw[aqY j f H,fL]
 grind [lq,ajT]
def atN{k:Nat}{l:U}(j:h[k]?=some l)(m:l.ak)(H:l.id∈gE h k):qE h (k+1)=(qE h k).set ((gE h k).idxOf l.id) (.int .i64 l.id,sY h (k+1) l.id):=by
 unfold qE;rw[avY j H];apply xR
 .simp
 intro i f n
 grind [ajT,Vg]
def alB(h:af)(k:Nat)(q:Int):xz (.int .i64 q) (qE h k) 0=some (if q∈gE h k then some ((gE h k).idxOf q,sY h k q)else none):=by unfold qE;rw[aAD];simp
def J5{k:Nat}(H:k<I h)(f:oE h (aq U.ak h/2) k=false):nN h=false:=by have:(List.range (I h)).all (oE h (aq U.ak h/2))=false:=VT.2 ⟨k,gA.2 H,by simp[f]⟩;simp[nN,this]
def Y7(H:aq U.ak h%2=0)(j:∀i,i<I h->oE h (aq U.ak h/2) i):nN h=(I (gE h (I h))==aq U.ak h/2):=by have:=j4.2 λi f=>j i (gA.1 f);simp[nN,this,H]
abbrev aiT(id:Nat):Prop:=id=1408320128\/rh id=83
def Gz(F:Nat)(h:af)(g:Nat)(z c3 c4 c6:bd)(m:aJ)(v:V)(A:aJ):Prop:=v=i_ (nN h)/\d_ aiT m A/\(nN h->∃g1,A 1408320128=(g,some (.var (xT F h z c3 c4 (.nV 5312256064 g1) c6)))/\A 5312256064=(g1,some (.map true (qE h (I h)))))
def KU(j:Nat):decide ((0:Int)<=(j:Int))=true:=tV J
def ER:IntKind.i64.wrap 0=0:=aa
def D9:IntKind.i64.wrap 1=1:=aa
def O4:((-1:Int)≥0)=False:=aE
def M7:((0:Int)<= -1)=False:=aE
def aoa{al:cF}(O:al.ok 1408320128)(ok:∀id,rh id=83->al.ok id){blk:aJ}{g F:Nat}{h:af}{c3 c4 c6:bd}(hl:I h<=1000000)
  (B:blk 1408320128=(g,some (.var (xT F h z c3 c4 y c6)))):∃v ao,jQ S 83 [.one (.bR 1408320128 g 0)] al blk v ao/\Gz F h g z c3 c4 c6 blk v ao:=by
 have R:=ok 5312256064 rfl;have Q:=ok 5312448192 rfl;have D:=ok 5312704640 rfl;refine oZ ate (ju rfl) ?_;have pc:=abT F h hl;have dF:aq U.ak h<=I h:=vo _ _;cases he:(((aq U.ak h%2:Nat):Int)!=0)with
 |true=>
  have E:nN h=false:=by
   have:(aq U.ak h%2==0)=false:=by simp at he |-;omega
   simp[nN,this]
  simp only[go_sem,YH,B,Gs,Sf pc,pV,jG,he,O,R,Q,D,ai,aB];exact⟨by rw[E],d_.refl _ _,λx=>by rw[E]at x;cases x⟩
 |false=>
  have ab:aq U.ak h%2=0:=by simp at he;omega
  simp only[go_sem,YH,B,Gs,Sf pc,pV,jG,he,O,R,Q,D,ai,aB];refine dt (λk n ao=>n 0=.one (.bR 1408320128 g 0)/\n 3=aI (aq U.ak h)/\n 25=.one (.p (gC h))/\n 26=aI (I h)/\n 27=aI k/\
   ao 1408320128=(g,some (.var (xT F h z c3 c4 (.nV 5312256064 ((blk 5312256064).1+1)) c6)))/\ao 5312256064=((blk 5312256064).1+1,some (.map true (qE h k)))/\
   (∀i,i<k->oE h (aq U.ak h/2) i)/\d_ aiT blk ao) 0 (I h) (bZ _) ?_ ?_
  .simp only[go_sem,B,ai,aB];refine⟨rfl,rfl,λi x=>absurd x (o6 i),?_⟩;repeat(first|exact(d_.refl _ _)|refine d_.dV ?_ (by first|exact Or.inl rfl|exact Or.inr rfl) _)
  rintro k n ao hk ⟨h0,X,mR,Y,wL,B,T,aF,Z⟩
  have wq:IntKind.i64.wrap ((aq U.ak h/2:Nat):Int)=((aq U.ak h/2:Nat):Int):=wrap_small J;by_cases aw:k<I h
  .obtain⟨l,A⟩:=aP aw;have u:=jh A;have aM:((k:Int)<(I h:Int)):=J;have w1:=cS (n:=k) J;cases hc:(l.kind==2)with
   |false=>
    have M:l.ak=false:=hc;have hp:(l.kind !=2):=by simp[bne,hc]
    have jX:oE h (aq U.ak h/2) k:=by simp[oE,A,M]
    simp only[go_sem,Aq,h0,X,mR,Y,wL,B,T,u,eR,U.ps,aM,hp,w1,O,R,Q,D,ai,aB];refine⟨aw,?_,?_,?_⟩
    .rw[apq A M]
    .intro i u;rcases rH.1 u with x|rfl
     .exact aF i x
     exact jX
    repeat(first|exact Z|refine d_.dV ?_ (by first|exact Or.inl rfl|exact Or.inr rfl) _)
   |true=>
    have M:l.ak:=hc;have hp:(l.kind !=2)=false:=by simp[bne,hc]
    cases r1:decide (l.id<1)with
    |true=>have vR:l.id<1:=Dp r1;have ac:¬1<=l.id:=J;have E:=J5 aw (show oE h (aq U.ak h/2) k=false by simp[oE,A,M,ac]);simp only[go_sem,Aq,h0,X,mR,Y,wL,B,T,u,eR,U.ps,aM,hp,w1,vR,O,R,Q,D,ai,aB];unfold Gz;refine⟨by rw[E],?_,λx=>by rw[E]at x;cases x⟩;repeat(first|exact Z|refine d_.dV ?_ (by first|exact Or.inl rfl|exact Or.inr rfl) _)
    |false=>
     have vR:¬l.id<1:=xP r1;have ad:1<=l.id:=J;cases r2:decide (((aq U.ak h/2:Nat):Int)<l.id)with
     |true=>have xn:((aq U.ak h/2:Nat):Int)<l.id:=Dp r2;have am:¬l.id<=((aq U.ak h/2:Nat):Int):=J;have E:=J5 aw (show oE h (aq U.ak h/2) k=false by simp only[oE,A,M,am];simp);simp only[go_sem,Aq,h0,X,mR,Y,wL,B,T,u,eR,U.ps,aM,hp,w1,vR,xn,mx,jG,wq,O,R,Q,D,ai,aB];unfold Gz;refine⟨by rw[E],?_,λx=>by rw[E]at x;cases x⟩;repeat(first|exact Z|refine d_.dV ?_ (by first|exact Or.inl rfl|exact Or.inr rfl) _)
     |false=>
      have xn:¬((aq U.ak h/2:Nat):Int)<l.id:=xP r2;have ag:l.id<=((aq U.ak h/2:Nat):Int):=J;have hf:=alB h k l.id;have qC:oE h (aq U.ak h/2) k=((jc h k l.id l.over).isNone&&(match jc h k l.id (!l.over)with|some j=>Ev h j==l.sign|none=>true)):=by simp only[oE,A,M,ad,ag,decide_true];rfl
      by_cases hm:l.id∈gE h k
      .rw[aD hm]at hf;obtain⟨e0,ap⟩:=aP (show(gE h k).idxOf l.id<I (qE h k) by simp[qE];exact List.idxOf_lt_length_of_mem hm);have DT:=atN A M hm;have Ut:sY h k l.id=[.int .i64 (Dy (jc h k l.id false)),.int .i64 (Dy (jc h k l.id true))]:=rfl;rw[Ut]at hf;cases H:l.over with
       |true=>
        cases f:jc h k l.id true with
        |some j=>have E:=J5 aw (show oE h (aq U.ak h/2) k=false by rw[qC,H,f];rfl);rw[f]at hf;simp only[Dy]at hf;simp only[go_sem,Aq,h0,X,mR,Y,wL,B,T,u,eR,U.ps,aM,hp,w1,vR,xn,mx,jG,wq,hf,H,KU,ER,D9,tW,s9,nO,ti,xQ,AR,Int.reduceNeg,Int.reduceSub,O,R,Q,D,ai,aB];refine⟨aS,aS,?_⟩;unfold Gz;refine⟨by rw[E],?_,λx=>by rw[E]at x;cases x⟩;repeat(first|exact Z|refine d_.dV ?_ (by first|exact Or.inl rfl|exact Or.inr rfl) _)
        |none=>
         obtain⟨j,m,L,JP,Qm⟩:=agv hk hm true f;have L:jc h k l.id false=some j:=L;have Ar:=jh JP;have ML:Ev h j=m.sign:=by simp[Ev,JP]
         rw[f,L]at hf;simp only[Dy]at hf;cases ae:(m.sign==l.sign)with
         |false=>
          have iK:(m.sign !=l.sign):=by simp[bne,ae]
          have E:=J5 aw (show oE h (aq U.ak h/2) k=false by rw[qC,H,f];simp only[Ac,L,ML,ae];rfl);simp only[go_sem,Aq,h0,X,mR,Y,wL,B,T,u,eR,U.ps,aM,hp,w1,vR,xn,mx,jG,wq,hf,H,KU,O4,M7,Ar,iK,ER,D9,tW,s9,nO,ti,xQ,AR,Int.reduceNeg,Int.reduceSub,O,R,Q,D,ai,aB];refine⟨aS,aS,?_⟩;unfold Gz;refine⟨by rw[E],?_,λx=>by rw[E]at x;cases x⟩;repeat(first|exact Z|refine d_.dV ?_ (by first|exact Or.inl rfl|exact Or.inr rfl) _)
         |true=>
          have iK:(m.sign !=l.sign)=false:=by simp[bne,ae]
          have jX:oE h (aq U.ak h/2) k:=by rw[qC,H,f];simp only[Ac,L,ML,ae];rfl
          have tL:=aaX A M (show jc h k l.id l.over=none by rw[H];exact f);have N:=aa7 A M;rw[H]at tL N;rw[show jc h k l.id (!true)=some j from L]at N;have YY:sY h (k+1) l.id=[.int .i64 (j:Int),.int .i64 (k:Int)]:=by simp only[sY];rw[tL,show jc h (k+1) l.id false=some j from N];rfl
          rw[YY]at DT;simp only[go_sem,Aq,h0,X,mR,Y,wL,B,T,u,eR,U.ps,aM,hp,w1,vR,xn,mx,jG,wq,hf,H,KU,O4,M7,Ar,iK,ER,D9,tW,s9,nO,ti,xQ,AR,Int.reduceNeg,Int.reduceSub,O,R,Q,D,ai,aB];refine⟨aS,aS,aS,?_⟩;refine⟨aw,?_,?_,?_⟩
          .rw[DT]
          .intro i u;rcases rH.1 u with x|rfl
           .exact aF i x
           exact jX
          repeat(first|exact Z|refine d_.dV ?_ (by first|exact Or.inl rfl|exact Or.inr rfl) _)
       |false=>
        cases f:jc h k l.id false with
        |some j=>have E:=J5 aw (show oE h (aq U.ak h/2) k=false by rw[qC,H,f];rfl);rw[f]at hf;simp only[Dy]at hf;simp only[go_sem,Aq,h0,X,mR,Y,wL,B,T,u,eR,U.ps,aM,hp,w1,vR,xn,mx,jG,wq,hf,H,KU,ER,D9,tW,s9,nO,ti,xQ,AR,Int.reduceNeg,Int.reduceSub,O,R,Q,D,ai,aB];refine⟨aS,aS,?_⟩;unfold Gz;refine⟨by rw[E],?_,λx=>by rw[E]at x;cases x⟩;repeat(first|exact Z|refine d_.dV ?_ (by first|exact Or.inl rfl|exact Or.inr rfl) _)
        |none=>
         obtain⟨j,m,L,JP,Qm⟩:=agv hk hm false f;have L:jc h k l.id true=some j:=L;have Ar:=jh JP;have ML:Ev h j=m.sign:=by simp[Ev,JP]
         rw[f,L]at hf;simp only[Dy]at hf;cases ae:(m.sign==l.sign)with
         |false=>
          have iK:(m.sign !=l.sign):=by simp[bne,ae]
          have E:=J5 aw (show oE h (aq U.ak h/2) k=false by rw[qC,H,f];simp only[E5,L,ML,ae];rfl);simp only[go_sem,Aq,h0,X,mR,Y,wL,B,T,u,eR,U.ps,aM,hp,w1,vR,xn,mx,jG,wq,hf,H,KU,O4,M7,Ar,iK,ER,D9,tW,s9,nO,ti,xQ,AR,Int.reduceNeg,Int.reduceSub,O,R,Q,D,ai,aB];refine⟨aS,aS,?_⟩;unfold Gz;refine⟨by rw[E],?_,λx=>by rw[E]at x;cases x⟩;repeat(first|exact Z|refine d_.dV ?_ (by first|exact Or.inl rfl|exact Or.inr rfl) _)
         |true=>
          have iK:(m.sign !=l.sign)=false:=by simp[bne,ae]
          have jX:oE h (aq U.ak h/2) k:=by rw[qC,H,f];simp only[E5,L,ML,ae];rfl
          have tL:=aaX A M (show jc h k l.id l.over=none by rw[H];exact f);have N:=aa7 A M;rw[H]at tL N;rw[show jc h k l.id (!false)=some j from L]at N;have YY:sY h (k+1) l.id=[.int .i64 (k:Int),.int .i64 (j:Int)]:=by simp only[sY];rw[tL,show jc h (k+1) l.id true=some j from N];rfl
          rw[YY]at DT;simp only[go_sem,Aq,h0,X,mR,Y,wL,B,T,u,eR,U.ps,aM,hp,w1,vR,xn,mx,jG,wq,hf,H,KU,O4,M7,Ar,iK,ER,D9,tW,s9,nO,ti,xQ,AR,Int.reduceNeg,Int.reduceSub,O,R,Q,D,ai,aB];refine⟨aS,aS,aS,?_⟩;refine⟨aw,?_,?_,?_⟩
          .rw[DT]
          .intro i u;rcases rH.1 u with x|rfl
           .exact aF i x
           exact jX
          repeat(first|exact Z|refine d_.dV ?_ (by first|exact Or.inl rfl|exact Or.inr rfl) _)
      rw[aC hm]at hf;have f:=azk hk hm;have qS:=av6 A M hm;have jX:oE h (aq U.ak h/2) k:=by rw[qC,f,f];rfl
      have tL:=aaX A M (f _);have N:=aa7 A M;rw[f]at N;cases H:l.over
      case' true=>
       rw[H]at tL N;have Ut:sY h (k+1) l.id=[.int .i64 (-1),.int .i64 (k:Int)]:=by simp only[sY];rw[tL,show jc h (k+1) l.id false=none from N];rfl
      case' false=>
       rw[H]at tL N;have Ut:sY h (k+1) l.id=[.int .i64 (k:Int),.int .i64 (-1)]:=by simp only[sY];rw[tL,show jc h (k+1) l.id true=none from N];rfl
      all_goals
       rw[Ut]at qS;simp only[go_sem,Aq,h0,X,mR,Y,wL,B,T,u,eR,U.ps,aM,hp,w1,vR,xn,mx,jG,wq,hf,H,O4,M7,ER,D9,tW,s9,nO,ti,xQ,AR,Int.reduceNeg,Int.reduceSub,O,R,Q,D,ai,aB];refine⟨aS,aS,aS,?_⟩;refine⟨aw,?_,?_,?_⟩
       .rw[qS]
       .intro i u;rcases rH.1 u with x|rfl
        .exact aF i x
        exact jX
       repeat(first|exact Z|refine d_.dV ?_ (by first|exact Or.inl rfl|exact Or.inr rfl) _)
  have:k=I h:=J;subst this;have hr:=Y7 ab aF;have fj:I (qE h (I h))=I (gE h (I h)):=by simp[qE]
  have hb:(((I (gE h (I h)):Nat):Int)==((aq U.ak h/2:Nat):Int))=(I (gE h (I h))==aq U.ak h/2):=by
   cases x:(I (gE h (I h))==aq U.ak h/2)with
   |true=>simp at x |-;omega
   |false=>simp at x |-;omega
  simp only[go_sem,Aq,age,h0,X,Y,wL,B,T,fF,ER,D9,tW,s9,nO,ti,xQ,AR,Int.reduceNeg,Int.reduceSub,fj,mx,jG,wq,hb,O,R,Q,D,ai,aB];exact⟨by rw[hr],Z,λ_=>⟨_,B,T⟩⟩
theorem Ia{p:U->Bool}{i:Nat}{l:U}(y:h[i]?=some l)(hp:p l):aq p h=1↔ ∀j m,h[j]?=some m->p m->j=i:=by
 obtain⟨x,e⟩:=bt.1 y;have ae:h=h.take i++l::h.drop (i+1):=by rw[<-e,ux];simp
 have A:aq p h=aq p (h.take i)+(aq p (h.drop (i+1))+1):=by
  conv=>lhs;rw[ae]
  simp[aq,uu,Di,hp]
 constructor
 .grind
 intro v;have Z:aq p (h.take i)=0:=by
  refine IW.2 λm f u=>?_;obtain⟨j,H⟩:=fK f;have n:j<i:=by have:=(bt.1 H).1;rw[jO]at this;omega
  rw[p_,aD n]at H;have:=v j m H u;omega
 have z:aq p (h.drop (i+1))=0:=by refine IW.2 λm f u=>?_;obtain⟨j,H⟩:=fK f;rw[Fw]at H;have:=v _ m H u;omega
 omega
def apl{p:U->Bool}(f:∀(i j:Nat) (l m:U),h[i]?=some l->h[j]?=some m->p l->p m->i=j):aq p h<=1:=by
 by_cases H:aq p h=0
 .omega
 have:=Nat.pos_of_ne_zero H;obtain⟨l,hl,hp⟩:=zp.1 this;obtain _:=fK hl
 grind [Ia]
structure tZ (F:Nat) (ls:af) (l:U):Prop where
 g0:0<=l.gate
 g1:l.gate<=(F:Int)
 r0:1<=l.au
 r1:l.au<=(aV ls l.gate.toNat:Int)
theorem Db{l:U}(hl:tZ F h l)(H:tZ F h m):dQ h l=dQ h m↔l.gate=m.gate/\l.au=m.au:=by
 obtain⟨j,n,z,L⟩:=hl;obtain⟨x,M,u,v⟩:=H;unfold dQ;constructor
 .intro f;have sl:=pX h l.gate.toNat;have y:=pX h m.gate.toNat;rcases Jl l.gate.toNat m.gate.toNat with c|c|c
  .have:=yR (h:=h) (show l.gate.toNat+1<=m.gate.toNat by omega);omega
  .rw[c]at f;omega
  have:=yR (h:=h) (show m.gate.toNat+1<=l.gate.toNat by omega);omega
 grind
def azm{l:U}(hl:tZ F h l)(H:tZ F h m):Na l m↔dQ h l<dQ h m:=by
 obtain⟨f,j,y,L⟩:=hl;obtain⟨v,M,n,u⟩:=H;unfold dQ Na;simp;have sl:=pX h l.gate.toNat;have x:=pX h m.gate.toNat;rcases Jl l.gate.toNat m.gate.toNat with c|c|c
 .have:=yR (h:=h) (show l.gate.toNat+1<=m.gate.toNat by omega);omega
 .rw[c];omega
 have:=yR (h:=h) (show m.gate.toNat+1<=l.gate.toNat by omega);omega
def acn{l:U}(hl:tZ F h l):dQ h l<dr h (F+1):=by obtain⟨j,f,m,L⟩:=hl;unfold dQ;have sl:=pX h l.gate.toNat;have:=yR (h:=h) (show l.gate.toNat+1<=F+1 by omega);omega
def Uj{i:Nat}{l:U}(H:h[i]?=some l)(hp:l.ay):yV h i↔1<=l.au/\l.au<=(aV h l.gate.toNat:Int)/\ ∀j m,j<i->h[j]?=some m->m.ay->dQ h m≠dQ h l:=by
 simp[yV,H,hp,Ac,DC,cP,iJ,ke,FM,gA]
 grind [xj]
def GB(f:uC F h):Br h↔(∀l∈h,l.ay->tZ F h l)/\ ∀(i j:Nat) (l m:U),h[i]?=some l->h[j]?=some m->l.ay->m.ay->dQ h l=dQ h m->i=j:=by
 unfold Br;rw[j4];constructor
 .intro v;refine⟨λl hl hp=>?_,λi j l m H n A u e=>?_⟩
  .obtain⟨i,H⟩:=fK hl;have:=(Uj H hp).1 (v i (gA.2 (bt.1 H).1));exact⟨(f l hl hp).1,(f l hl hp).2,this.1,this.2.1⟩
  rcases Jl i j with c|c|c
  .exact absurd e (((Uj n u).1 (v j (gA.2 (bt.1 n).1))).2.2 i l c H A)
  .exact c
  exact absurd e.symm (((Uj H A).1 (v i (gA.2 (bt.1 H).1))).2.2 j m c n u)
 rintro⟨x,y⟩ i H
 obtain⟨l,hl⟩:=aP (gA.1 H);cases hp:l.ay with
 |false=>simp[yV,hl,hp]
 |true=>
  have f:=x l (a7 hl) hp;refine(Uj hl hp).2 ⟨f.r0,f.r1,λj m n z u e=>?_⟩
  grind
def QJ(g:Int)(h:0<=g)(l:U):td g l=jq g.toNat l:=by unfold td jq;rw[Qn h]
theorem lQ{l:U}(hp:l.ay):eo f l=false↔(((0<=l.gate/\l.gate<=f)/\l.id=0)/\l.sign=0)/\l.over=false:=by grind [U.ay,eo]
theorem Lq{l:U}(hp:l.ay):IZ f h l↔eo f l=false/\1<=l.au/\l.au<=(aq (td l.gate) h:Int)/\aq (kO l) h=1:=by grind [lQ,IZ]
theorem XO{l:U}(hp:l.ay):kO l m↔m.ay=true/\m.gate=l.gate/\m.au=l.au:=by grind [U.ay,kO]
def ara:(∀l∈h,l.ay->IZ F h l)↔(∀l∈h,l.ay->eo F l=false)/\Br h:=by
 constructor
 .intro D;have u:=λl hl hp=>((Lq hp).1 (D l hl hp)).1;have y:=λl hl hp=>((lQ hp).1 (u l hl hp)).1.1.1;refine⟨u,(GB y).2 ⟨λl hl hp=>?_,λi j l m v x A f e=>?_⟩⟩
  .obtain⟨_,H,z,_⟩:=(Lq hp).1 (D l hl hp);have:=y l hl hp;refine⟨this.1,this.2,H,?_⟩;have e:aq (td l.gate) h=aV h l.gate.toNat:=by unfold aV aq;congr 1;funext m;exact QJ _ this.1 m
   omega
  have n:tZ F h l:=by
   obtain⟨_,H,z,_⟩:=(Lq A).1 (D l (a7 v) A);have:=y l (a7 v) A;have e:aq (td l.gate) h=aV h l.gate.toNat:=by unfold aV aq;congr 1;funext m;exact QJ _ this.1 m
   exact⟨this.1,this.2,H,J⟩
  have N:tZ F h m:=by
   obtain⟨_,H,z,_⟩:=(Lq f).1 (D m (a7 x) f);have:=y m (a7 x) f;have e:aq (td m.gate) h=aV h m.gate.toNat:=by unfold aV aq;congr 1;funext m;exact QJ _ this.1 m
   exact⟨this.1,this.2,H,J⟩
  grind [Db,Ia,XO,Lq]
 rintro⟨u,E⟩ l hl hp
 obtain⟨B,H⟩:=(GB (λl hl hp=>((lQ hp).1 (u l hl hp)).1.1.1)).1 E;have n:=B l hl hp;have e:aq (td l.gate) h=aV h l.gate.toNat:=by unfold aV aq;congr 1;funext m;exact QJ _ n.g0 m
 obtain⟨i,v⟩:=fK hl;refine(Lq hp).2 ⟨u l hl hp,n.r0,by rw[e];exact n.r1,(Ia v ((XO hp).2 ⟨hp,rfl,rfl⟩)).2 λj m x ae=>?_⟩;obtain⟨f,M,L⟩:=(XO hp).1 ae;exact H j i m l x v f hp ((Db (B m (a7 x) f) n).2 ⟨M,L⟩)
def zd(id:Int)(o:Bool)(l:U):Bool:=l.ak&&(l.id==id&&l.over==o)
def OX(H:h[j]?=some m)(id:Int)(o:Bool):ug h id o j=zd id o m:=by simp[ug,zd,H]
theorem s5{id:Int}{o:Bool}{l:U}:zd id o l↔l.ak=true/\l.id=id/\l.over=o:=by unfold zd;simp
def HV(h:af):Prop:=∀(i j:Nat) (l m:U),h[i]?=some l->h[j]?=some m->l.ak->m.ak->l.id=m.id->i≠j->l.over≠m.over/\l.sign=m.sign
def aaU(h:af):Prop:=∀l∈h,l.ak->1<=l.id/\l.id<=((aq U.ak h/2:Nat):Int)
def afm{n k:Nat}{l:U}(f:h[k]?=some l)(H:l.ak):oE h n k↔(1<=l.id/\l.id<=(n:Int))/\jc h k l.id l.over=none/\ ∀j,jc h k l.id (!l.over)=some j->Ev h j=l.sign:=by
 simp[oE,f,H,Ac,DC,cP,iJ,Option.isNone_iff_eq_none]
 grind
def Hq:(∀k,k<I h->oE h (aq U.ak h/2) k)↔aaU h/\HV h:=by
 constructor
 .intro ab;have X:∀ {k:Nat}{l:U},h[k]?=some l->l.ak->_:=λ{k l} A f=>(afm A f).1 (ab k (bt.1 A).1);refine⟨λl hl f=>?_,?_⟩
  .obtain⟨i,H⟩:=fK hl;exact(X H f).1
  have z:∀(i j:Nat) (l m:U),h[i]?=some l->h[j]?=some m->l.ak->m.ak->l.id=m.id->i<j->l.over≠m.over/\l.sign=m.sign:=by
   intro i j l m H v D F y B;obtain⟨_,hn,ae⟩:=X v F;have R:l.over≠m.over:=by intro e;have:=MW hn B;rw[OX H,s5.2 ⟨D,y,e⟩]at this;cases this
   refine⟨R,?_⟩;have T:l.over= !m.over:=by revert R;cases l.over<;>cases m.over<;>simp
   cases u:jc h j m.id (!m.over)with
   |none=>have:=MW u B;rw[OX H,s5.2 ⟨D,y,T⟩]at this;cases this
   |some p=>
    obtain⟨Y,O⟩:=LJ u;obtain⟨x,L,E,N,n⟩:=C6 O;have:p=i:=by
     rcases Jl p i with c|c|c
     .grind [MW]
     .exact c
     have Q:(List.range j).find? (ug h m.id (!m.over))=some p:=u;rw[List.find?_range_eq_some]at Q;have:=Q.2.2 i c;rw[OX H,s5.2 ⟨D,y,T⟩]at this;cases this
    subst this;rw[H]at L;cases L
    simpa [Ev,H]using(ae p u)
  intro i j l m H v D F y B;rcases FI B with c|c
  .exact z i j l m H v D F y c
  have:=z j i m l v H F D y.symm c;exact⟨λe=>this.1 e.symm,this.2.symm⟩
 rintro⟨Z,M⟩ k A
 obtain⟨l,hl⟩:=aP A;cases f:l.ak with
 |false=>simp[oE,hl,f]
 |true=>
  refine(afm hl f).2 ⟨Z l (a7 hl) f,?_,λj v=>?_⟩
  .cases u:jc h k l.id l.over with
   |none=>rfl
   |some p=>obtain⟨Y,O⟩:=LJ u;obtain⟨x,L,E,N,n⟩:=C6 O;exact absurd n (M p k x l L hl E f N J).1
  obtain⟨Y,O⟩:=LJ v;obtain⟨x,L,E,N,n⟩:=C6 O;have:=(M j k x l L hl E f N J).2;simp[Ev,L,this]
theorem apx(h:af):∀ids:cL,ids.Nodup->(ids.map λid=>aq (pE id) h).sum=aq (λl=>l.ak&&ids.contains l.id) h:=by
 intro ids
 induction ids with
 |nil=>intro _;simp[aq]
 |cons a ids f=>
  intro H;rw[rR]at H;rw[eZ,List.sum_cons,f H.2];refine(aa3 ?_ ?_ h).symm
  .intro l;simp[pE,cP,c8,alI,iJ,c7]
   grind
  intro l;simp[pE,cP,c8,alI,iJ]
  grind
theorem RW{l:U}(hl:l∈h)(f:l.ak):l.id∈gE h (I h):=by obtain⟨i,H⟩:=fK hl;refine(GQ (cJ _)).2 ⟨i,l.over,(bt.1 H).1,?_⟩;rw[OX H];exact s5.2 ⟨f,rfl,rfl⟩
def Y8(h:af):((gE h (I h)).map λid=>aq (pE id) h).sum=aq U.ak h:=by grind [apx,Vg,A5,RW]
theorem VH(id:Int)(h:af):aq (pE id) h=aq (zd id true) h+aq (zd id false) h:=by
 refine aa3 ?_ ?_ h
 .intro l;rw[s5,s5];simp[pE,cP,c8];cases l.over<;>simp
 grind [s5]
def We(id:Int)(o:Bool)(h:af):aq (pE id) h=aq (zd id o) h+aq (zd id (!o)) h:=by
 rw[VH];cases o with
 |true=>rfl
 |false=>simp;omega
theorem EU(u:HV h)(id:Int)(o:Bool):aq (zd id o) h<=1:=by refine apl λi j l m n f hl H=>?_;obtain⟨L,v,x⟩:=s5.1 hl;obtain⟨M,y,z⟩:=s5.1 H;refine Decidable.byContradiction λA=>?_;exact(u i j l m n f L M J A).1 (by grind)
theorem akK{f:Int->Nat}:∀ids:cL,(∀x∈ids,f x<=2)->(ids.map f).sum<=2*I ids:=by
 intro ids
 induction ids with
 |nil=>intro _;simp
 |cons a ids h=>grind
def aeT{f:Int->Nat}:∀ids:cL,(∀x∈ids,f x<=2)->(ids.map f).sum=2*I ids->∀x∈ids,f x=2:=by
 intro ids
 induction ids with
 |nil=>intro _ _ x H;cases H
 |cons a ids j=>
  intro h ae
  grind [akK]
def apZ{f:Int->Nat}:∀ids:cL,(∀x∈ids,f x=2)->(ids.map f).sum=2*I ids:=by
 intro ids
 induction ids with
 |nil=>intro _;simp
 |cons a ids h=>grind
theorem aan{l:U}(h:l.ak):kj l m↔m.ak=true/\m.id=l.id/\m.sign=l.sign/\m.over= !l.over:=by grind [U.ak,kj]
theorem J2{l:U}(h:l.ak):eo f l=false↔(l.gate=0/\l.au=0)/\(l.sign !=1&&l.sign != -1)=false:=by grind [U.ak,eo]
def aiI{l:U}(H:l.ak):xG h l↔eo f l=false/\(1<=l.id/\l.id<=((aq U.ak h/2:Nat):Int))/\aq (kj l) h=1/\aq (pE l.id) h=2:=by grind [J2,xG,ke]
def as5:(∀l∈h,l.ak->xG h l)↔(∀l∈h,l.ak->eo f l=false)/\nN h:=by
 have ZJ:=Y8 h;constructor
 .intro ab;have E:=λl hl H=>(aiI (f:=f) H).1 (ab l hl H);have hp:HV h:=by
   intro i j l m n A F Z R iT;obtain⟨_,_,h3,h4⟩:=E l (a7 n) F;have e1:=We l.id l.over h;have g1:0<aq (zd l.id l.over) h:=zp.2 ⟨l,a7 n,s5.2 ⟨F,rfl,rfl⟩⟩;obtain⟨x,y,N⟩:=zp.1 (by show 0<aq (kj l) h;omega);obtain⟨B,X,D,x4⟩:=(aan F).1 N;have u:0<aq (zd l.id (!l.over)) h:=zp.2 ⟨x,y,s5.2 ⟨B,X,x4⟩⟩;have Y:l.over≠m.over:=by intro e;have:=(Ia n (s5.2 ⟨F,rfl,rfl⟩)).1 J j m A (s5.2 ⟨Z,R.symm,e.symm⟩);exact iT this.symm
   refine⟨Y,?_⟩;obtain⟨p,L⟩:=fK y;have:=(Ia A (s5.2 ⟨Z,R.symm,by revert Y;cases l.over<;>cases m.over<;>simp⟩)).1 J p x L (s5.2 ⟨B,X,x4⟩);subst this;rw[L]at A;cases A
   exact D.symm
  have O:∀id∈gE h (I h),aq (pE id) h=2:=by intro id v;obtain⟨j,o,h1,M⟩:=(GQ (cJ _)).1 v;obtain⟨m,hm,H,n,_⟩:=C6 M;rw[<-n];exact(E m (a7 hm) H).2.2.2
  rw[apZ _ O]at ZJ;refine⟨λl hl H=>(E l hl H).1,?_⟩;rw[Y7 J ((Hq).2 ⟨λl hl H=>(E l hl H).2.1,hp⟩)];simp only[c8];omega
 rintro⟨hb,Q⟩ l hl H
 unfold nN at Q;simp only[cP,c8,j4,gA]at Q;obtain⟨⟨R,y⟩,z⟩:=Q;obtain⟨v,hp⟩:=Hq.1 y;have T:∀id∈gE h (I h),aq (pE id) h<=2:=λid _=>by rw[VH id];have:=EU hp id true;have:=EU hp id false;omega
 have M:=aeT _ T (by rw[ZJ,z];omega) l.id (RW hl H);have e1:=We l.id l.over h;have b1:=EU hp l.id l.over;have b2:=EU hp l.id (!l.over);refine(aiI H).2 ⟨hb l hl H,v l hl H,?_,M⟩;obtain⟨i,n⟩:=fK hl;obtain⟨x,y,N⟩:=zp.1 (by show 0<aq (zd l.id (!l.over)) h;omega);obtain⟨p,L⟩:=fK y;obtain⟨B,X,D⟩:=s5.1 N;have ji:p≠i:=by
  rintro rfl
  rw[n]at L;cases L;revert D;cases l.over<;>simp
 refine(Ia L ((aan H).2 ⟨B,X,(hp p i x l L n B H X ji).2,D⟩)).2 λj m A hm=>?_
 grind [aan,Ia,s5]
theorem zB{l:U}(h:eo f l=false):l.ay\/l.ak:=by grind [U.ay,U.ak,eo]
theorem nL{l:U}(hp:l.ay):l.ak=false:=by grind [U.ay,U.ak]
theorem ajA{l:U}(hp:l.ay):BP f h l=IZ f h l:=by unfold U.ay at hp;simp[BP,hp,if_true]
theorem aiG{l:U}(hp:l.ak):BP f h l=xG h l:=by grind [U.ak,BP]
def Nn:yD F h↔h.any (eo F)=false/\Br h/\nN h:=by
 unfold yD;rw[j4,FM];have E:=ara (F:=F) (h:=h);have u:=as5 (f:=(F:Int)) (h:=h);constructor
 .intro m;obtain⟨j,n⟩:=E.1 λl hl hp=>by rw[<-ajA hp];exact m l hl
  obtain⟨c1,z⟩:=u.1 λl hl H=>by rw[<-aiG H];exact m l hl
  refine⟨λl hl=>?_,n,z⟩;rcases(λ{l:U} (hl:l∈h)=>acM (j4.2 m) (fK hl).choose_spec) hl with hp|H
  .rw[j l hl hp];simp
  rw[c1 l hl H];simp
 grind [zB,ajA,aiG]
def ave{o:aG}(ae:o.Pairwise (· < ·))(A:∀x∈o,x<I o):∀(k:Nat) (h:k<I o),o[k]=k:=by
 rw[LA]at ae;have lo:∀(k:Nat) (h:k<I o),k<=o[k]:=by
  intro k
  induction k with
  |zero=>intro _;omega
  |succ k f=>grind
 have H:∀(d k:Nat) (h:k<I o),k+d+1=I o->o[k]<=k:=by
  intro d
  induction d with
  |zero=>grind
  |succ d f=>
   intro k h e;have:=f (k+1) J J
   grind
 intro k h;have:=lo k h;have:=H (I o-k-1) k h J;omega
def az6{f:Nat->Nat}{p:Nat->Bool}{i:Nat}:∀ {o:aG},o.Pairwise (λa b=>f a<f b)->(∀x∈o,p x=decide (f x<f i))->(∀x∈o,f x≠f i)->
  (o.take (I (o.takeWhile p))++i::o.drop (I (o.takeWhile p))).Pairwise (λa b=>f a<f b):=by
 intro o
 induction o with
 |nil=>intro _ _ _;simp
 |cons a o m=>
  intro ae hp H;rw[iN]at ae;have j:=hp a Lz;have n:=H a Lz;by_cases A:f a<f i
  .rw[List.takeWhile_cons,aD (by rw[j];simpa using A)];simp only[fP,RZ,List.drop_succ_cons,qz];rw[iN]
   grind
  rw[List.takeWhile_cons,aC (by rw[j];simpa using A)];simp only[ga,List.take_zero,NJ,fB];rw[iN,iN];refine⟨λb h=>?_,ae⟩;rcases c7.1 h with rfl|h
  .omega
  have:=ae.1 b h;omega
def GP{i:Nat}{l:U}(H:h[i]?=some l)(hp:l.ay):CN h i=dQ h l:=by simp[CN,H,hp]
structure Ec (F:Nat) (ls:af):Prop where
 fA:∀l∈ls,l.ay->tZ F ls l
 inj:∀(i j:Nat) (l m:U),ls[i]?=some l->ls[j]?=some m->l.ay->m.ay->dQ ls l=dQ ls m->i=j
def akS(n:Ec F h):∀k,k<=I h->(sX h k).Pairwise (λa b=>CN h a<CN h b):=by
 intro k
 induction k with
 |zero=>intro _;simp[sX]
 |succ k j=>
  intro v;have j:=j J;rw[Jm];obtain⟨l,hl⟩:=aP (show k<I h by omega);unfold BZ;rw[hl];simp only;cases hp:l.ay with
  |false=>simpa using j
  |true=>
   have H:=λ{x:Nat} (f:x∈sX h k)=>(akm J).1 f;refine az6 j (λx f=>?_) (λx f e=>?_)
   .obtain⟨u,m,H,A⟩:=H f;rw[GP H A,GP hl hp];unfold Fg;rw[H,hl];have:=azm (n.fA m (a7 H) A) (n.fA l (a7 hl) hp)
    grind
   obtain⟨u,m,H,A⟩:=H f;rw[GP H A,GP hl hp]at e;have:=n.inj x k m l H hl A hp e;omega
def ast:∀k,k<=I h->I (sX h k)=aq U.ay (h.take k):=by
 intro k
 induction k with
 |zero=>intro _;simp[sX,aq]
 |succ k f=>grind [Jm,BZ,lB,aAg,sG]
theorem Ba:I (aA h)=aq U.ay h:=by have:=ast (I h) (cJ _);rwa[jZ]at this
def Bw(H:uC F h):dr h (F+1)=I (aA h):=by grind [Ba,alv,A5]
def Ec.uC(H:Ec F h):uC F h:=λl hl hp=>⟨(H.fA l hl hp).g0,(H.fA l hl hp).g1⟩
theorem v7(n:Ec F h){k i:Nat}(H:(aA h)[k]?=some i):∃l,h[i]?=some l/\l.ay/\dQ h l=k:=by
 have ae:((aA h).map (CN h)).Pairwise (· < ·):=by rw[vO];exact akS n (I h) (cJ _)
 have A:∀x∈(aA h).map (CN h),x<I ((aA h).map (CN h)):=by intro x m;obtain⟨j,u,rfl⟩:=ch.1 m;obtain⟨l,hl,hp⟩:=sB.1 u;rw[GP hl hp,cg,<- (Bw n.uC)];exact acn (n.fA l (a7 hl) hp)
 obtain⟨D,f⟩:=bt.1 H;have:=ave ae A k (by grind);rw[Fh,f]at this;obtain⟨l,hl,hp⟩:=sB.1 (a7 H);exact⟨l,hl,hp,by rw[<-GP hl hp];exact this⟩
theorem IK(f:Ec F h){i:Nat}{l:U}(hl:h[i]?=some l)(hp:l.ay):(aA h)[dQ h l]?=some i:=by have A:=acn (f.fA l (a7 hl) hp);rw[Bw f.uC]at A;obtain⟨j,H⟩:=aP A;obtain⟨m,n,u,v⟩:=v7 f H;rw[H,f.inj j i m l n hl u hp v]
def Gn(H:Ec F h){i:Nat}{l:U}(hl:h[i]?=some l)(hp:l.ay):(aA h).idxOf i=dQ h l:=by grind [v7,al2,IK]
def axC(n:Ec F h):ud h (dr h (F+1)) (I h)=aA h:=by
 apply xR
 .rw[aib,Bw n.uC]
 intro k y u;simp[ud,Fh,Of];obtain⟨l,hl,hp,v⟩:=v7 n (tH u);generalize(aA h)[k]=i at hl;unfold Ng;have hf:(List.range (I h)).find? (xj h k)=some i:=by
  refine AB ((bt.1 hl).1) (λj x=>?_) ?_
  .cases H:xj h k j with
   |false=>rfl
   |true=>
    unfold xj at H;split at H
    .rename_i m f;simp at H;have:=n.inj j i m l f hl H.1 hp J;omega
    cases H
  rw[ai0 hl hp];simp[v]
 rw[hf];rfl
def QM(z:nN h){i:Nat}{l:U}(hl:h[i]?=some l)(Q:l.ak):jc h (I h) l.id (!l.over)=some (iI h i)/\iI h i<I h:=by
 unfold nN at z;simp only[cP,c8,j4,gA]at z;obtain⟨⟨he,A⟩,n⟩:=z;obtain⟨ab,hp⟩:=Hq.1 A;have B:∀id∈gE h (I h),aq (pE id) h<=2:=λid _=>by grind [VH,EU]
 have f:=aeT _ B (by rw[Y8 h,n];omega) l.id (RW (a7 hl) Q);have e1:=We l.id l.over h;have b1:=EU hp l.id l.over;have b2:=EU hp l.id (!l.over);obtain⟨x,A,D⟩:=zp.1 (by show 0<aq (zd l.id (!l.over)) h;omega);obtain⟨p,L⟩:=fK A;obtain⟨N,E,X⟩:=s5.1 D;have H:=(bt.1 L).1;have R:p≠i:=by
  rintro rfl
  rw[hl]at L;cases L;revert X;cases l.over<;>simp
 have uniq:∀(j:Nat) (m:U),h[j]?=some m->m.ak->m.id=l.id->j≠i->j=p:=by intro j m u M F v;refine Decidable.byContradiction λY=>?_;have Z:=(hp j i m l u hl M Q F v).1;have O:=(hp j p m x u L M N (by rw[F,E]) Y).1;rw[X]at O;revert Z O;cases m.over<;>cases l.over<;>simp
 have Cv:(List.range (I h)).find? (AE h i)=some p:=by
  refine AB H (λj u=>?_) ?_
  .cases y:AE h i j with
   |false=>rfl
   |true=>
    unfold AE at y;simp only[cP,bne_iff_ne,ne_eq]at y;obtain⟨T,f⟩:=y;split at f
    .rename_i m hm;simp only[cP,c8,hl,wy,nM]at f;have:=uniq j m hm f.1 f.2 T;omega
    cases f
  unfold AE;rw[L];simp[R,N,hl,E]
 have ho:iI h i=p:=by unfold iI;rw[Cv];rfl
 rw[ho];refine⟨?_,H⟩;unfold jc;refine AB H (λj u=>?_) ?_
 .grind [ug]
 rw[OX L];exact D
abbrev pA(F:Nat)(ls:af):PV:=Nu F ls (.sl (iQ (lr ls))) (.sl (bQ (aA ls))) (.sl (bQ (lp ls (I ls)))) (.mp true (qE ls (I ls))) (.sl (bQ (gK ls F)))
structure gN (F:Nat) (ls:af):Prop where
 hl:I ls<=1000000
 ax:Ec F ls
 cr:nN ls
 kinds:∀l∈ls,l.ay\/l.ak
def uA{a:Nat}(h:a<=9223372036854775807):IntKind.i64.wrap ((a:Int)-1)=(a:Int)-1:=by
 cases a with
 |zero=>decide
 |succ a=>rw[Ig J h];omega
def aet{a n:Nat}(H:1<=n)(h:a+n<=9223372036854775807):IntKind.i64.wrap (((a:Int)-1)+(n:Int))=((a+n-1:Nat):Int):=by have e:((a:Int)-1)+(n:Int)=((a+n-1:Nat):Int):=J;rw[e];exact wrap_small J
def Xv(F:Nat)(h:af)(i:Nat)(hl:I h<=1000000)(H:i<I h):aL S 141 [.one (.p (pA F h)),aI i] (jr (dS (I h) i true)):=by refine cG axq ?_;simp only[go_sem,aep,rQ (a:=i) J,dS,ai,aB]
def Xn(F:Nat)(h:af)(i:Nat)(hl:I h<=1000000)(v:i<I h):aL S 140 [.one (.p (pA F h)),aI i] (jr (dS (I h) i false)):=by refine cG aoW ?_;have m:=aet (a:=i) (n:=I h) J J;have f:=xw (i+I h-1) (I h);have u:=cT (i+I h-1) (show 0<I h by omega);have j:=rQ (a:=(i+I h-1)%I h) J;have E:=cS (n:=2*((i+I h-1)%I h)) J;have H:¬((I h:Int)=0):=J;simp only[go_sem,ai6,uA (a:=i) J,m,f,j,E,H,dS,ai,aB]
def Sy{l:U}(H:h[v]?=some l)(hp:l.ay):(lr h)[v]?=some (dn h v):=by have:=(bt.1 H).1;simp[lr,tX this,c9,H,hp]
def aqB{l:U}(H:h[v]?=some l)(hp:l.ay):(lp h (I h))[v]?=some (dQ h l):=by have:=(bt.1 H).1;simp[lp,tX this,this,GP H hp]
def gN.U2(ok:gN F h){l:U}(j:h[v]?=some l)(f:(l.kind==2)=false):l.ay:=by
 rcases ok.kinds l (a7 j)with hp|H
 .exact hp
 unfold U.ak at H;rw[f]at H;cases H
def aiq(ok:gN F h)(d:Nat)(hd:d<2*I h+2*I (aA h)):aL S 102 [.one (.p (pA F h)),aI d] (jr (iY h (aA h) d)):=by
 have hl:=ok.hl;have jt:I (aA h)<=1000000:=oO (xo h (I h)) hl;have lY:∀x∈aA h,x<I h/\ ∃l,h[x]?=some l/\l.ay:=λx hx=>by obtain⟨l,h1,H⟩:=sB.1 hx;exact⟨(bt.1 h1).1,l,h1,H⟩
 have Q:IntKind.i64.wrap (2*(I h:Int))=((2*I h:Nat):Int):=rQ J;unfold iY;by_cases ac:2*I h<=d
 .rw[aD ac];refine cG agF ?_;have B:((2*I h:Nat):Int)<=(d:Int):=J;have m2:=abe ac J;have M:=wrap_small (n:=(d-2*I h)/2) J;have hm:=cT ((d-2*I h)/2+1) (show 0<I (aA h) by omega);have T:¬((I (aA h):Int)=0):=J;obtain⟨u,hu⟩:=aP (h:=aA h) (k:=(d-2*I h)/2) J;have CG:=jy hu;by_cases H:d%2=0
  .rw[aD H];have R:=cS (n:=(d-2*I h)/2) J;have ki:(((d%2:Nat):Int)==0):=by simp[H]
   have O:=xw ((d-2*I h)/2+1) (I (aA h));obtain⟨v,D⟩:=aP hm;have rZ:(aA h).getD (((d-2*I h)/2+1)%I (aA h)) 0=v:=by rw[dD,D];rfl
   rw[rZ];obtain⟨m,l,f,pP⟩:=lY v (a7 D);have F2:=jy D;have j:=tR (Sy f pP);have A:=Xv F h v hl m;have pb:=Xn F h v hl m;cases E:dn h v;all_goals
    rw[E]at j;simp only[go_sem,Ml,Q,m2,M,R,O,B,ki,CG,F2,j,T,pV,mx,jG,abb,aa8,gr A,gr pb,ai,aB];exact⟨aS,aS⟩
  rw[aC H];have ki:(((d%2:Nat):Int)==0)=false:=by simp;omega
  have rZ:(aA h).getD ((d-2*I h)/2) 0=u:=by rw[dD,hu];rfl
  rw[rZ];obtain⟨m,l,f,pP⟩:=lY u (a7 hu);have j:=tR (Sy f pP);have A:=Xv F h u hl m;have pb:=Xn F h u hl m;cases E:dn h u;all_goals
   rw[E]at j;simp only[go_sem,Ml,Q,m2,M,B,ki,CG,j,T,pV,mx,jG,abb,aa8,gr A,gr pb,ai,aB];exact aS
 rw[aC ac];have B:¬(((2*I h:Nat):Int)<=(d:Int)):=J;have M:=wrap_small (n:=d/2) J;have ir:¬((I h:Int)=0):=J;have T:=cT (d/2+1) (show 0<I h by omega);have R:=cS (n:=d/2) J;have O:=xw (d/2+1) (I h);have body:∀v:Nat,v<I h->∀z:Bool,v=(if z then(d/2+1)%I h else d/2)->(((d%2:Nat):Int)==0)=z->aL S 102 [.one (.p (pA F h)),aI d] (jr ((match h[v]? with
   |none=>0
   |some l=>if l.kind==2 then dS (I h) (iI h v) (z==(l.over==(l.sign==1)))
    else if dn h v==z then 2*I h+2*(aA h).idxOf v else 2*I h+2*(((aA h).idxOf v+I (aA h)-1)%I (aA h))+1:Nat):Int)):=by
  intro v D z N FR;obtain⟨l,f⟩:=aP D;have L:=jh f;rw[f];simp only;refine cG agF ?_;cases X:(l.kind==2)with
  |true=>
   have hc:l.ak:=X;have dz:(l.kind==1)=false:=by simp only[c8]at X;rw[X];rfl
   obtain⟨y,Qy⟩:=QM ok.cr f hc;have hf:=alB h (I h) l.id;rw[aD (RW (a7 f) hc)]at hf;have A:=Xv F h (iI h v) hl Qy;have pb:=Xn F h (iI h v) hl Qy;cases Z:l.over
   case' true=>rw[Z]at y;have y:jc h (I h) l.id false=some (iI h v):=y
   case' false=>rw[Z]at y;have y:jc h (I h) l.id true=some (iI h v):=y
   all_goals
    simp only[sY,y]at hf;simp only[Dy]at hf;cases ae:(l.sign==1);all_goals
     cases z
     case' true=>have N:v=(d/2+1)%I h:=N
     case' false=>have N:v=d/2:=N
     all_goals
      rw[N]at L hf A pb |-;simp only[go_sem,Ml,Q,M,R,O,B,FR,L,eR,U.ps,ir,dz,Z,ae,pV,mx,jG,tW,s9,nO,hf,abb,aa8,gr A,gr pb,ai,aB];exact⟨aS,aS⟩
  |false=>
   have hp:=ok.U2 f X;have dz:(l.kind==1):=hp;have j:=tR (Sy f hp);have aX:=jy (aqB f hp);have FX:=Gn ok.ax f hp;have Y:=acn (ok.ax.fA l (a7 f) hp);rw[Bw ok.ax.uC]at Y;rw[FX];have MA:¬((I (aA h):Int)=0):=J;have fj:=cT (dQ h l+I (aA h)-1) (show 0<I (aA h) by omega);have n1:=rQ (a:=dQ h l) J;have n2:=tm (a:=2*I h) (b:=2*dQ h l) J;have n3:=uA (a:=dQ h l) J;have n4:=aet (a:=dQ h l) (n:=I (aA h)) J J;have n5:=xw (dQ h l+I (aA h)-1) (I (aA h));have n6:=rQ (a:=(dQ h l+I (aA h)-1)%I (aA h)) J;have n7:=tm (a:=2*I h) (b:=2*((dQ h l+I (aA h)-1)%I (aA h))) J
   have n8:=cS (n:=2*I h+2*((dQ h l+I (aA h)-1)%I (aA h))) J;cases z
   case' true=>have N:v=(d/2+1)%I h:=N
   case' false=>have N:v=d/2:=N
   all_goals
    cases ab:dn h v;all_goals
     rw[ab]at j;rw[N]at L j aX;simp only[go_sem,Ml,Q,M,R,O,B,FR,L,eR,U.ps,ir,dz,pV,mx,jG,j,aX,n1,n2,n3,n4,n5,n6,n7,n8,MA,ai,aB];exact aS
 have m:(if(d%2==0)=true then(d/2+1)%I h else d/2)<I h:=by
  split
  .exact T
  omega
 have:=body _ m (d%2==0) rfl (by cases E:(d%2==0)<;>simp at E |- <;>omega);exact this
abbrev aU(ls:af):Nat->Nat:=iY ls (aA ls)
def ao9(ok:gN F h){Q:iw}:
  ∀(f x:Nat) (dU:gD) (n:bJ) (blk:aJ),n 0=.one (.p (pA F h))->n 4=.one (.hsl 5376128064 1 1 0 (I dU))->blk 5376128064=(1,some (.arr 4 1 (iQ dU)))->
   n 7=aI x->x<I dU->I dU=2*I h+2*I (aA h)->AG dU<f->
   (∀A j,A 0=n 0->A 4=n 4->A 5=n 5->A 24=n 24->A 25=n 25->j 5376128064=(1,some (.arr 4 1 (iQ (hJ (aU h) f x dU).2)))->Q .normal A j)->
   W S .all (.loop Sm) (rM 2 Q) n blk:=by
 have jt:I (aA h)<=1000000:=oO (xo h (I h)) ok.hl;have lY:∀x∈aA h,x<I h:=λx ab=>SH ab;have hp:∀v l,h[v]?=some l->(l.kind==2)=false->v∈aA h:=λv l E R=>sB.2 ⟨l,E,ok.U2 E R⟩;intro f
 induction f with
 |zero=>intro x dU n blk _ _ _ _ _ _ ab;omega
 |succ f ih=>
  intro x dU n blk B m z D y hsl hu H;obtain⟨b,u⟩:=aP y;have M:=tR u;have T:dU.getD x true=b:=by rw[dD,u];rfl
  unfold hJ at H;rw[T]at H;refine og ?_;cases b with
  |true=>simp only[go_sem,Sm,m,z,D,y,M,ai,aB];refine H _ _ ?_ ?_ ?_ ?_ ?_ z;all_goals simp only[go_sem,m]
  |false=>
   have HK:=Mw u;have Y:=aiq ok x J;have X:=Si (d:=x) lY hp J;have iE:=Lh dU x true;simp only[go_sem,Sm,B,m,z,D,y,M,iE,Xy,gr Y,ai,aB];refine ih (iY h (aA h) x) (dU.set x true) _ _ ?_ ?_ ?_ ?_ (by simpa [hsl]using X) (by simpa using hsl) J ?_
   .simp only[go_sem,B]
   .simp only[go_sem,m,j7]
   .simp only[go_sem]
   .simp only[go_sem]
   intro A j N q4 Z O sZ L;refine H A j ?_ ?_ ?_ ?_ ?_ L
   .rw[N];simp only[go_sem]
   .rw[q4];simp only[go_sem]
   .rw[Z];simp only[go_sem]
   .rw[O];simp only[go_sem]
   rw[sZ];simp only[go_sem]
def aqm(ok:gN F h):aL S 84 [.one (.p (pA F h))] (fv (fW h==aq U.ay h+aq U.ak h/2+2)):=by
 have hl:=ok.hl;have jt:I (aA h)<=I h:=xo h (I h);have m1:=rQ (a:=I h) J;have Z:=rQ (a:=I (aA h)) J;have m3:=tm (a:=2*I h) (b:=2*I (aA h)) J;have R:2*I h+2*I (aA h)<=140737488355328:=J;have zu:List.replicate (2*I h+2*I (aA h)) [PV.bool false]=iQ (List.replicate (2*I h+2*I (aA h)) false):=aE;have fj:I (qE h (I h))=aq U.ak h/2:=by have:=ok.cr;unfold nN at this;simp only[cP,c8]at this;simp[qE,this.2]
 have wO:aq U.ak h<=I h:=vo _ _;refine cG axO ?_;simp only[go_sem,amI,m1,Z,m3,R,zu,ai,aB];refine⟨aS,?_⟩;generalize hN:2*I h+2*I (aA h)=N at R;refine dt (λk n blk=>n 0=.one (.p (pA F h))/\n 4=.one (.hsl 5376128064 1 1 0 N)/\blk 5376128064=(1,some (.arr 4 1 (iQ (ft (aU h) N k).2)))/\
   n 5=aI (ft (aU h) N k).1.length/\n 24=aI N/\n 25=aI k) 0 N (bZ _) ?_ ?_
 .simp only[go_sem];exact⟨rfl,rfl,rfl⟩
 rintro k n blk hk ⟨j,v,m,f,x,M⟩
 have H:=Ie (aU h) N k;have D:=N0 (aU h) N k;by_cases A:k<N
 .have B:((k:Int)<(N:Int)):=J;have y:=cS (n:=k) J;have ae:=Ad (aU h) N k;generalize dG:ft (aU h) N k=st at H ae m f D;obtain⟨out,dU⟩:=st;simp only at H m f D;obtain⟨b,u⟩:=aP (h:=dU) (k:=k) J;have E:=tR u;unfold xl at ae;have Cx:dU.getD k true=b:=by rw[dD,u];rfl
  simp only[Cx]at ae;cases b with
  |true=>have ae:ft (aU h) N (k+1)=(out,dU):=ae;simp only[go_sem,S8,abC,j,v,m,f,x,M,A,B,E,y,ae,ai,aB]
  |false=>
   have ae:ft (aU h) N (k+1)=(out++[(hJ (aU h) (N+1) k dU).1],(hJ (aU h) (N+1) k dU).2):=by rw[ae,H];rfl
   have BJ:=J0 dU;have w2:=cS (n:=I out) J;simp only[go_sem,S8,j,v,m,f,x,M,A,B,E,w2,ai,aB];refine ao9 ok (N+1) k dU _ _ ?_ ?_ ?_ ?_ J J J ?_
   .simp only[go_sem,j]
   .simp only[go_sem,v,H]
   .simp only[go_sem,m]
   .simp only[go_sem]
   intro aH ao Q O L z T Y;simp only[go_sem,j,v,f,x,M]at Q O L z T;simp only[go_sem,abC,Q,O,L,z,T,Y,y,ae,A,ai,aB];simp
 have:k=N:=J;subst this;have he:fW h=(ft (aU h) k k).1.length:=by unfold fW gW aU;rw[hN]
 rw[<-he]at f;have w3:=tm (a:=I (aA h)) (b:=aq U.ak h/2) J;have X:IntKind.i64.wrap (((I (aA h)+aq U.ak h/2:Nat):Int)+2)=((I (aA h)+aq U.ak h/2+2:Nat):Int):=tm (a:=I (aA h)+aq U.ak h/2) (b:=2) J;have u:(((fW h:Nat):Int)==((I (aA h)+aq U.ak h/2+2:Nat):Int))=(fW h==aq U.ay h+aq U.ak h/2+2):=by
  rw[Ba];cases ab:(fW h==aq U.ay h+aq U.ak h/2+2)with
  |true=>simp at ab |-;omega
  |false=>simp at ab |-;omega
 simp only[go_sem,S8,afj,j,f,x,M,fF,ti,fj,w3,X,u,ai,aB];exact aS
abbrev VQ(id:Nat):Prop:=id=1408320128\/(rh id=47\/rh id=82\/rh id=83)
def apj(F:Nat)(h:af)(g:Nat)(blk:aJ):Prop:= ∃g1 u x f j,
 blk 1408320128=(g,some (.var (xT F h (ae 5248128448 u (I h)) (ae 5249344128 j (I (aA h))) (ae 5248192448 x (I h)) (.nV 5312256064 f) (ae 5248064448 g1 (F+1)))))/\
 blk 5248064448=(g1,some (.arr 3 1 (bQ (gK h F))))/\blk 5248128448=(u,some (.arr 4 1 (iQ (lr h))))/\blk 5248192448=(x,some (.arr 3 1 (bQ (lp h (I h)))))/\
 blk 5249344128=(j,some (.arr 3 1 (bQ (aA h))))/\blk 5312256064=(f,some (.map true (qE h (I h))))
def RB(F:Nat)(h:af):Bool:=decide (h=[])||oa F h
def ZX(F:Nat)(h:af)(g:Nat)(m:aJ)(v:V)(A:aJ):Prop:=v=i_ (RB F h)/\d_ VQ m A/\(h≠[]->oa F h->apj F h g A)/\(h=[]->A 1408320128=m 1408320128)
def abL:S.sites 47=[47,82,83]:=ah
def aeY:S.sites 82=[82]:=ah
def akA:S.sites 83=[83]:=ah
def d_.Wr{ba f:Nat->Prop}{a b:aJ}(h:d_ ba a b)(H:∀id,ba id->f id):d_ f a b:=λid m=>h id λj=>m (H id j)
abbrev ED(g:Nat):List eO:=[[.hfn 80 [.bR 1408320128 g 0] []],[.hfn 81 [.bR 1408320128 g 0] []],[.hfn 82 [.bR 1408320128 g 0] []],[.hfn 83 [.bR 1408320128 g 0] []],[.hfn 84 [.bR 1408320128 g 0] []]]
section
variable {al:cF} {Q:iw} {n:bJ} {blk:aJ} {g g0:Nat}
def Zi(k:Nat){f:Nat}{D:PV}{r:aG}{b:Bool}(H:k<5)(hf:(ED g)[k]?=some [.hfn f [.bR 1408320128 g 0] []])(M:S.shared f=false)(O:al.ok 3008192640)
  (L:n 22=.one (ae 3008192640 g0 5)) (m:n 23=aI 5) (v:n 24=aI k) (B:blk 3008192640=(g0,some (.lh 27 1 (ED g))))
  (u:qD blk (.one (.bR 1408320128 g 0))=some (.one (.p D),r)) (h:al.jk r) (hp:aL S f [.one (.p D)] (fv b))
  (Y:b=false->∀A,A 2=i_ false->Q .ret A blk)
  (Z:b->∀A,A 22=.one (ae 3008192640 g0 5)->A 23=aI 5->A 24=aI ((k+1:Nat):Int)->W S al (.loop Dv) Q A blk):W S al (.loop Dv) Q n blk:=by
 refine og ?_;have j:((k:Int)<5):=J;cases b with
 |false=>simp only[go_sem,Dv,L,m,v,B,j,H,hf,M,O,↓u,am8 hp,h,ai,aB];exact Y rfl _ (by simp only[go_sem])
 |true=>
  simp only[go_sem,Dv,L,m,v,B,j,H,hf,M,O,↓u,am8 hp,h,cS (n:=k) J,ai,aB];refine Z rfl _ ?_ ?_ ?_
  .simp only[go_sem,L]
  .simp only[go_sem,m]
  simp only[go_sem]
def adL(k:Nat){f:Nat}{P:V->aJ->Prop}{b:Bool}(y:k<5)(hf:(ED g)[k]?=some [.hfn f [.bR 1408320128 g 0] []])(M:S.shared f)(O:al.ok 3008192640)
  (L:n 22=.one (ae 3008192640 g0 5)) (m:n 23=aI 5) (u:n 24=aI k) (B:blk 3008192640=(g0,some (.lh 27 1 (ED g))))
  (H:al.holds (jm (S.ctx al) f [.one (.bR 1408320128 g 0)] blk)) (h:∃v A,jQ S f [.one (.bR 1408320128 g 0)] (jm (S.ctx al) f [.one (.bR 1408320128 g 0)] blk) blk v A/\P v A)
  (D:∀v A,P v A->v=i_ b)
  (Y:b=false->∀v j A,P v A->j 2=i_ false->Q .ret j A)
  (Z:b->∀v j A,P v A->j 22=.one (ae 3008192640 g0 5)->j 23=aI 5->j 24=aI ((k+1:Nat):Int)->W S al (.loop Dv) Q j A):W S al (.loop Dv) Q n blk:=by
 refine og ?_;have x:((k:Int)<5):=J;simp only[go_sem,Dv,L,m,u,B,x,y,hf,M,O,ai,aB];refine xB H h λv A hp=>?_;have z:=D v A hp;subst z;cases b with
 |false=>simp only[go_sem,L,m,u,ai,aB];exact Y rfl _ _ _ hp (by simp only[go_sem])
 |true=>
  simp only[go_sem,L,m,u,cS (n:=k) J,ai,aB];refine Z rfl _ _ _ hp ?_ ?_ ?_
  .simp only[go_sem,L]
  .simp only[go_sem,m]
  simp only[go_sem]
end
def aBw{al:cF}(n:al.ok 1408320128)(O:∀id,(rh id=47\/rh id=82\/rh id=83)->al.ok id)(f1:al.fs.contains 82)(f2:al.fs.contains 83)
  {blk:aJ}{g F:Nat}{h:af} (hl:I h<=1000000) (hF:F<=1000000)
  (B:blk 1408320128=(g,some (.var (xT F h (.p .nils) (.p .nils) (.p .nils) (.p .tO) (.p .nils))))):∃v j,jQ S 47 [.one (.bR 1408320128 g 0)] al blk v j/\ZX F h g blk v j:=by
 have D:=O 3008192640 (.inl rfl);refine oZ auT (ju rfl) ?_;by_cases Z:h=[]
 .subst Z;have hz:(((0:Nat):Int)==0):=aa;simp only[go_sem,Z6,B,hz,n,D,ai,aB];exact⟨rfl,d_.refl _ _,λH=>absurd rfl H,λ_=>rfl⟩
 have F3:(((I h:Nat):Int)==0)=false:=by simp;omega
 obtain⟨l0,h0⟩:=aP (gy.2 Z);have sN:decide (h=[])=false:=by simp[Z]
 have pb:=az9 F h l0 (.sl []) (.sl []) (.sl []) .tO (.sl []) hl h0;have ab:=Nn (F:=F) (h:=h);have fail:∀A j,d_ VQ blk j->oa F h=false->A 2=i_ false->rM 0 (Bv S al aco (sW al [(2,none)] (ZX F h g blk))) .ret A j:=λA j hk hv m=>by simp only[go_sem,m,ai,aB];exact⟨by rw[RB,sN,hv];rfl,hk,λ_ H=>(by rw[hv]at H;cases H),λH=>absurd H Z⟩
 have ap:yD F h=false->oa F h=false:=λH=>by simp[oa,H]
 have z:=λH=>ap (by
  cases hq:yD F h with
  |false=>rfl
  |true=>exact absurd (ab.1 hq) H)
 simp only[go_sem,Z6,B,F3,n,D,ai,aB];have dz:d_ VQ blk (dV blk 3008192640 ((blk 3008192640).1+1,some (.lh 27 1 (ED g)))):=d_.dV (d_.refl _ _) (.inr (.inl rfl)) _;generalize R:dV blk 3008192640 ((blk 3008192640).1+1,some (.lh 27 1 (ED g)))=L;rw[R]at dz;have Q:L 3008192640=((blk 3008192640).1+1,some (.lh 27 1 (ED g))):=by rw[<-R];simp only[go_sem]
 have B:L 1408320128=(g,some (.var (xT F h (.p .nils) (.p .nils) (.p .nils) (.p .tO) (.p .nils)))):=by rw[<-R];simp only[go_sem,B]
 clear R;have sR:qD L (.one (.bR 1408320128 g 0))=some (.one (.p (Nu F h (.sl []) (.sl []) (.sl []) .tO (.sl []))),[1408320128]):=by simp only[go_sem,B,ai,aB]
 have wX:al.jk [1408320128]:=by simp only[go_sem,n]
 refine Zi 0 J rfl axk D (by simp only[go_sem]) (by simp only[go_sem];rfl) (by simp only[go_sem];rfl) Q sR wX (azZ F h (.sl []) (.sl []) (.sl []) .tO (.sl []) hl ⟨rfl,rfl,rfl,rfl,rfl⟩) (λf A m=>fail A L dz (z λH=>by simp[H.1]at f) m) (λf A y N M=>?_);have R:h.any (eo F)=false:=by simpa using f
 have mu:=λl hl=>by simpa using FM.1 R l hl
 have hg:=λl hl hp=>((lQ hp).1 (mu l hl)).1.1.1;refine Zi 1 J rfl auE D y N M Q sR wX pb (λf A m=>fail A L dz (by simp only[oa,h0,f];rfl) m) (λam A y N M=>?_);clear f;have ag:qd L (.one (.bR 1408320128 g 0))=[1408320128]:=by rw[abD B];simp[acf]
 refine adL 2 J rfl ah D y N M Q ?_ (asr (Ep (by simp[ag])) (λid H=>O8 (by rw[aeY,H];rfl)) hl hF hg B) (λv j H=>H.1) ?_ ?_
 .refine Ow ?_ ?_
  .show al.jk ([V.one (.bR 1408320128 g 0)].map (qd L)).flatten=true;simp only[eZ,m_,ag,xX,UP,ic];exact wX
  show(S.sites 82).all al.fs.contains=true;rw[aeY];simp only[wE,zO,f1];rfl
 .intro f v A j hp m;exact fail A j (dz.trans (hp.2.1.Wr λid H=>H.elim .inl λH=>.inr (.inr (.inl H)))) (z λH=>by rw[H.2.1]at f;cases f) m
 intro jX v A bK hp y N M;obtain⟨_,kL,uN⟩:=hp;obtain⟨g1,u,x,g5,B,bC,bW,pL,Y⟩:=uN jX;have lY:Ec F h:=by obtain⟨a,b⟩:=(GB hg).1 jX;exact⟨a,b⟩
 rw[axC lY]at Y;rw[Bw hg]at B;have Q:bK 3008192640=((blk 3008192640).1+1,some (.lh 27 1 (ED g))):=by rw[<-Q];exact kL _ aa
 have T:=dz.trans (kL.Wr λid H=>H.elim .inl λH=>.inr (.inr (.inl H)));have oC:=O 5248064448 (.inr (.inl rfl));have oW:=O 5248128448 (.inr (.inl rfl));have oP:=O 5248192448 (.inr (.inl rfl));have oA:=O 5249344128 (.inr (.inl rfl));have oM:=O 5312256064 (.inr (.inr rfl));have QE:qd bK (.one (.bR 1408320128 g 0))=[1408320128,5248128448,5249344128,5248192448,5248064448]:=by rw[abD B];simp only[eZ,m_,acf,JJ bW,JJ Y,JJ pL,JJ bC,xX,UP,fB,ic,qz]
 refine adL 3 J rfl ah D y N M Q ?_ (aoa (Ep (by simp[QE])) (λid H=>O8 (by rw[akA,H];rfl)) hl B) (λv j H=>H.1) ?_ ?_
 .refine Ow ?_ ?_
  .show al.jk ([V.one (.bR 1408320128 g 0)].map (qd bK)).flatten=true;simp only[eZ,m_,QE,xX,UP,ic,VW,Z9,n,oC,oW,oP,oA,zK]
  show(S.sites 83).all al.fs.contains=true;rw[akA];simp only[wE,zO,f2];rfl
 .intro f v A j hp m;exact fail A j (T.trans (hp.2.1.Wr λid H=>H.elim .inl λH=>.inr (.inr (.inr H)))) (z λH=>by rw[H.2.2]at f;cases f) m
 intro eS v A mO hp y N M;obtain⟨_,E,ar⟩:=hp;obtain⟨g4,B,bM⟩:=ar eS;have kp:∀id,rh id=82->mO id=bK id:=λid H=>E id (by
  rintro(e|e)
  .rw[e]at H;revert H;decide
  rw[e]at H;revert H;decide)
 rw[<-kp _ rfl]at bC bW pL Y;have ac:=T.trans (E.Wr λid H=>H.elim .inl λH=>.inr (.inr (.inr H)));have pf:=aqm ⟨hl,lY,eS,λl hl=>zB (mu l hl)⟩;have ad:oa F h=(fW h==aq U.ay h+aq U.ak h/2+2):=by
  have X:(l0.kind==1)/\(aq U.ay h%2==0):=by simpa using am
  simp only[oa,h0,X.1,X.2,ab.2 ⟨R,jX,eS⟩,EG]
 have t1:List.take (I h) (iQ (lr h))=iQ (lr h):=f_ (by simp[lr]);have t2:List.take (I (aA h)) (bQ (aA h))=bQ (aA h):=f_ aE;have t3:List.take (I h) (bQ (lp h (I h)))=bQ (lp h (I h)):=f_ (by simp[lp]);have t4:List.take (F+1) (bQ (gK h F))=bQ (gK h F):=f_ (by simp[gK]);have n1:I h<=I (lr h):=by simp[lr]
 have n3:I h<=I (lp h (I h)):=by simp[lp]
 have n4:F+1<=I (gK h F):=by simp[gK]
 have sR:qD mO (.one (.bR 1408320128 g 0))=some (.one (.p (pA F h)),[1408320128,5248128448,5249344128,5248192448,5312256064,5248064448]):=by simp only[go_sem,agR,B,bW,Y,pL,bC,bM,abn,t1,t2,t3,t4,n1,n3,n4,ai,aB]
 refine Zi 4 J rfl aqO D y N M (by rw[<-Q];exact E _ aa) sR (by simp only[VW,Z9,n,oC,oW,oP,oA,oM,zK]) pf (λf A m=>fail A mO ac (by rw[ad];exact f) m) (λrU A y N M=>?_);have hv:oa F h:=by rw[ad];exact rU
 refine og ?_;have n5:¬((((4+1:Nat)):Int)<5):=aa;simp only[go_sem,Dv,aco,N,M,n5,ai,aB];exact⟨by rw[RB,sN,hv];rfl,ac,λ_ _=>⟨g1,u,x,g4,g5,B,bC,bW,pL,Y,bM⟩,λH=>absurd H Z⟩
end
end Go.Abs
