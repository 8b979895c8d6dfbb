/- A part. -/
import Derived.Test.YtenindeoffokoaaGreatDoorWe
set_option linter.all false
open List renaming length->I
set_option maxRecDepth 100000
set_option maxHeartbeats 16000000
namespace Go.Abs
variable{F m n v:Nat}{u:dI}
section
variable{f:af}{j:Nat}
def dY(l:aW)(i:Nat)(r:Int):aW:=l.set i {(l.getD i ⟨ij,false⟩)with l:={(l.getD i ⟨ij,false⟩).l with au:=r}}
def tf(l:aW)(i:Nat)(r:Int):I (dY l i r)=I l:=by simp[dY]
def rb(F:Nat)(f:af)(j m:Nat):Option aW:=
 if(kZ f j).2.2&&((kZ f m).2.2&&(!((kZ f j).2.1==(kZ f m).2.1)&&(((dE f (kZ f j).2.1).l.id==(dE f (kZ f m).2.1).l.id)&&oF F f 1 [j,m] j)))
 then some (ef f (dY (dY (an f) (kZ f j).1 (dE f (kZ f m).1).l.au) (kZ f m).1 (dE f (kZ f j).1).l.au) [j,m])else none
def amh{e:Nat}(H:e<I f):(kZ f e).1<I f/\(kZ f e).2.1<I f:=by
 have h:=cT (e+1) (show 0<I f by omega);unfold kZ nx;split
 .exact⟨h,H⟩
 exact⟨H,h⟩
def aAS(g:bj F f)(ha:j<I f)(hb:m<I f){k c:Int}{l o:Bool}{sg:Int}:
  aL S 71 [.one (.p (eK F f)),jL k j m c l o sg] (uU (rb F f j m)):=by
 have ar:=g.len;have N:=bY f;have z:=amb g ha;have pb:=amb g hb;have pc:=aaf g [j,m] aE (m:=j) rfl ha 1;obtain⟨p1,kU⟩:=amh ha;obtain⟨q1,R⟩:=amh hb;unfold rb;generalize kZ f j=x at*;generalize kZ f m=y at*;obtain⟨h,O,one⟩:=x;obtain⟨D,E,two⟩:=y;simp only at z pb p1 kU q1 R |-;simp only[eZ,m_]at pc;have c1:((1:Nat):Int)=1:=rfl;rw[c1]at pc;obtain⟨P,hP⟩:=aP (h:=an f) (k:=h) J;obtain⟨Q,hQ⟩:=aP (h:=an f) (k:=D) J;obtain⟨V,hV⟩:=aP (h:=an f) (k:=O) J
 obtain⟨W,hW⟩:=aP (h:=an f) (k:=E) J;rw[gU hP,gU hQ,gU hV,gU hW];have ac:=jR hP;have am:=jR hQ;have A:=jR hV;have H:=jR hW;have aO:an f≠[]:=gy.1 J;have ao:=Pr aO J;have lo:S.lone 4544384256=false:=ah;refine cG anh ?_;cases one with
 |false=>simp only[go_sem,GL,Ji,cE z zN,cE pb zN];exact⟨aS,rfl⟩
 |true=>
 cases two with
 |false=>simp only[go_sem,GL,Ji,cE z zN,cE pb zN];exact⟨aS,rfl⟩
 |true=>
 cases c2:(O==E)with
 |true=>
  have n2:((O:Int)==(E:Int)):=by simp[show O=E by simpa using c2]
  simp only[go_sem,GL,Ji,cE z zN,cE pb zN,n2];exact⟨aS,rfl⟩
 |false=>
 have n2:((O:Int)==(E:Int))=false:=by
  have:¬O=E:=by simpa using c2
  simp;omega
 cases c3:(V.l.id==W.l.id)with
 |false=>
  have n3:(V.l.id !=W.l.id):=by simp[bne,c3]
  simp only[go_sem,GL,Ji,cE z zN,cE pb zN,n2,A,H,kU,R,N,aN.ps,n3];exact⟨aS,rfl⟩
 |true=>
 have n3:(V.l.id !=W.l.id)=false:=by simp[bne,c3]
 cases c4:oF F f 1 [j,m] j with
 |false=>rw[c4]at pc;simp only[go_sem,GL,Ji,cE z zN,cE pb zN,n2,A,H,kU,R,N,aN.ps,n3,nD,fx pc];exact⟨aS,rfl⟩
 |true=>
 rw[c4]at pc;simp only[go_sem,GL,Ji,cE z zN,cE pb zN,n2,A,H,ac,am,kU,R,p1,q1,N,aN.ps,n3,nD,fx pc,Fb];refine⟨aS,aS,?_⟩;refine nI ao lo (.inl rfl) λcc mq gc iD=>?_;have b3:=iD 4544000000 aa;simp only[go_sem]at b3;rcases gc with⟨e,_⟩|⟨_,gg,e,hC⟩
 .exact absurd (by simpa using e) aO
 cases e;rw[cg,N];have L:=AZ (an f) h {P with l:={P.l with au:=Q.l.au}};have jj:(an f).set h {P with l:={P.l with au:=Q.l.au}}=dY (an f) h Q.l.au:=by unfold dY;rw[dD,hP];rfl
 rw[jj]at L;have wU:I (dY (an f) h Q.l.au)=I f:=by rw[tf,N]
 obtain⟨Q',ab⟩:=aP (h:=dY (an f) h Q.l.au) (k:=D) J;have ap:=jR ab;have B:=AZ (dY (an f) h Q.l.au) D {Q' with l:={Q'.l with au:=P.l.au}};have iK:(dY (an f) h Q.l.au).set D {Q' with l:={Q'.l with au:=P.l.au}}=dY (dY (an f) h Q.l.au) D P.l.au:=by rw[dY.eq_def (dY (an f) h Q.l.au),dD,ab];rfl
 rw[iK]at B;simp only[aN.ps]at L B;have qu:I (dY (dY (an f) h Q.l.au) D P.l.au)=I f:=by rw[tf,wU]
 simp only[go_sem,b3,hC,N,ac,ap,aN.ps,L,B,wU,p1,q1,j7];generalize dY (dY (an f) h Q.l.au) D P.l.au=M at qu |-;obtain⟨u,Uv⟩:∃u,u=[j,m]:=⟨_,rfl⟩;have Hm:I u=2:=by rw[Uv];rfl
 have fi:∀e∈u,e<I f:=λe v=>by rw[Uv]at v;simp only[c7,eD,or_false]at v;rcases v with rfl|rfl<;>assumption
 refine dt (λk T blk=>T 0=.one (.p (eK F f))/\T 14=.one (.hsl 4544384256 gg 7 0 (I f))/\(∃X,T 116=.one (.hsl 4544512256 X 1 0 2)/\blk 4544512256=(X,some (.arr 3 1 (bQ u))))/\T 117=aI ((2:Nat):Int)/\T 118=aI k/\blk 4544384256=(gg,some (.arr mI 7 (dP (ef f M (u.take k)))))) 0 2 (bZ _) ?_ ?_
 .simp only[go_sem];exact⟨⟨_,rfl,by rw[Uv];rfl⟩,rfl,rfl⟩
 rintro k T blk hk ⟨h0,uE,⟨X,Hg,bE⟩,Z,Y,bO⟩
 by_cases aw:k<2
 .have aM:((k:Int)<((2:Nat):Int)):=J;have Hy:k<I u:=J;obtain⟨e,v⟩:=aP Hy;have ag:=jy v;have Qc:=fi e (a7 v);have pe:=Df g Qc;have R:=cS (n:=k) J;have l8:ef f M (u.take (k+1))=gX f (ef f M (u.take k)) e:=by
   unfold ef;rw[k_,v,A8];rfl
  have fj:I (ef f M (u.take k))=I f:=by rw[s6,qu]
  have hm:=cT (e+1) (show 0<I f by omega);generalize ef f M (u.take k)=ad at bO l8 fj;obtain⟨p,hp⟩:=aP (h:=ad) (k:=e) J;obtain⟨q,hq⟩:=aP (h:=ad) (k:=(e+1)%I f) J;have dx:=jR hp;have F5:=jR hq;have l1:e<I ad:=J;have l2:(e+1)%I f<I ad:=J;have L:=AZ ad e q;have uK:(ad.set e q).set ((e+1)%I f) p=gX f ad e:=by unfold gX nx;rw[dD,hq,dD,hp];rfl
  have B:=AZ (ad.set e q) ((e+1)%I f) p;rw[uK,<-l8]at B;simp only[aN.ps]at L B;obtain⟨q',lG⟩:=aP (h:=ad.set e q) (k:=(e+1)%I f) (by rw[j7];omega);have ZC:=jR lG;simp only[go_sem,Wx,h0,uE,Hg,Z,Y,bE,bO,aw,aM,ag,iF,cE pe dX,Qc,hm,dx,F5,ZC,l1,l2,L,B,j7,aN.ps,R];first|exact⟨aS,X,rfl,rfl⟩|exact⟨aS,⟨X,rfl,rfl⟩⟩|exact⟨aS,⟨X,rfl,rfl⟩,rfl⟩|trace_state
 have:k=2:=J;subst this;have e1:u.take 2=[j,m]:=by rw[Uv];rfl
 rw[e1]at bO;have mU:¬(((2:Nat):Int)<((2:Nat):Int)):=J;simp only[go_sem,Wx,agP,h0,uE,Z,Y,mU];have h1:I (ef f M [j,m])=I f:=by rw[s6,qu]
 refine uc (.inr ⟨?_,gg,by rw[nM,cg,h1],bO⟩);intro h2;have:=congrArg List.length h2;rw[nM,cg,h1,ga]at this;omega
def pF(l:aW)(i:Nat)(g r:Int):aW:=l.set i {(l.getD i ⟨ij,false⟩)with l:={(l.getD i ⟨ij,false⟩).l with gate:=g,au:=r}}
def th(F:Nat)(f:af)(j:Nat):Option aW:=
 if((dE f j).l.kind==1)&&(decide ((dE f j).l.gate<(F:Int))&&((dE f j).l.au==(aV f (dE f j).l.gate.toNat:Int)))
 then some (pF (dO (an f) ((dE f j).l.gate+1) 0 1) j ((dE f j).l.gate+1) 1)else none
def apY(g:bj F f)(H:j<I f){b c:Int}{l o:Bool}{sg:Int}:
  aL S 77 [.one (.p (eK F f)),jL 9 j b c l o sg] (uU (th F f j)):=by
 unfold th;have Z:=g.len;have A:=bY f;obtain⟨p,hp⟩:=aP (h:=an f) (k:=j) J;have L:=jR hp;have aO:an f≠[]:=gy.1 J;have y:=Pr aO J;have lo:S.lone 4928256256=false:=ah;have ie:S.shared 109:=ah;have qB:=NX g;rw[gU hp];refine cG alM ?_;cases c1:(p.l.kind==1)with
 |false=>
  have N:(p.l.kind !=1):=by simp[bne,c1]
  simp only[go_sem,C7,L,A,H,aN.ps,N];exact⟨aS,rfl⟩
 |true=>
 have N:(p.l.kind !=1)=false:=by simp[bne,c1]
 obtain⟨i,l0,sQ,l5⟩:=NQ (a7 hp);have X:tZ F f p.l:=by rw[l5];exact g.ok.ax.fA l0 (a7 sQ) (by rw[l5]at c1;exact c1)
 obtain⟨G,h⟩:=ns X.g0;have wM:G<=F:=by have:=X.g1;omega
 have JL:=g.fing;have wG:=cS (n:=G) J;have ow:=jy (GN (h:=f) wM);have BA:G<I (gK f F):=by simp[gK];omega
 have eG:p.l.gate.toNat=G:=by rw[h];rfl
 rw[eG];by_cases c2:G<F
 .have z:((G:Int)<(F:Int)):=J;have D:decide (p.l.gate<(F:Int))=true:=tV (by rw[h];exact z);cases c3:(p.l.au==(aV f G:Int))with
  |false=>simp only[go_sem,C7,L,A,H,aN.ps,N,h,Fb];refine⟨aS,?_⟩;refine nI y lo (.inl rfl) λcc Y O v=>?_;have B:=v 4928000000 aa;have u:=v 4928064512 aa;simp only[go_sem]at B u;simp only[go_sem,B,u,h,z,ow,BA,c3,D];exact⟨aS,rfl⟩
  |true=>
   have M:p.l.gate+1=((G+1:Nat):Int):=by rw[h];omega
   rw[D,M];simp only[go_sem,C7,L,A,H,aN.ps,N,Fb];refine⟨aS,?_⟩;refine nI y lo (.inl rfl) λcc Y O v=>?_;have B:=v 4928000000 aa;have u:=v 4928064512 aa;simp only[go_sem]at B u;simp only[go_sem,B,u,h,z,ow,BA,c3,wG,ie];refine⟨aS,?_⟩;refine Jp J aa qB O λde Cm dB=>?_;have T:=(dB 4928000000 aa).trans B;have OC:=(dB 4928064512 aa).trans u;rcases Cm with⟨e,_⟩|⟨_,gg,e,hC⟩
   .exact absurd (by simpa [dO]using e) aO
   cases e;have E:I (dO (an f) ((G+1:Nat):Int) 0 1)=I f:=by rw[cg,A]
   obtain⟨x,Q⟩:=aP (h:=dO (an f) ((G+1:Nat):Int) 0 1) (k:=j) J;have e0:pF (dO (an f) ((G+1:Nat):Int) 0 1) j ((G+1:Nat):Int) 1=(dO (an f) ((G+1:Nat):Int) 0 1).set j {x with l:={x.l with gate:=((G+1:Nat):Int),au:=1}}:=by unfold pF;rw[dD,Q];rfl
   rw[e0];generalize dO (an f) ((G+1:Nat):Int) 0 1=m at hC E Q |-;have jo:=jR Q;have s1:=AZ m j {x with l:={x.l with gate:=((G+1:Nat):Int)}};have pB:(m.set j {x with l:={x.l with gate:=((G+1:Nat):Int)}})[j]?=some {x with l:={x.l with gate:=((G+1:Nat):Int)}}:=by rw[pJ,aD rfl,aD J]
   have QL:=jR pB;have R:=AZ (m.set j {x with l:={x.l with gate:=((G+1:Nat):Int)}}) j {x with l:={x.l with gate:=((G+1:Nat):Int),au:=1}};rw[List.set_set]at R;simp only[aN.ps]at s1 R QL;have l1:j<I m:=J;simp only[go_sem,T,OC,hC,E,H,jo,QL,aN.ps,c1,N,h,s1,R,l1,j7,wG];refine⟨aS,?_⟩;refine uc (.inr ⟨?_,gg,by rw[nM,cg,j7,E],rfl⟩);intro h2;have:=congrArg List.length h2;rw[nM,cg,j7,E,ga]at this;omega
 have z:¬((G:Int)<(F:Int)):=J;have D:decide (p.l.gate<(F:Int))=false:=vg (by rw[h];exact z);simp only[go_sem,C7,L,A,H,aN.ps,N,Fb];refine⟨aS,?_⟩;refine nI y lo (.inl rfl) λcc Y O v=>?_;have B:=v 4928000000 aa;have u:=v 4928064512 aa;simp only[go_sem]at B u;simp only[go_sem,B,u,h,z,D];exact⟨aS,rfl⟩
def te(f:af)(j:Nat):Option aW:=
 if((dE f j).l.kind==1)&&(decide (0<(dE f j).l.gate)&&((dE f j).l.au==1))
 then some (pF (dO (an f) (dE f j).l.gate 1 (-1)) j ((dE f j).l.gate-1) ((aV f ((dE f j).l.gate-1).toNat+1:Nat):Int))else none
def ayr(g:bj F f)(A:j<I f){b c:Int}{l o:Bool}{sg:Int}:
  aL S 77 [.one (.p (eK F f)),jL 10 j b c l o sg] (uU (te f j)):=by
 unfold te;have ab:=g.len;have D:=bY f;obtain⟨p,hp⟩:=aP (h:=an f) (k:=j) J;have M:=jR hp;have aO:an f≠[]:=gy.1 J;have y:=Pr aO J;have lo:S.lone 4928256256=false:=ah;have ie:S.shared 109:=ah;have qB:=NX g;rw[gU hp];refine cG alM ?_;cases c1:(p.l.kind==1)with
 |false=>
  have N:(p.l.kind !=1):=by simp[bne,c1]
  simp only[go_sem,C7,M,D,A,aN.ps,N];exact⟨aS,rfl⟩
 |true=>
 have N:(p.l.kind !=1)=false:=by simp[bne,c1]
 obtain⟨i,l0,sQ,l5⟩:=NQ (a7 hp);have Y:tZ F f p.l:=by rw[l5];exact g.ok.ax.fA l0 (a7 sQ) (by rw[l5]at c1;exact c1)
 obtain⟨G,h⟩:=ns Y.g0;have wM:G<=F:=by have:=Y.g1;omega
 have JL:=g.fing;by_cases c2:0<G
 .have z:((0:Int)<(G:Int)):=J;obtain⟨H,rfl⟩:∃H,G=H+1:=⟨G-1,J⟩;have E:decide (0<p.l.gate)=true:=tV (by rw[h];exact z);have wG:=Ig (a:=H+1) J J;rw[Is]at wG;have ow:=jy (GN (h:=f) (show H<=F by omega));have BA:H<I (gK f F):=by simp[gK];omega
  have dF:aV f H<=I f:=vo _ _;have wC:=cS (n:=aV f H) J;have O:p.l.gate-1=(H:Int):=by rw[h];omega
  cases c3:(p.l.au==1)with
  |false=>simp only[go_sem,C7,M,D,A,aN.ps,N,h,Fb];refine⟨aS,?_⟩;refine nI y lo (.inl rfl) λcc Z Q v=>?_;have B:=v 4928000000 aa;have u:=v 4928064512 aa;simp only[go_sem]at B u;simp only[go_sem,B,u,h,z,c3,E];first|exact⟨aS,rfl⟩|rfl
  |true=>
   rw[E,O,h,js];simp only[go_sem,C7,M,D,A,aN.ps,N,Fb];refine⟨aS,?_⟩;refine nI y lo (.inl rfl) λcc Z Q v=>?_;have B:=v 4928000000 aa;have u:=v 4928064512 aa;simp only[go_sem]at B u;simp only[go_sem,B,u,h,z,c3,ie];refine⟨aS,?_⟩;refine Jp J aa qB Q λde Cm dB=>?_;have X:=(dB 4928000000 aa).trans B;have OC:=(dB 4928064512 aa).trans u;rcases Cm with⟨e,_⟩|⟨_,gg,e,hC⟩
   .exact absurd (by simpa [dO]using e) aO
   cases e;have L:I (dO (an f) ((H+1:Nat):Int) 1 (-1))=I f:=by rw[cg,D]
   obtain⟨x,R⟩:=aP (h:=dO (an f) ((H+1:Nat):Int) 1 (-1)) (k:=j) J;have e0:pF (dO (an f) ((H+1:Nat):Int) 1 (-1)) j (H:Int) ((aV f H+1:Nat):Int)=(dO (an f) ((H+1:Nat):Int) 1 (-1)).set j {x with l:={x.l with gate:=(H:Int),au:=((aV f H+1:Nat):Int)}}:=by unfold pF;rw[dD,R];rfl
   rw[e0];generalize dO (an f) ((H+1:Nat):Int) 1 (-1)=m at hC L R |-;have jo:=jR R;have s1:=AZ m j {x with l:={x.l with gate:=(H:Int)}};have pB:(m.set j {x with l:={x.l with gate:=(H:Int)}})[j]?=some {x with l:={x.l with gate:=(H:Int)}}:=by rw[pJ,aD rfl,aD J]
   have QL:=jR pB;have T:=AZ (m.set j {x with l:={x.l with gate:=(H:Int)}}) j {x with l:={x.l with gate:=(H:Int),au:=((aV f H+1:Nat):Int)}};rw[List.set_set]at T;simp only[aN.ps]at s1 T QL;have l1:j<I m:=J;simp only[go_sem,X,OC,hC,L,A,jo,QL,aN.ps,c1,N,h,s1,T,l1,j7,wG,ow,BA,wC];refine⟨aS,?_⟩;refine uc (.inr ⟨?_,gg,by rw[nM,cg,j7,L],rfl⟩);intro h2;have:=congrArg List.length h2;rw[nM,cg,j7,L,ga]at this;omega
 have z:¬((0:Int)<(G:Int)):=J;have E:decide (0<p.l.gate)=false:=vg (by rw[h];exact z);simp only[go_sem,C7,M,D,A,aN.ps,N,Fb];refine⟨aS,?_⟩;refine nI y lo (.inl rfl) λcc Z Q v=>?_;have B:=v 4928000000 aa;have u:=v 4928064512 aa;simp only[go_sem]at B u;simp only[go_sem,B,u,h,z,E];first|exact⟨aS,rfl⟩|rfl
section
attribute [local go_sem ↓] F9 EX
def S4(a b:Nat):(a==b)=((a:Int)==(b:Int)):=by
 by_cases h:a=b
 .simp[h]
 have:(a==b)=false:=by simpa using h
 rw[this];symm;simp;omega
def oY(F:Nat)(f:af)(j m:Nat):Option aW:=
 if((jx f j true&&jx f m false)||(jx f j false&&jx f m true))&&(!((dE f j).l.id==(dE f (nx f j)).l.id)&&
  (((((dE f m).l.id==(dE f j).l.id)&&((dE f (nx f m)).l.id==(dE f (nx f j)).l.id))||(((dE f m).l.id==(dE f (nx f j)).l.id)&&((dE f (nx f m)).l.id==(dE f j).l.id)))&&
  (!((j+2)%I f==m)&&(!((m+2)%I f==j)&&oF F f 0 [j,m] j))))
 then some (jA (an f) [(dE f j).l.id,(dE f (nx f j)).l.id])else none
def aCc(g:bj F f)(ha:j<I f)(hb:m<I f){k c:Int}{l o:Bool}{sg:Int}:
  aL S 74 [.one (.p (eK F f)),jL k j m c l o sg] (uU (oY F f j m)):=by
 have aM:=g.len;have aX:=bY f;have h:=Df g ha;have u:=Df g hb;have vD:=cT (j+1) (show 0<I f by omega);have qu:=cT (m+1) (show 0<I f by omega);have pc:=aaf g [j,m] aE (m:=j) rfl ha 0;simp only[eZ,m_]at pc;have c0:((0:Nat):Int)=0:=rfl;rw[c0]at pc;have n:=II g ha true;have y:=II g hb false;have B:=II g ha false;have z:=II g hb true;obtain⟨P,hP⟩:=aP (h:=an f) (k:=j) J;obtain⟨P2,am⟩:=aP (h:=an f) (k:=(j+1)%I f) J;obtain⟨Q,hQ⟩:=aP (h:=an f) (k:=m) J;obtain⟨Q2,O⟩:=aP (h:=an f) (k:=(m+1)%I f) J;have sM:=jR hP;have aH:=jR am;have mw:=jR hQ;have aF:=jR O;have hz:¬((I f:Int)=0):=J
 have ar:IntKind.i64.wrap ((j:Int)+2)=((j+2:Nat):Int):=(nj (x:=(j:Int)+2) J J).trans J;have ap:=xw (j+2) (I f);have aw:IntKind.i64.wrap ((m:Int)+2)=((m+2:Nat):Int):=(nj (x:=(m:Int)+2) J J).trans J;have ao:=xw (m+2) (I f);have lo:S.lone 4736704448=false:=ah;have pd:=ak1 (an f) [P.l.id,P2.l.id] J aE (aiE g);simp only[eZ,m_]at pd;have x3:jx f j true->jx f j false=false:=λX=>by
  unfold jx at X |-;rw[gU hP]at X |-;simp only[cP]at X;have:P.l.over:=by simpa using X.2.2.1
  simp[this]
 unfold oY;rw[gU hP,gU hQ,gU am,gU O,S4,S4];have v:=And.intro sM (And.intro mw (And.intro aH (And.intro aF (And.intro ha (And.intro hb (And.intro vD (And.intro qu (And.intro aX (And.intro ar (And.intro ap (And.intro hz (And.intro aw ao))))))))))));refine cG anE ?_;simp only[go_sem,aiL,oQ,b_ n,b_ y,b_ B,b_ z,iF,cE h dX,cE u dX,v,aN.ps,nD,fx pc,oR];refine zP [0,3,4,5,6,7,22] λe1 h1=>?_;try simp only[go_sem]at h1
 obtain⟨Tp,Ts,Tt,Tu,Tv,Tw,Tq⟩:=h1;cases X:jx f j true
 case' false=>
  simp only[go_sem,oQ,b_ n,b_ y,b_ B,b_ z,iF,cE h dX,cE u dX,v,aN.ps,nD,fx pc,oR,Tp,Ts,Tt,Tu,Tv,Tw,Tq,X];refine zP [0,3,4,5,6,7,28,33] λe2 h2=>?_;try simp only[go_sem,Tp,Ts,Tt,Tu,Tv,Tw,Tq,X]at h2
  obtain⟨D,E,L,A,M,H,N,Pj⟩:=h2;cases x4:jx f j false
  .simp only[go_sem,oQ,b_ n,b_ y,b_ B,b_ z,iF,cE h dX,cE u dX,v,aN.ps,nD,fx pc,oR,D,E,L,A,M,H,N,Pj,x4];first|rfl|exact aS|exact⟨aS,rfl⟩|exact⟨aS,aS,rfl⟩
  simp only[go_sem,oQ,b_ n,b_ y,b_ B,b_ z,iF,cE h dX,cE u dX,v,aN.ps,nD,fx pc,oR,D,E,L,A,M,H,N,Pj,x4];cases x5:jx f m true
  .simp only[go_sem,oQ,b_ n,b_ y,b_ B,b_ z,iF,cE h dX,cE u dX,v,aN.ps,nD,fx pc,oR,D,E,L,A,M,H,N,Pj,x4,x5];first|rfl|exact aS|exact⟨aS,rfl⟩|exact⟨aS,aS,rfl⟩
  simp only[go_sem,oQ,b_ n,b_ y,b_ B,b_ z,iF,cE h dX,cE u dX,v,aN.ps,nD,fx pc,oR,D,E,L,A,M,H,N,Pj,x4,x5];refine⟨aS,?_⟩;refine zP [0,3,4,5,6,9,10,11,12,76] λe3 T=>?_;try simp only[go_sem,D,E,L,A,M,H,N,Pj,x4,x5]at T
  obtain⟨Tx,TB,TC,TD,TE,TH,Ty,Tz,TA,TG⟩:=T
 case' true=>
  simp only[go_sem,oQ,b_ n,b_ y,b_ B,b_ z,iF,cE h dX,cE u dX,v,aN.ps,nD,fx pc,oR,Tp,Ts,Tt,Tu,Tv,Tw,Tq,X];refine zP [0,3,4,5,6,7,28] λe2 h2=>?_;try simp only[go_sem,Tp,Ts,Tt,Tu,Tv,Tw,Tq,X]at h2
  obtain⟨D,E,L,A,M,H,N⟩:=h2;cases x2:jx f m false
  .have az:=x3 X;simp only[go_sem,oQ,b_ n,b_ y,b_ B,b_ z,iF,cE h dX,cE u dX,v,aN.ps,nD,fx pc,oR,D,E,L,A,M,H,N,x2,az];first|rfl|exact aS|exact⟨aS,rfl⟩|exact⟨aS,aS,rfl⟩
  simp only[go_sem,oQ,b_ n,b_ y,b_ B,b_ z,iF,cE h dX,cE u dX,v,aN.ps,nD,fx pc,oR,D,E,L,A,M,H,N,x2];refine⟨aS,?_⟩;refine zP [0,3,4,5,6,9,10,11,12,76] λe3 T=>?_;try simp only[go_sem,D,E,L,A,M,H,N,x2]at T
  obtain⟨Tx,TB,TC,TD,TE,TH,Ty,Tz,TA,TG⟩:=T
 all_goals
  cases c1:(P.l.id==P2.l.id)
  rotate_left
  .simp only[go_sem,oQ,b_ n,b_ y,b_ B,b_ z,iF,cE h dX,cE u dX,v,aN.ps,nD,fx pc,oR,Tx,TB,TC,TD,TE,TH,Ty,Tz,TA,TG,c1];first|rfl|exact aS|exact⟨aS,rfl⟩|exact⟨aS,aS,rfl⟩
  simp only[go_sem,oQ,b_ n,b_ y,b_ B,b_ z,iF,cE h dX,cE u dX,v,aN.ps,nD,fx pc,oR,Tx,TB,TC,TD,TE,TH,Ty,Tz,TA,TG,c1];refine zP [0,3,4,5,6,9,10,11,12,76,88] λe4 h4=>?_;try simp only[go_sem,Tx,TB,TC,TD,TE,TH,Ty,Tz,TA,TG,c1]at h4
  obtain⟨TI,TM,TN,TO,TP,TS,TJ,TK,TL,TQ,TR⟩:=h4;cases R:(Q.l.id==P.l.id)
  case' false=>
   simp only[go_sem,oQ,b_ n,b_ y,b_ B,b_ z,iF,cE h dX,cE u dX,v,aN.ps,nD,fx pc,oR,TI,TM,TN,TO,TP,TS,TJ,TK,TL,TQ,TR,R];refine zP [0,3,4,5,6,10,11,12,76,101,113] λe8 h8=>?_;try simp only[go_sem,TI,TM,TN,TO,TP,TS,TJ,TK,TL,TQ,TR,R]at h8
   obtain⟨Yc,Yi,Yj,Yk,Yl,Yd,Yf,Yh,Ym,Ye,Yg⟩:=h8;cases c4:(Q.l.id==P2.l.id)
   .simp only[go_sem,oQ,b_ n,b_ y,b_ B,b_ z,iF,cE h dX,cE u dX,v,aN.ps,nD,fx pc,oR,Yc,Yi,Yj,Yk,Yl,Yd,Yf,Yh,Ym,Ye,Yg,c4];first|rfl|exact aS|exact⟨aS,rfl⟩|exact⟨aS,aS,rfl⟩
   simp only[go_sem,oQ,b_ n,b_ y,b_ B,b_ z,iF,cE h dX,cE u dX,v,aN.ps,nD,fx pc,oR,Yc,Yi,Yj,Yk,Yl,Yd,Yf,Yh,Ym,Ye,Yg,c4];refine arQ [0,3,4,5,6,11,12] λe9 h9=>?_;try simp only[go_sem,Yc,Yi,Yj,Yk,Yl,Yd,Yf,Yh,Ym,Ye,Yg,c4]at h9
   obtain⟨Yn,Yq,Yr,Ys,Yt,Yo,Yp⟩:=h9;cases c5:(Q2.l.id==P.l.id)
   .simp only[go_sem,oQ,b_ n,b_ y,b_ B,b_ z,iF,cE h dX,cE u dX,v,aN.ps,nD,fx pc,oR,Yn,Yq,Yr,Ys,Yt,Yo,Yp,c5];first|rfl|exact aS|exact⟨aS,rfl⟩|exact⟨aS,aS,rfl⟩
   simp only[go_sem,oQ,b_ n,b_ y,b_ B,b_ z,iF,cE h dX,cE u dX,v,aN.ps,nD,fx pc,oR,Yn,Yq,Yr,Ys,Yt,Yo,Yp,c5];refine CO [0,3,4,5,6,11,12,137] λe6 h6=>?_;try simp only[go_sem,Yn,Yq,Yr,Ys,Yt,Yo,Yp,c5]at h6
   obtain⟨TT,TX,TY,TZ,T0,TU,TV,TW⟩:=h6
  case' true=>
   have c4:(Q.l.id==P2.l.id)=false:=by rw[show Q.l.id=P.l.id by simpa using R];exact c1
   simp only[go_sem,oQ,b_ n,b_ y,b_ B,b_ z,iF,cE h dX,cE u dX,v,aN.ps,nD,fx pc,oR,TI,TM,TN,TO,TP,TS,TJ,TK,TL,TQ,TR,R];refine zP [0,3,4,5,6,9,10,11,12,76,101] λe5 h5=>?_;try simp only[go_sem,TI,TM,TN,TO,TP,TS,TJ,TK,TL,TQ,TR,R]at h5
   obtain⟨X0,X6,X7,X8,X9,Yb,X1,X3,X5,Ya,X2⟩:=h5;cases c3:(Q2.l.id==P2.l.id)
   .simp only[go_sem,oQ,b_ n,b_ y,b_ B,b_ z,iF,cE h dX,cE u dX,v,aN.ps,nD,fx pc,oR,X0,X6,X7,X8,X9,Yb,X1,X3,X5,Ya,X2,c3,c4];first|rfl|exact aS|exact⟨aS,rfl⟩|exact⟨aS,aS,rfl⟩
   simp only[go_sem,oQ,b_ n,b_ y,b_ B,b_ z,iF,cE h dX,cE u dX,v,aN.ps,nD,fx pc,oR,X0,X6,X7,X8,X9,Yb,X1,X3,X5,Ya,X2,c3];refine CO [0,3,4,5,6,11,12,137] λe6 h6=>?_;try simp only[go_sem,X0,X6,X7,X8,X9,Yb,X1,X3,X5,Ya,X2,c3]at h6
   obtain⟨TT,TX,TY,TZ,T0,TU,TV,TW⟩:=h6
  all_goals
   cases d1:((((j+2)%I f:Nat):Int)==(m:Int))
   rotate_left
   .simp only[go_sem,oQ,b_ n,b_ y,b_ B,b_ z,iF,cE h dX,cE u dX,v,aN.ps,nD,fx pc,oR,TT,TX,TY,TZ,T0,TU,TV,TW,d1];first|rfl|exact aS|exact⟨aS,rfl⟩|exact⟨aS,aS,rfl⟩
   simp only[go_sem,oQ,b_ n,b_ y,b_ B,b_ z,iF,cE h dX,cE u dX,v,aN.ps,nD,fx pc,oR,TT,TX,TY,TZ,T0,TU,TV,TW,d1];refine CO [0,3,4,5,11,12,147] λe7 h7=>?_;try simp only[go_sem,TT,TX,TY,TZ,T0,TU,TV,TW,d1]at h7
   obtain⟨ab,ac,aj,ag,Z,ad,Y⟩:=h7;cases d2:((((m+2)%I f:Nat):Int)==(j:Int))
   rotate_left
   .simp only[go_sem,oQ,b_ n,b_ y,b_ B,b_ z,iF,cE h dX,cE u dX,v,aN.ps,nD,fx pc,oR,ab,ac,aj,ag,Z,ad,Y,d2];first|rfl|exact aS|exact⟨aS,rfl⟩|exact⟨aS,aS,rfl⟩
   cases d3:oF F f 0 [j,m] j;all_goals
    rw[d3]at pc;simp only[go_sem,oQ,b_ n,b_ y,b_ B,b_ z,iF,cE h dX,cE u dX,v,aN.ps,nD,fx pc,oR,ab,ac,aj,ag,Z,ad,Y,d2]
   .first|rfl|exact aS|exact⟨aS,rfl⟩|exact⟨aS,aS,rfl⟩
   refine⟨aS,?_⟩;refine nI pd lo (.inr (r9 (yK _))) λcc de gc aO=>?_;simp only[go_sem];exact uc gc
end
def mf(h:Nat):af:=(List.range (2*h)).map λi=>⟨1,0,((i+1:Nat):Int),0,0,false⟩
section
variable {h:Nat}
def Eo:I (mf h)=2*h:=by simp[mf]
def GO{i:Nat}(H:i<2*h):(mf h)[i]?=some ⟨1,0,((i+1:Nat):Int),0,0,false⟩:=by unfold mf;rw[fz,tX H];rfl
def IP{l:U}(hl:l∈mf h):∃i,i<2*h/\l=⟨1,0,((i+1:Nat):Int),0,0,false⟩:=by obtain⟨i,H,rfl⟩:=ch.1 hl;exact⟨i,gA.1 H,rfl⟩
def Wo(p:U->Bool)(hp:∀l∈mf h,p l)(k:Nat)(H:k<=2*h):aq p ((mf h).take k)=k:=by unfold aq;rw[List.countP_eq_length.2 λl hl=>hp l (za hl),jO,Eo];omega
def aeP:∀l∈mf h,l.ay:=λl hl=>by obtain⟨i,_,rfl⟩:=IP hl;rfl
def aww:aq U.ay (mf h)=2*h:=by have:=Wo (h:=h) U.ay aeP (2*h) (cJ _);rwa[f_ (by rw[Eo];exact cJ _)]at this
def azn:aq U.ak (mf h)=0:=by unfold aq;rw[IW];intro l hl;obtain⟨i,_,rfl⟩:=IP hl;simp[U.ak]
def axZ:aV (mf h) 0=2*h:=by have:=Wo (h:=h) (jq 0) (λl hl=>by obtain⟨i,_,rfl⟩:=IP hl;rfl) (2*h) (cJ _);rwa[f_ (by rw[Eo];exact cJ _)]at this
def aew{i:Nat}(H:i<=2*h):dn (mf h) i=(i%2==0):=by unfold dn;rw[Wo (h:=h) U.ay aeP i H]
def abf(i:Nat):dQ (mf h) ⟨1,0,((i+1:Nat):Int),0,0,false⟩=i:=by unfold dQ;have:dr (mf h) 0=0:=rfl;simp only[Int.toNat_zero,this,js];omega
def azc:yD 1 (mf h):=by
 refine(Nn (F:=1)).2 ⟨?_,?_,?_⟩
 .rw[FM];intro l hl;obtain⟨i,_,rfl⟩:=IP hl;simp[eo]
 .refine(GB (F:=1) λl hl hp=>?_).2 ⟨λl hl hp=>?_,λi j l m n f _ _ u=>?_⟩
  .obtain⟨i,_,rfl⟩:=IP hl;exact⟨aE,aE⟩
  .obtain⟨i,y,rfl⟩:=IP hl;refine⟨aE,aE,by simp;omega,?_⟩;show((i+1:Nat):Int)<=(aV (mf h) (0:Int).toNat:Int);rw[Int.toNat_zero,axZ];omega
  have i1:=(bt.1 n).1;have i2:=(bt.1 f).1;rw[Eo]at i1 i2;rw[GO i1]at n;rw[GO i2]at f;cases n;cases f;rw[abf,abf]at u;exact u
 unfold nN;have v:gE (mf h) (I (mf h))=[]:=by
  have:∀k,k<=2*h->gE (mf h) k=[]:=by
   intro k
   induction k with
   |zero=>intro _;rfl
   |succ k x=>intro H;unfold gE;rw[GO (show k<2*h by omega),x J];rfl
  exact this _ (by rw[Eo];exact cJ _)
 rw[v,azn];simp only[cP];refine⟨⟨rfl,j4.2 λk H=>?_⟩,rfl⟩;have H:=gA.1 H;rw[Eo]at H;unfold oE;rw[GO H];rfl
def ayj(n:h<=500000):gN 1 (mf h):=by
 obtain⟨D,j,E⟩:=(Nn (F:=1)).1 (azc (h:=h));have m:∀l∈mf h,eo 1 l=false:=λl hl=>by simpa using FM.1 D l hl
 have H:uC 1 (mf h):=λl hl hp=>((lQ hp).1 (m l hl)).1.1.1;obtain⟨g1,f⟩:=(GB H).1 j;exact⟨by rw[Eo];omega,⟨g1,f⟩,E,λl hl=>zB (m l hl)⟩
def akj:I (aA (mf h))=2*h:=by rw[Ba,aww]
def alF(f:h<=500000){i:Nat}(H:i<2*h):(aA (mf h)).idxOf i=i:=by rw[Gn (ayj f).ax (GO H) rfl,abf]
def agE(f:h<=500000){e:Nat}(j:e<2*h):aU (mf h) (2*e)=if((e+1)%(2*h))%2=0 then 4*h+2*((e+1)%(2*h))else 4*h+2*(((e+1)%(2*h)+2*h-1)%(2*h))+1:=by
 have H:=cT (e+1) (show 0<2*h by omega);show iY _ _ _=_;unfold iY;rw[Eo,akj,aC J];have E:(2*e%2==0):=aE;simp only[E,if_true,show 2*e/2=e by omega,GO H,alF f H,aew (Nat.le_of_lt H)];generalize(e+1)%(2*h)=m;by_cases c:m%2=0
 .simp[c];omega
 simp[c];omega
def ajP(f:h<=500000){e:Nat}(H:e<2*h):aU (mf h) (2*e+1)=if e%2=0 then 4*h+2*((e+2*h-1)%(2*h))+1 else 4*h+2*e:=by
 show iY _ _ _=_;unfold iY;rw[Eo,akj,aC J];have E:((2*e+1)%2==0)=false:=aE;simp only[E,fE,if_false,show(2*e+1)/2=e by omega,GO H,alF f H,aew (Nat.le_of_lt H)];by_cases c:e%2=0
 .simp[c];omega
 have:(e%2==0)=false:=by simpa using c
 simp[c];omega
end
section
variable {h:Nat}
def akR{e:Nat}(h:e<n):(e+1)%n=if e+1=n then 0 else e+1:=by
 by_cases c:e+1=n
 .rw[aD c,c,w_]
 rw[aC c,eJ J]
def alh{m:Nat}(h:m<n):(m+n-1)%n=if m=0 then n-1 else m-1:=by
 by_cases c:m=0
 .rw[aD c];subst c;rw[jN,eJ J]
 rw[aC c,show m+n-1=(m-1)+n by omega,lg,eJ J]
def kU(f:h<=500000){e:Nat}(H:e<2*h)(c:e%2=0):aU (mf h) (2*e)=4*h+2*e+1:=by rw[agE f H,akR H,aC (by omega:¬e+1=2*h),aC J,alh J,aC J];omega
def v2(f:h<=500000){e:Nat}(H:e<2*h)(c:e%2=1):∃q,q<2*h/\q%2=0/\(e+1<2*h->q=e+1)/\aU (mf h) (2*e)=4*h+2*q:=by
 rw[agE f H,akR H];by_cases d:e+1=2*h
 .rw[aD d];exact⟨0,J,rfl,J,rfl⟩
 rw[aC d,aD J];exact⟨e+1,J,J,λ_=>rfl,rfl⟩
def v3(f:h<=500000){e:Nat}(H:e<2*h)(c:e%2=0):∃q,q<2*h/\q%2=1/\(1<=e->q=e-1)/\aU (mf h) (2*e+1)=4*h+2*q+1:=by
 rw[ajP f H,aD c,alh H];by_cases d:e=0
 .rw[aD d];exact⟨2*h-1,J,J,J,rfl⟩
 rw[aC d];exact⟨e-1,J,J,λ_=>rfl,rfl⟩
def v4(f:h<=500000){e:Nat}(H:e<2*h)(c:e%2=1):aU (mf h) (2*e+1)=4*h+2*e:=by rw[ajP f H,aC J]
end
def ah0(L:aW):I (aY L)=I L:=by simp[aY,xU]
def EZ(l x:aW)(k:Nat):I (dK l x k)=I l+I x:=by grind
section
def ayV{al:cF}{blk:aJ}{id:Nat}{c:bd}(o:u=[]\/al.ok id)(hl:I u<=1000000)(X:∀e∈u,I e=7/\ ∀R∈e,R.norm=R)(h:bh id v 7 u (.one c) blk):
  ∃R A,jQ S 118 [.one c] al blk R A/\Ix id v 7 u c blk R A:=by
 refine oZ awC (ju rfl) ?_;rcases h with⟨rfl,H⟩|⟨L,g,H,hC⟩
 .cases H;have D:IntKind.i64.wrap (((0:Nat):Int)-1)= -1:=aa;have hz:¬((0:Int)< -1):=aa;simp only[go_sem,aaq,D,ai,aB];refine dt (λk f A=>k=0/\f 2=aI 0/\f 3=aI (-1)/\A=blk) 0 0 (cJ _) ?_ ?_
  .simp only[go_sem]
  rintro k f A _ ⟨rfl,H,m,rfl⟩
  simp only[go_sem,S_,H,m,hz,ai,aB];exact⟨rfl,.inl ⟨rfl,rfl⟩,λ_ _=>rfl⟩
 cases H;have o:=o.resolve_left L;have D:=uA (a:=I u) J;simp only[go_sem,aaq,D,ai,aB];refine dt (λk f A=>f 0=.one (.hsl id g 7 0 (I u))/\f 2=aI k/\f 3=aI ((I u:Int)-1-(k:Int))/\ ∃fs,A id=(g,some (.arr v 7 fs))/\vW u fs k/\d_ (· =id) blk A) 0 (I u) (bZ _) ?_ ?_
 .simp only[go_sem];refine⟨rfl,aE,u,hC,vW.start u,d_.refl _ _⟩
 rintro k f A hk ⟨Q,H,m,fs,z,B,O⟩
 by_cases T:k<I u-1-k
 .have e1:((I u:Int)-1-(k:Int))=((I u-1-k:Nat):Int):=J;rw[e1]at m;have x:((k:Int)<((I u-1-k:Nat):Int)):=J;have w1:=cS (n:=k) J;have w2:IntKind.i64.wrap (((I u-1-k:Nat):Int)-1)=((I u:Int)-1-((k+1:Nat):Int)):=by
   rw[uA J];omega
  obtain⟨a,M⟩:=aP (show k<I u by omega);obtain⟨b,F⟩:=aP (show I u-1-k<I u by omega);obtain⟨fa,fb,xZ⟩:=B.step T M F;obtain⟨la,j⟩:=X a (a7 M);obtain⟨lb,N⟩:=X b (a7 F);obtain⟨x0,x1,x2,Y,x4,x5,x6,rfl⟩:=adp la;obtain⟨y0,y1,y2,y3,y4,y5,y6,rfl⟩:=adp lb;have JW:=j x0 aE;have Qv:=j x1 aE;have Zp:=j x2 aE;have Zq:=j Y aE;have Zr:=j x4 aE;have Zs:=j x5 aE;have y:=j x6 aE;have JX:=N y0 aE;have Qw:=N y1 aE;have Zt:=N y2 aE;have Z:=N y3 aE;have Zv:=N y4 aE;have Zw:=N y5 aE;have E:=N y6 aE;have rU:=B.len;have FY:¬(k=I u-1-k):=J;have JQ:¬(I u-1-k=k):=J;have l1:k<I fs:=J;have l2:I u-1-k<I fs:=J;have l3:k<I u:=J
  have l4:I u-1-k<I u:=J;simp only[go_sem,S_,Q,H,m,z,x,fa,fb,w1,w2,o,l1,l2,l3,l4,FY,JQ,JW,Qv,Zp,Zq,Zr,Zs,y,JX,Qw,Zt,Z,Zv,Zw,E,pJ,j7,ai,aB];refine⟨aS,_,rfl,xZ,?_⟩;exact(O.dV rfl _).dV rfl _
 have x:¬((k:Int)<(I u:Int)-1-(k:Int)):=J;simp only[go_sem,S_,Q,H,m,x,ai,aB];refine⟨rfl,?_,O⟩;rw[B.done T]at z;exact .inr ⟨by simpa using L,g,by rw[nr],z⟩
def ak8{Q:iw}{j:bJ}{blk:aJ}{os:fV}{d:eT}{f id z:Nat}{c:bd}(Z:∀ {al:cF}{blk:aJ},u=[]\/al.ok id->bh id v z u (.one c) blk->∃n A,jQ S f [.one c] al blk n A/\Ix id v z u c blk n A)(H:bh id v z u (.one c) blk)
  (y:∀A,bh id v z u.reverse (.one c) A->(∀i,i≠id->A i=blk i)->kG S .all os Q (eQ j d (.tup [])) A):kE S .all (.sc f [.one c]) d os Q j blk:=by
 refine xB (P:=Ix id v z u c blk) Cd (Z ?_ H) ?_
 .rcases Q4 H with⟨h,_⟩|h
  .exact .inl h
  exact .inr (Ep (by simp[h]))
 rintro n A ⟨rfl,x,m⟩
 exact y A x m
abbrev qe(x k:Nat)(sg:Int)(ov:Bool):aN:=⟨⟨2,0,0,((x+k:Nat):Int),sg,ov⟩,false⟩
attribute [local go_sem ↓] F9 EX
abbrev pR(F:Nat)(ls:af)(d:Nat):Nat:=(kX F ls).getD d 0
abbrev j5(x:Nat)(sg:Int)(o:Bool):aW:=[qe x 1 sg o,qe x 2 (-sg) o]
abbrev j9(x:Nat)(sg:Int)(o same:Bool):aW:=if same then [qe x 2 (-sg) (!o),qe x 1 sg (!o)]else [qe x 1 sg (!o),qe x 2 (-sg) (!o)]
def uS(f:af)(j m:Nat)(l o n other:Bool):Option aW:=
 if !n&& !other then none
 else
  let sg:Int:=if o==(n==l)then 1 else -1
  let first:=j5 (aq U.ak f/2) sg o
  let h:=j9 (aq U.ak f/2) sg o n
  some (if j<m then dK (dK (an f) h m) first j else dK (dK (an f) first j) h m)
def s3(F:Nat)(f:af)(j m:Nat)(l o:Bool):Option aW:=
 if l then uS f j m l o ((pR F f (2*m):Int)==(pR F f (2*j):Int)) ((pR F f (2*m+1):Int)==(pR F f (2*j):Int))
 else uS f j m l o ((pR F f (2*m+1):Int)==(pR F f (2*j+1):Int)) ((pR F f (2*m):Int)==(pR F f (2*j+1):Int))
def Rn{d:Nat}(h:d<2*I f):(kX F f)[d]?=some (pR F f d):=by obtain⟨j,H⟩:=aP (h:=kX F f) (k:=d) (by rw[GA];exact h);rw[pR,dD,H];rfl
def asn(g:bj F f)(ha:j<I f)(hb:m<I f)(dp:j≠m){k c:Int}{l o:Bool}{sg:Int}:
  aL S 75 [.one (.p (eK F f)),jL k j m c l o sg] (uU (s3 F f j m l o)):=by
 have a5:=g.len;have eS:=g.cr;have aX:=bY f;have qt:=GA F f;have az:=rQ (a:=j) J;have a3:=rQ (a:=m) J;have aO:IntKind.i64.wrap (((2*j:Nat):Int)+0)=((2*j:Nat):Int):=(nj (x:=((2*j:Nat):Int)+0) J J).trans J;have a0:=cS (n:=2*j) J;have ap:IntKind.i64.wrap (((2*m:Nat):Int)+0)=((2*m:Nat):Int):=(nj (x:=((2*m:Nat):Int)+0) J J).trans J;have am:=cS (n:=2*m) J;have aM:IntKind.i64.wrap (((2*m+1:Nat):Int)-0)=((2*m+1:Nat):Int):=(nj (x:=((2*m+1:Nat):Int)-0) J J).trans J;have ao:IntKind.i64.wrap (((2*m+1:Nat):Int)-1)=((2*m:Nat):Int):=(nj (x:=((2*m+1:Nat):Int)-1) J J).trans J;have ag:2*j<I (kX F f):=J;have a1:2*j+1<I (kX F f):=J
 have aj:2*m<I (kX F f):=J;have ar:2*m+1<I (kX F f):=J;have aF:=jy (Rn (F:=F) (f:=f) (d:=2*j) J);have a2:=jy (Rn (F:=F) (f:=f) (d:=2*j+1) J);have ad:=jy (Rn (F:=F) (f:=f) (d:=2*m) J);have aH:=jy (Rn (F:=F) (f:=f) (d:=2*m+1) J);have ie:S.shared 118:=ah;have NB:=λ(t:Int) ov a b c d e=>Tk F (aq U.ak f/2) t ov a b c d e 1 J J;have NC:=λ(t:Int) ov a b c d e=>Tk F (aq U.ak f/2) t ov a b c d e 2 J J;simp only[show((1:Nat):Int)=1 from rfl,show((2:Nat):Int)=2 from rfl]at NB NC;have ac:IntKind.i64.wrap (0-1)= -1:=aa;have Q:IntKind.i64.wrap (0 - -1)=1:=aa
 have wU:∀blk:aJ,∀s,∀x1 x2 x3 x4 x5 x6 x7:PV,fR blk [] s ((RV.agg [.p x1,.p x2,.p x3,.p x4,.p x5,.p x6,.p x7]).iA (S.lone s))=some (.agg [.p x1,.p x2,.p x3,.p x4,.p x5,.p x6,.p x7],[]):=λblk s x1 x2 x3 x4 x5 x6 x7=>by cases S.lone s<;>rfl
 have D:=And.intro aO (And.intro a0 (And.intro ap (And.intro am (And.intro aM (And.intro ao (And.intro az (And.intro a3 (And.intro ag (And.intro a1 (And.intro aj (And.intro ar (And.intro aF (And.intro a2 (And.intro ad aH))))))))))))));unfold s3;refine cG asc ?_
 let X:=λy t=>j9 (aq U.ak f/2) (if o==(y==l)then 1 else -1) o t
 let Y:=λy=>j5 (aq U.ak f/2) (if o==(y==l)then 1 else -1) o
 have hX:∀s t,I (X s t)=2:=λs t=>by simp only[X,j9];split<;>rfl
 by_cases Co:j<m
 case' pos=>
  have O:(j:Int)<m:=J
  let A:=λy=>X y y
  let B:=Y
  have M:∀s,I (A s)=2/\I (B s)=2:=λs=>⟨hX s s,rfl⟩
  let i:=m
  let a4:=j
  have hi:i<I f/\a4<I f:=⟨hb,ha⟩
 case' neg=>
  have O:¬(j:Int)<m:=J
  let A:=Y
  let B:=λy=>X y y
  have M:∀s,I (A s)=2/\I (B s)=2:=λs=>⟨rfl,hX s s⟩
  let i:=j
  let a4:=m
  have hi:i<I f/\a4<I f:=⟨ha,hb⟩
 all_goals cases l
 case' pos.false|neg.false=>generalize pR F f (2*j+1)=p at*;generalize pR F f (2*m+1)=q at*;generalize pR F f (2*m)=r at*
 case' pos.true|neg.true=>generalize pR F f (2*j)=p at*;generalize pR F f (2*m)=q at*;generalize pR F f (2*m+1)=r at*
 all_goals cases o
 all_goals
  simp only[go_sem,ac4,D];refine⟨aS,aS,?_⟩;refine CO [0,3,4,5,6,7,8,9,40] λe1 H=>?_;simp only[go_sem]at H;cases ae:((q:Int)==(p:Int))
  .cases ho:((r:Int)==(p:Int))
   .simp only[go_sem,D,H,ae,ho,bne];first|rfl|exact aS|exact⟨aS,rfl⟩|exact⟨aS,aS,rfl⟩
   simp only[go_sem,D,H,ae,ho,bne,uS,Co];refine⟨aS,?_⟩;simp only[go_sem,D,H,ae,VV,oT (NB _ _ _ _ _ _ _) (wU _ _ _ _ _ _ _ _ _),oT (NC _ _ _ _ _ _ _) (wU _ _ _ _ _ _ _ _ _),ac,Q,O,ie,Gt];refine⟨aS,aS,?_⟩;refine Kx (GI (an f) (A false) i J J (by have:=M false;omega)) ah (.inr (r9 (yK _))) λc1 de kU g1 N BN=>?_;obtain⟨r1,ZH,kN⟩:=g1.jl;have T:=N 4800000000 aa;have Z:=N 4800640704 aa;have R:=N 4800704832 aa;simp only[go_sem,H]at T Z R;simp only[go_sem,D,H,ae,T,Z,R,ZH,O,Gt];refine Kx (GI (dK (an f) (A false) i) (B false) a4 (by rw[EZ];omega) (by rw[EZ];have:=M false;omega) (by have:=M false;omega)) ah (.inr (r9 (yK _))) λc2 bK v2 g2 cV qW=>?_
   simp only[go_sem];refine⟨?_,uc g2⟩;rcases kN with rfl|rfl<;>rcases BN with rfl|rfl<;>rcases qW with rfl|rfl<;>kernel_rfl
  simp only[go_sem,D,H,ae,uS,Co];refine⟨aS,?_⟩;simp only[go_sem,D,H,ae,VV,oT (NB _ _ _ _ _ _ _) (wU _ _ _ _ _ _ _ _ _),oT (NC _ _ _ _ _ _ _) (wU _ _ _ _ _ _ _ _ _),ac,Q,O,ie,Gt];refine⟨aS,aS,?_⟩;refine ak8 (f:=118) (u:=dP (X true false)) (id:=4800704832) (v:=mI) (z:=7) (λo h=>ayV o (by rw[show(dP (X true false)).length=2 from rfl];omega) (avb _) h) (.inr ⟨nofun,_,rfl,by simp only[bG,Nat.reduceEqDiff,if_true,if_false];rfl⟩) λa6 gR ab=>?_;have L:=ab 4800000000 aa;have E:=ab 4800640704 aa;simp only[go_sem,H]at L E;rcases gR with⟨e,_⟩|⟨_,gg,e,BC⟩
  .cases e
  cases e;simp only[X,aN.ps,eZ,m_]at BC;simp only[go_sem,D,H,ae,L,E,BC,O,Gt,nr];refine Kx (GI (an f) (A true) i J J (by have:=M true;omega)) ah (.inr (r9 (yK _))) λc1 de kU g1 N BN=>?_;obtain⟨r1,ZH,kN⟩:=g1.jl;have T:=N 4800000000 aa;have Z:=N 4800640704 aa;have R:=N 4800704832 aa;simp only[go_sem,H,L,E,BC]at T Z R;simp only[go_sem,D,H,ae,T,Z,R,ZH,O,Gt];refine Kx (GI (dK (an f) (A true) i) (B true) a4 (by rw[EZ];omega) (by rw[EZ];have:=M true;omega) (by have:=M true;omega)) ah (.inr (r9 (yK _))) λc2 bK v2 g2 cV qW=>?_;simp only[go_sem];refine⟨?_,uc g2⟩;rcases kN with rfl|rfl<;>rcases BN with rfl|rfl<;>rcases qW with rfl|rfl<;>kernel_rfl
end
def amE{e:dW}(h:I e=6):∃x X j f x4 m,e=[x,X,j,f,x4,m]:=by
 match e,h with
 |[x,X,j,f,x4,m],_=>exact⟨_,_,_,_,_,_,rfl⟩
def ap3{al:cF}{blk:aJ}{id:Nat}{c:bd}(o:u=[]\/al.ok id)(hl:I u<=1000000)(R:∀e∈u,I e=6/\ ∀O∈e,O.norm=O)(h:bh id v 6 u (.one c) blk):
  ∃O A,jQ S 150 [.one c] al blk O A/\Ix id v 6 u c blk O A:=by
 refine oZ aeZ (ju rfl) ?_;rcases h with⟨rfl,H⟩|⟨E,g,H,hC⟩
 .cases H;have B:IntKind.i64.wrap (((0:Nat):Int)-1)= -1:=aa;have hz:¬((0:Int)< -1):=aa;simp only[go_sem,SK,B,ai,aB];refine dt (λk f A=>k=0/\f 2=aI 0/\f 3=aI (-1)/\A=blk) 0 0 (cJ _) ?_ ?_
  .simp only[go_sem]
  rintro k f A _ ⟨rfl,H,m,rfl⟩
  simp only[go_sem,NZ,H,m,hz,ai,aB];exact⟨rfl,.inl ⟨rfl,rfl⟩,λ_ _=>rfl⟩
 cases H;have o:=o.resolve_left E;have B:=uA (a:=I u) J;simp only[go_sem,SK,B,ai,aB];refine dt (λk f A=>f 0=.one (.hsl id g 6 0 (I u))/\f 2=aI k/\f 3=aI ((I u:Int)-1-(k:Int))/\ ∃fs,A id=(g,some (.arr v 6 fs))/\vW u fs k/\d_ (· =id) blk A) 0 (I u) (bZ _) ?_ ?_
 .simp only[go_sem];refine⟨rfl,aE,u,hC,vW.start u,d_.refl _ _⟩
 rintro k f A hk ⟨M,H,m,fs,y,z,L⟩
 by_cases Q:k<I u-1-k
 .have e1:((I u:Int)-1-(k:Int))=((I u-1-k:Nat):Int):=J;rw[e1]at m;have x:((k:Int)<((I u-1-k:Nat):Int)):=J;have w1:=cS (n:=k) J;have w2:IntKind.i64.wrap (((I u-1-k:Nat):Int)-1)=((I u:Int)-1-((k+1:Nat):Int)):=by
   rw[uA J];omega
  obtain⟨a,F⟩:=aP (show k<I u by omega);obtain⟨b,D⟩:=aP (show I u-1-k<I u by omega);obtain⟨fa,fb,xZ⟩:=z.step Q F D;obtain⟨la,j⟩:=R a (a7 F);obtain⟨lb,N⟩:=R b (a7 D);obtain⟨x0,x1,x2,X,x4,x5,rfl⟩:=amE la;obtain⟨y0,y1,y2,Y,y4,y5,rfl⟩:=amE lb;have T:=j x0 aE;have Qv:=j x1 aE;have Zp:=j x2 aE;have Zq:=j X aE;have Zr:=j x4 aE;have Zs:=j x5 aE;have JX:=N y0 aE;have Qw:=N y1 aE;have Zt:=N y2 aE;have Z:=N Y aE;have Zv:=N y4 aE;have Zw:=N y5 aE;have rU:=z.len;have FY:¬(k=I u-1-k):=J;have JQ:¬(I u-1-k=k):=J;have l1:k<I fs:=J;have l2:I u-1-k<I fs:=J;have l3:k<I u:=J;have l4:I u-1-k<I u:=J
  simp only[go_sem,NZ,M,H,m,y,x,fa,fb,w1,w2,o,l1,l2,l3,l4,FY,JQ,T,Qv,Zp,Zq,Zr,Zs,JX,Qw,Zt,Z,Zv,Zw,pJ,j7,ai,aB];refine⟨aS,_,rfl,xZ,?_⟩;exact(L.dV rfl _).dV rfl _
 have x:¬((k:Int)<(I u:Int)-1-(k:Int)):=J;simp only[go_sem,NZ,M,H,m,x,ai,aB];refine⟨rfl,?_,L⟩;rw[z.done Q]at y;exact .inr ⟨by simpa using E,g,by rw[nr],y⟩
def ayS(l:af):∀e∈cX l,I e=6/\ ∀v∈e,v.norm=v:=λe H=>by obtain⟨x,_,rfl⟩:=ch.1 H;refine⟨rfl,λv h=>?_⟩;simp only[U.ps,c7,eD,or_false]at h;rcases h with rfl|rfl|rfl|rfl|rfl|rfl<;>rfl
def aps(l:af):(cX l).reverse=cX l.reverse:=aE
def abX{s:Nat}(h:s/64000000=89):S.lone s:=by show HY aej (s/64000000)=true;rw[h];kernel_rfl
def HI{blk:aJ}{s:Nat}{L:af}(A:L≠[])(ae:S.lone s):fR blk [] s ((RV.one (cU ml 6 (cX L))).iA (S.lone s))=some (.one (.p (gC L)),[]):=by rw[ae,amx (avr A)];unfold fR;rw[aD (.inl rfl)];rfl

abbrev yG:Prop:=aL S 30 [.one (.p (.sl []))] (.one (.p (.sl [])))
def asj{al:cF}{blk:aJ}:∃v A,jQ S 150 [.one (.p (.sl []))] al blk v A/\(v=.tup []/\A=blk):=by
 refine oZ aeZ (ju rfl) ?_;have j:IntKind.i64.wrap (((0:Nat):Int)-1)= -1:=aa;have m:¬((0:Int)< -1):=aa;simp only[go_sem,SK,j,ai,aB];refine dt (λk f A=>k=0/\f 2=aI 0/\f 3=aI (-1)/\A=blk) 0 0 (cJ _) ?_ ?_
 .simp only[go_sem]
 rintro k f A _ ⟨rfl,h,H,rfl⟩
 simp only[go_sem,NZ,h,H,m,ai,aB]
def W6{blk:aJ}{s:Nat}{x:PV}{l:Bool}:fR blk [] s ((RV.one (.p x)).iA l)=some (.one (.p x),[]):=by cases l<;>rfl
def aAL(D:yG)(F:Int):aL S 124 [.one (.p (BW F))] (.one (.p (.sl []))):=by
 refine cG aiz ?_;simp only[go_sem,acD,M9,cE D W6,acW];refine xB (P:=λv f=>v=.tup []/\f=Bc) Cd asj ?_;rintro v f ⟨rfl,rfl⟩
 simp only[go_sem];refine dt (λk A blk=>k=0/\A 3=.one (.p (.sl []))/\A 15=aI 0/\A 16=aI 0) 0 0 (cJ _) ?_ ?_
 .simp only[go_sem];rfl
 rintro k A blk _ ⟨rfl,H,h,j⟩
 have m:¬((0:Int)<0):=aa;simp only[go_sem,Jh,W4,H,h,j,m]
def awD(X:yG)(F:Int):aL S 89 [.one (.p (BW F))] (.agg [.p (.int .i64 F),.p .nils]):=by
 have pb:=aAL X F;refine cG af8 ?_;simp only[go_sem,ab3,aki,oT pb W6,ai,aB];refine⟨aS,?_⟩;refine dt (λk A blk=>A 0=.one (.p (BW F))/\A 2=.one (.bR 5696000000 1 0)/\A 17=.one (.hsl 5696128448 1 1 0 2)/\A 18=aI 2/\A 19=aI k/\A 3=.one (.p .nils)/\
  blk 5696000000=(1,some (.var [.p (.int .i64 0),.p .nils]))/\blk 5696128448=(1,some (.arr 22 1 [[.sl []],[.sl []]]))) 0 2 (bZ _) ?_ ?_
 .simp only[go_sem,ai,aB];first|done|rfl|exact⟨rfl,rfl⟩
 rintro k A blk hk ⟨m,H,v,u,L,x,M,bB⟩
 by_cases Y:k<2
 .have Z:k=0\/k=1:=J;have D:((0:Nat):Int)<2:=aa;have z:((1:Nat):Int)<2:=aa;have T:¬((0:Int)<0):=aa;rcases Z with rfl|rfl
  .simp only[go_sem,Ij,m,H,x,v,u,L,bB,D,ai,aB];refine dt (λi f n=>i=0/\n=blk/\f 0=A 0/\f 2=A 2/\f 17=A 17/\f 18=A 18/\f 19=A 19/\f 3=A 3/\f 24=aI 0/\f 25=aI 0) 0 0 (cJ _) ?_ ?_
   .simp only[go_sem,ai,aB];first|done|rfl|exact⟨rfl,rfl⟩
   rintro i f n _ ⟨rfl,rfl,y,O,N,Q,h,R,E,j⟩
   simp only[go_sem,Cb,L9,y,O,N,Q,h,R,E,j,m,H,x,v,u,L,M,bB,T,ai,aB];first|done|rfl|exact⟨rfl,rfl⟩
  simp only[go_sem,Ij,m,H,x,v,u,L,bB,z,ai,aB];refine dt (λi f n=>i=0/\n=blk/\f 0=A 0/\f 2=A 2/\f 17=A 17/\f 18=A 18/\f 19=A 19/\f 3=A 3/\f 24=aI 0/\f 25=aI 0) 0 0 (cJ _) ?_ ?_
  .simp only[go_sem,ai,aB];first|done|rfl|exact⟨rfl,rfl⟩
  rintro i f n _ ⟨rfl,rfl,y,O,N,Q,h,R,E,j⟩
  simp only[go_sem,Cb,L9,y,O,N,Q,h,R,E,j,m,H,x,v,u,L,M,bB,T,ai,aB];first|done|rfl|exact⟨rfl,rfl⟩
 have:k=2:=J;subst this;have B:¬(((2:Nat):Int)<2):=aa;simp only[go_sem,Ij,aaS,m,H,x,v,u,L,M,B,ai,aB];first|done|rfl|exact⟨rfl,rfl⟩
end
end Go.Abs
