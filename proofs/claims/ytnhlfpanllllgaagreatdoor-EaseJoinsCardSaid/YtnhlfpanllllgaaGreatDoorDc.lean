/- A part. -/
import Derived.Test.YtnhlfpanllllgaaGreatDoorDa
set_option linter.all false
open List renaming length->I
set_option maxRecDepth 100000
set_option maxHeartbeats 16000000
namespace Go.Abs
variable{L:ae}{D:eH}{g H M:Int}{E N O f x u:Nat}{B:cV}
section
variable{h:ae}{F j:Nat}
abbrev Ei(idL fh idD gD:Nat)(n m:Nat):V:=.agg [.hsl idL fh 6 0 n,.hsl idD gD 1 0 m]
def aat{aj:aB}{m fh y A n M:Nat}(h:aj m=(fh,some (.arr fI 6 (bQ L))))(H:aj y=(A,some (.arr 4 1 (eC D)))):jA aj (Ei m fh y A n M)=[m,y]:=by have a:jA aj (.one (.hsl m fh 6 0 n))=[m]:=KH h;have b:jA aj (.one (.hsl y A 1 0 M))=[y]:=KH H;simp only[jA]at a b |-;simp[a,b]
def anm:S.sites 101=[101]:=ah
def apL:S.sites 105=[105]:=ah
def aii:S.sites 104=[104]:=ah
def ats{al:cG}{aj:aB}{f:Abs.c6}{g:V}(O:al.ok 6720000000):
  ∃v A,je S 105 [.agg [.p .nils,f],g] al aj v A/\v=.tup []/\dG (· =6720000000) aj A:=by
 refine nc amx (jn rfl) ?_;simp only[go_sem,adV,O,af,au];refine mx ?_;have h:decide ((0:Int)<((0:Nat):Int))=false:=rfl;simp only[go_sem,Su,O,h,af,au];exact dG.dE (dG.refl (λi=>i=6720000000) aj) rfl _
section
variable {Q:fM} {os all:eZ} {d:eh} {z:bn} {aj:aB} {tr:fU} {m fh y A:Nat} {L:ae} {D:eH}
def ayD(N:m≠6464000000)(hl:I L<=1000000)(j:∀x∈L,IntKind.i64.wrap (x.ay-M)=x.ay-M)(h:aj m=(fh,some (.arr fI 6 (bQ L))))(O:aj y=(A,some (.arr 4 1 (eC D))))
  (F:∀f,f m=(fh,some (.arr fI 6 (bQ (L.map (rM g H M)))))->(∀i,i≠m->i≠6464000000->f i=aj i)->iH S .all os Q (dF z d (.tup [])) f):
  iU S .all (.sc 101 [Ei m fh y A (I L) (I D),aC g,aC H,aC M]) d os Q z aj:=by
 have B:=aat (n:=I L) (M:=I D) h O;refine qq (P:=Ug m fh 6464000000 (L.map (rM g H M)) aj) uR (aFS (qf ?_) (sP (by rw[anm];decide)) N hl h j) ?_
 .simp only[eR,lI,B];simp
 rintro v f ⟨rfl,E,u⟩
 exact F f E λi a b=>u i (by simp[a,b])
def auT{c:Abs.c6}(h:∀A,(∀i,i≠6464000000->A i=aj i)->iH S .all os Q (dF z d (.tup [])) A):
  iU S .all (.sc 101 [.agg [.p .nils,c],aC g,aC H,aC M]) d os Q z aj:=by
 refine qq (P:=λv A=>v=.tup []/\dG (· =6464000000) aj A) uR (aAh (sP (by rw[anm];decide))) ?_;rintro v A ⟨rfl,f⟩
 exact h A λi a=>f i a
def afd(n2:m≠6720000000)(M:E≠6720000000)(X:m≠E)(hl:I L<=1000000)(R:I B<=1000000)(u:∀x∈L,∀k:Nat,k<=I B->IntKind.i64.wrap (x.id-(k:Int))=x.id-k)(j:aj m=(fh,some (.arr fI 6 (bQ L))))(T:aj y=(A,some (.arr 4 1 (eC D))))(H:aj E=(N,some (.arr O 1 (dR B))))
  (Z:∀f,f m=(fh,some (.arr fI 6 (bQ (L.map (nU B)))))->(∀i,i≠m->i≠6720000000->f i=aj i)->iH S .all os Q (dF z d (.tup [])) f):
  iU S .all (.sc 105 [Ei m fh y A (I L) (I D),.one (.hsl E N 1 0 (I B))]) d os Q z aj:=by
 have h:=aat (n:=I L) (M:=I D) j T;have g:jA aj (.one (.hsl E N 1 0 (I B)))=[E]:=KH H;refine qq (P:=Ug m fh 6720000000 (L.map (nU B)) aj) uR (awp (qf ?_) (qf ?_) (sP (by rw[apL];decide)) n2 M X hl R j H u) ?_
 .simp only[eR,lI,h,g];simp
 .simp only[eR,lI,h,g];simp
 rintro v f ⟨rfl,Y,F⟩
 exact Z f Y λi a b=>F i (by simp[a,b])
def apS{c:Abs.c6}(f:aj E=(N,some (.arr O 1 (dR B))))(H:∀A,(∀i,i≠6720000000->A i=aj i)->iH S .all os Q (dF z d (.tup [])) A):
  iU S .all (.sc 105 [.agg [.p .nils,c],.one (.hsl E N 1 0 (I B))]) d os Q z aj:=by
 refine qq (P:=λv A=>v=.tup []/\dG (· =6720000000) aj A) uR (ats (sP (by rw[apL];decide))) ?_;rintro v A ⟨rfl,h⟩
 exact H A λi a=>h i a
def atZ{al:cG}{g:dN}{P:V->aB->Prop}(j:al.holds (f_ (S.ctx al) f g aj))(h:∃v A,je S f g (f_ (S.ctx al) f g aj) aj v A/\P v A)
  (m:∀v A,P v A->n9 S al all os Q (dF z d v) A (tr++[⟨(f_ (S.ctx al) f g aj).ids,(f_ (S.ctx al) f g aj).ids,(f_ (S.ctx al) f g aj).fs⟩])):pM S al (.sc f g) d all os Q z aj tr:=by
 obtain⟨v,A,u,H⟩:=h;exact⟨j,v,A,u,m v A H⟩
def au0{i j:Nat}{x Y:aa}{c e:Bool}(Z:m≠y)(n2:m≠6656000000)(O:y≠6656000000)(g:aj m=(fh,some (.arr fI 6 (bQ L))))(H:aj y=(A,some (.arr 4 1 (eC D))))(u:I D=I L)(T:L[i]?=some x)(M:L[j]?=some Y)(hc:D[i]?=some c)(X:D[j]?=some e)(F:i≠j)
  (hK:∀f,f m=(fh,some (.arr fI 6 (bQ (D2 L i j x Y))))->f y=(A,some (.arr 4 1 (eC (D2 D i j c e))))->(∀q,q≠m->q≠y->q≠6656000000->f q=aj q)->n9 S .all all os Q (dF z d (.tup [])) f (tr++[⟨[m,y],[m,y],[104]⟩])):
  pM S .all (.sc 104 [Ei m fh y A (I L) (I D),aC i,aC j]) d all os Q z aj tr:=by
 have h:=aat (n:=I L) (M:=I D) g H;have R:(f_ (S.ctx .all) 104 [Ei m fh y A (I L) (I D),aC i,aC j] aj).ids=[m,y]:=by show(([Ei m fh y A (I L) (I D),aC i,aC j]:dN).map (jA aj)).flatten=_;simp only[eR,lI,h];rfl
 have B:(f_ (S.ctx .all) 104 [Ei m fh y A (I L) (I D),aC i,aC j] aj).fs=[104]:=aii;refine atZ (P:=amE m fh y A 6656000000 (D2 L i j x Y) (D2 D i j c e) aj) uR (aGS (qf ?_) (qf ?_) (sP (by rw[aii];decide)) Z n2 O g H u T M hc X F) ?_
 .simp only[eR,lI,h];simp
 .simp only[eR,lI,h];simp
 rintro v f ⟨rfl,h1,E,N⟩
 rw[R,B];exact hK f h1 E λq a b c=>N q (by simp[a,b,c])
end
abbrev wY(F:Nat)(L:ae)(D:eH):RV:=.agg [.p (.int .i64 F),aX fI 6 (bQ (nM L D))]
def aeu{α β:Type}(l:List α)(m:List β)(out:aG)(z:I m=I l):I (jB m out)=I (jB l out):=by
 suffices g:∀k,k<=I l->I (u5 m out k)=I (u5 l out k) by
  have:=g (I l) (cT _)
  simpa only[jB,z]using this
 intro k
 induction k with
 |zero=>intro _;rfl
 |succ k f=>
  intro g;have f:=f J;by_cases H:k∈out
  .rw[UU H,UU H,f]
  obtain⟨x,u⟩:=aR (L:=l) (k:=k) J;obtain⟨y,j⟩:=aR (L:=m) (k:=k) J;rw[SP H u,SP H j];simp[f]
def Xe{α:Type}(l:List α)(out:aG):I (jB l out)<=I l:=ab2 _ _ _
def Q4{α:Type}{l:List α}{out:aG}{x:α}(h:x∈jB l out):x∈l:=by
 obtain⟨k,_,H⟩:=Ae.1 h;unfold Ev at H;split at H
 .cases H
 exact ch H
def td(F:Nat)(h:ae):(mv (eD F h)).take (I (eD F h))=mv (eD F h):=e_ aQ
def abz:CL [] []=.agg [.p .nils,.p .nils]:=by simp[CL,aX]
def aGq(g:cK F h)(k:Nat)(b c:Int)(l o:Bool)(sg:Int){x:aa}(hx:h[k]?=some x)(hl:I h<=400)(N:∀x∈h,∀k:Nat,k<=4->IntKind.i64.wrap (x.id-(k:Int))=x.id-k):
  aJ S 60 [df F h,gP 4 k b c l o sg] (wY F ((jB h [k,aK h k]).map (nU [x.id])) (jB (lC h) [k,aK h k])):=by
 have m:=(cD.1 hx).1;have j:=K4 g;have A:=O1 (F:Int) h J;have l1:S.lone 3840064064=false:=ah;have l2:S.lone 3840128064=false:=ah;have Z:S.lone 3843136128=false:=ah;rw[vq (Lh g)]at j;have R:=FZ g.ne (vE h);simp only[CL]at R;rw[R]at A;have T:=An (F:=F) m J;have pw:=adq h (lC h) [k,aK h k] J (vE h) aQ;have M:=aeu h (lC h) [k,aK h k] (vE h);have ac:=Xe h [k,aK h k];have Pe:∀y∈jB h [k,aK h k],y∈h:=λy ad=>Q4 ad;have Y:S.lone 3841536512=false:=ah;have O:=fP hx;have e1:cg [k,aK h k]=[[.int .i64 k],[.int .i64 ((k+1)%I h:Nat)]]:=rfl;rw[e1]at pw;generalize hL:jB h [k,aK h k]=bP at*;generalize hD:jB (lC h) [k,aK h k]=V at*;by_cases E:bP=[]
 .subst E;have hV:V=[]:=uE.1 M;subst hV;rw[abz]at pw;have f:aJ S 108 [.agg [.p (.sl []),.p (.sl [])],df F h] (.agg [.p (.int .i64 F),.p .nils]):=Fz (F:Int) h [] [] aQ rfl;have e0:bQ (nM [] [])=[]:=rfl;simp only[wY,jS,e0];rw[aeI];refine bt Ew ?_;simp only[go_sem,Ea,D7,ll j l1 (.inl rfl),af,au];simp only[go_sem,FD,ll A l2 (.inl rfl),qS,vu,td,xh,ek T,O,aa.ps,m,K5,Iz pw Y (.inr rfl),R_,af,au];refine⟨aI,?_⟩;refine apS (B:=[x.id]) (by simp only[go_sem];rfl) λbY H=>?_;have Q:=H 3840000000 U;have u:=H 3840000128 U;have z:=H 3840128128 U;simp only[go_sem]at Q u z;simp only[go_sem,Q,u,z,qS,vu,td,DM,FU,ll f Z (.inr rfl),af,au];try rfl
 rw[FZ E M]at pw;have dh:I (nM (bP.map (nU [x.id])) V)=I bP:=by rw[MO,cH]
 have f:=Fz (F:Int) h (bP.map (nU [x.id])) V (by simp only[cH];omega) (by rw[cH];exact M);have km:nM (bP.map (nU [x.id])) V≠[]:=λe=>E (uE.1 (by rw[<-dh,e];rfl));simp only[wY];rw[vq (Gs km)]at f |-;refine bt Ew ?_;simp only[go_sem,Ea,D7,ll j l1 (.inl rfl),af,au];simp only[go_sem,FD,ll A l2 (.inl rfl),qS,vu,td,xh,ek T,O,aa.ps,m,K5,Iz pw Y (.inr (Wx _ _)),R_,af,au];refine⟨aI,?_⟩;refine afd (L:=bP) (D:=V) (B:=[x.id]) U U U J aQ (λy hy k m=>N y (Pe y hy) k (by simp at m;omega)) (by simp only[go_sem]) (by simp only[go_sem]) (by simp only[go_sem];rfl) λbY h1 H=>?_
 have Q:=H 3840000000 U U;have u:=H 3840000128 U U;have z:=H 3840128128 U U;have X:=H 3841536513 U U;simp only[go_sem]at Q u z X;generalize Pd:bP.map (nU [x.id])=W2 at*;have tk:I bP=I W2:=by rw[<-Pd,cH]
 simp only[go_sem,h1,tk,Q,u,z,X,qS,vu,td,DM,FU,ll f Z (.inr (O8 _ _)),af,au];simp[gr,nx,k5,kj,gR,aT,lG,pB,nD,qz,qS]
def azP(g:cK F h)(k:Nat)(b c:Int)(l o:Bool)(sg:Int)(z:k<I h)(hl:I h<=400)(lk:∀x∈h,IntKind.i64.wrap (x.ay-2)=x.ay-2):
  aJ S 60 [df F h,gP 1 k b c l o sg] (wY F ((jB h [k,aK h k]).map (rM (aZ h k).gate (if(aZ h (aK h k)).ay<(aZ h k).ay then(aZ h (aK h k)).ay else(aZ h k).ay) 2)) (jB (lC h) [k,aK h k])):=by
 have j:=K4 g;have A:=O1 (F:Int) h J;have l1:S.lone 3840064064=false:=ah;have l2:S.lone 3840128064=false:=ah;have Z:S.lone 3843136128=false:=ah;rw[vq (Lh g)]at j;have M:=FZ g.ne (vE h);simp only[CL]at M;rw[M]at A;have N:=An (F:=F) z J;have pw:=adq h (lC h) [k,aK h k] J (vE h) aQ;have E:=aeu h (lC h) [k,aK h k] (vE h);have ac:=Xe h [k,aK h k];have Pe:∀y∈jB h [k,aK h k],y∈h:=λy ad=>Q4 ad;have T:S.lone 3840384512=false:=ah;have pb:=Mp (F:=F) z J;have O:S.lone 3840320192=false:=ah
 have e1:cg [k,aK h k]=[[.int .i64 k],[.int .i64 ((k+1)%I h:Nat)]]:=rfl;rw[e1]at pw;generalize hL:jB h [k,aK h k]=bP at*;generalize hD:jB (lC h) [k,aK h k]=V at*;generalize aZ h k=X at*;generalize aZ h (aK h k)=Y at*;by_cases B:bP=[]
 .subst B;have hV:V=[]:=uE.1 E;subst hV;rw[abz]at pw;have f:aJ S 108 [.agg [.p (.sl []),.p (.sl [])],df F h] (.agg [.p (.int .i64 F),.p .nils]):=Fz (F:Int) h [] [] aQ rfl;have e0:bQ (nM [] [])=[]:=rfl;simp only[wY,jS,e0];rw[aeI];refine bt Ew ?_;simp only[go_sem,Ea,D7,ll j l1 (.inl rfl),af,au];simp only[go_sem,FD,ll A l2 (.inl rfl),qS,vu,td,xh,ek N,aa.ps,z,AP,ll pb O (.inr rfl),K5,Iz pw T (.inr rfl),afs,af,au];refine⟨aI,?_⟩;refine auT λbY H=>?_;have Q:=H 3840000000 U;have m:=H 3840000128 U;have u:=H 3840128128 U;simp only[go_sem]at Q m u;simp only[go_sem,Q,m,u,qS,vu,td,DM,FU,ll f Z (.inr rfl),af,au];try rfl
 rw[FZ B E]at pw;have dh:I (nM (bP.map (rM X.gate (if Y.ay<X.ay then Y.ay else X.ay) 2)) V)=I bP:=by rw[MO,cH]
 have f:=Fz (F:Int) h (bP.map (rM X.gate (if Y.ay<X.ay then Y.ay else X.ay) 2)) V (by simp only[cH];omega) (by rw[cH];exact E);have km:nM (bP.map (rM X.gate (if Y.ay<X.ay then Y.ay else X.ay) 2)) V≠[]:=λe=>B (uE.1 (by rw[<-dh,e];rfl));simp only[wY];rw[vq (Gs km)]at f |-;refine bt Ew ?_;simp only[go_sem,Ea,D7,ll j l1 (.inl rfl),af,au];simp only[go_sem,FD,ll A l2 (.inl rfl),qS,vu,td,xh,ek N,aa.ps,z,AP,ll pb O (.inr rfl),K5,Iz pw T (.inr (Wx _ _)),afs,af,au];refine⟨aI,?_⟩;refine ayD (L:=bP) (D:=V) U J (λy hy=>lk y (Pe y hy)) (by simp only[go_sem]) (by simp only[go_sem]) λbY h1 H=>?_
 have Q:=H 3840000000 U U;have m:=H 3840000128 U U;have u:=H 3840128128 U U;have R:=H 3840384513 U U;simp only[go_sem]at Q m u R;generalize Pd:bP.map (rM X.gate (if Y.ay<X.ay then Y.ay else X.ay) 2)=W2 at*;have tk:I bP=I W2:=by rw[<-Pd,cH]
 simp only[go_sem,h1,tk,Q,m,u,R,qS,vu,td,DM,FU,ll f Z (.inr (O8 _ _)),af,au];simp[gr,nx,k5,kj,gR,aT,lG,pB,nD,qz,qS]
def arj(g:cK F h)(k j:Nat)(c:Int)(l o:Bool)(sg:Int)(u:k<I h)(hj:j<I h)(hl:I h<=400)(O:∀x∈h,∀k:Nat,k<=4->IntKind.i64.wrap (x.id-(k:Int))=x.id-k):
  aJ S 60 [df F h,gP 6 k j c l o sg] (wY F ((jB h [k,aK h k,j,aK h j]).map (nU [(aZ h k).id,(aZ h (aK h k)).id])) (jB (lC h) [k,aK h k,j,aK h j])):=by
 have m:=K4 g;have E:=O1 (F:Int) h J;have l1:S.lone 3840064064=false:=ah;have l2:S.lone 3840128064=false:=ah;have l4:S.lone 3843136128=false:=ah;rw[vq (Lh g)]at m;have T:=FZ g.ne (vE h);simp only[CL]at T;rw[T]at E;have Z:=An (F:=F) u J;have pw:=adq h (lC h) [k,aK h k,j,aK h j] J (vE h) aQ;have N:=aeu h (lC h) [k,aK h k,j,aK h j] (vE h);have ac:=Xe h [k,aK h k,j,aK h j];have Pe:∀y∈jB h [k,aK h k,j,aK h j],y∈h:=λy ad=>Q4 ad;have l3:S.lone 3842112896=false:=ah;have pb:=Mp (F:=F) u J;have R:=An (F:=F) hj J;have l5:S.lone 3842048192=false:=ah
 have e1:cg [k,aK h k,j,aK h j]=[[.int .i64 k],[.int .i64 ((k+1)%I h:Nat)],[.int .i64 j],[.int .i64 ((j+1)%I h:Nat)]]:=rfl;rw[e1]at pw;generalize hL:jB h [k,aK h k,j,aK h j]=bP at*;generalize hD:jB (lC h) [k,aK h k,j,aK h j]=V at*;generalize aZ h k=X at*;generalize aZ h (aK h k)=Y at*;by_cases M:bP=[]
 .subst M;have hV:V=[]:=uE.1 N;subst hV;rw[abz]at pw;have f:aJ S 108 [.agg [.p (.sl []),.p (.sl [])],df F h] (.agg [.p (.int .i64 F),.p .nils]):=Fz (F:Int) h [] [] aQ rfl;have e0:bQ (nM [] [])=[]:=rfl;simp only[wY,jS,e0];rw[aeI];refine bt Ew ?_;simp only[go_sem,Ea,D7,ll m l1 (.inl rfl),af,au];simp only[go_sem,FD,ll E l2 (.inl rfl),qS,vu,td,xh,ek Z,aa.ps,u,AP,ll pb l5 (.inr rfl),ek R,K5,Iz pw l3 (.inr rfl),R_,af,au];refine⟨aI,?_⟩;refine apS (B:=[X.id,Y.id]) (by simp only[go_sem];rfl) λbY H=>?_
  have Q:=H 3840000000 U;have z:=H 3840000128 U;have A:=H 3840128128 U;simp only[go_sem]at Q z A;simp only[go_sem,Q,z,A,qS,vu,td,DM,FU,ll f l4 (.inr rfl),af,au];try rfl
 rw[FZ M N]at pw;have dh:I (nM (bP.map (nU [X.id,Y.id])) V)=I bP:=by rw[MO,cH]
 have f:=Fz (F:Int) h (bP.map (nU [X.id,Y.id])) V (by simp only[cH];omega) (by rw[cH];exact N);have km:nM (bP.map (nU [X.id,Y.id])) V≠[]:=λe=>M (uE.1 (by rw[<-dh,e];rfl));simp only[wY];rw[vq (Gs km)]at f |-;refine bt Ew ?_;simp only[go_sem,Ea,D7,ll m l1 (.inl rfl),af,au];simp only[go_sem,FD,ll E l2 (.inl rfl),qS,vu,td,xh,ek Z,aa.ps,u,AP,ll pb l5 (.inr rfl),ek R,K5,Iz pw l3 (.inr (Wx _ _)),R_,af,au];refine⟨aI,?_⟩;refine afd (L:=bP) (D:=V) (B:=[X.id,Y.id]) U U U J aQ (λy hy k u=>O y (Pe y hy) k (by simp at u;omega)) (by simp only[go_sem]) (by simp only[go_sem]) (by simp only[go_sem];rfl) λbY h1 H=>?_
 have Q:=H 3840000000 U U;have z:=H 3840000128 U U;have A:=H 3840128128 U U;have q3:=H 3842112897 U U;simp only[go_sem]at Q z A q3;generalize Pd:bP.map (nU [X.id,Y.id])=W2 at*;have tk:I bP=I W2:=by rw[<-Pd,cH]
 simp only[go_sem,h1,tk,Q,z,A,q3,qS,vu,td,DM,FU,ll f l4 (.inr (O8 _ _)),af,au];simp[gr,nx,k5,kj,gR,aT,lG,pB,nD,qz,qS]
def aeX{α:Type}{l:List α}{i:Nat}{x y:α}(h:l[i]?=some x)(H:l[j]?=some y):gL l i j=D2 l i j x y:=by unfold gL;rw[h,H];rfl
def wB{α:Type}(l:List α)(i j:Nat):I (gL l i j)=I l:=by unfold gL;split<;>simp
section
variable {Q:fM} {os all:eZ} {d:eh} {z:bn} {aj:aB} {tr:fU} {m fh y A:Nat} {L:ae} {D:eH}
def Ox{i j n:Nat}(R:m≠y)(X:m≠6656000000)(N:y≠6656000000)(Y:aj m=(fh,some (.arr fI 6 (bQ L))))(O:aj y=(A,some (.arr 4 1 (eC D))))(hl:I L=n)(H:I D=n)(hi:i<n)(hj:j<n)(F:i≠j)
  (T:∀f,f m=(fh,some (.arr fI 6 (bQ (gL L i j))))->f y=(A,some (.arr 4 1 (eC (gL D i j))))->(∀q,q≠m->q≠y->q≠6656000000->f q=aj q)->n9 S .all all os Q (dF z d (.tup [])) f (tr++[⟨[m,y],[m,y],[104]⟩])):
  pM S .all (.sc 104 [Ei m fh y A n n,aC i,aC j]) d all os Q z aj tr:=by
 obtain⟨x,u⟩:=aR (L:=L) (k:=i) J;obtain⟨ac,g⟩:=aR (L:=L) (k:=j) J;obtain⟨c,E⟩:=aR (L:=D) (k:=i) J;obtain⟨e,B⟩:=aR (L:=D) (k:=j) J;have Z:=au0 (Q:=Q) (os:=os) (all:=all) (d:=d) (z:=z) (tr:=tr) R X N Y O (H.trans hl.symm) u g E B F λf a b M=>T f (by rw[aeX u g];exact a) (by rw[aeX E B];exact b) M;rw[hl,H]at Z;exact Z
end
def QA{k:Nat}(H:2<=I h):aK h k<I h:=fC _ J
def aB8(g:cK F h)(i j k:Nat)(l o:Bool)(sg:Int)(hi:i<I h)(hj:j<I h)(O:k<I h)(H:2<=I h)(hl:I h<=400):
  aJ S 60 [df F h,gP 8 i j k l o sg] (wY F (gL (gL (gL h i (aK h i)) j (aK h j)) k (aK h k)) (gL (gL (gL (lC h) i (aK h i)) j (aK h j)) k (aK h k))):=by
 have x:=K4 g;have po:=O1 (F:Int) h J;have l1:S.lone 3840064064=false:=ah;have l2:S.lone 3840128064=false:=ah;have l4:S.lone 3843136128=false:=ah;rw[vq (Lh g)]at x;have uT:=FZ g.ne (vE h);simp only[CL]at uT;rw[uT]at po;have fV:=An (F:=F) hi J;have fG:=An (F:=F) hj J;have R:=An (F:=F) O J;have x1:=wB h i (aK h i);have x2:=(wB (gL h i (aK h i)) j (aK h j)).trans x1;have X:=(wB (gL (gL h i (aK h i)) j (aK h j)) k (aK h k)).trans x2;have y0:=vE h;have y1:=(wB (lC h) i (aK h i)).trans y0;have y2:=(wB (gL (lC h) i (aK h i)) j (aK h j)).trans y1
 have Y:=(wB (gL (gL (lC h) i (aK h i)) j (aK h j)) k (aK h k)).trans y2;refine bt Ew ?_;simp only[go_sem,Ea,D7,ll x l1 (.inl rfl),af,au];simp only[go_sem,FD,ll po l2 (.inl rfl),qS,vu,td,xh,ek fV,OI,vE,af,au];refine Ox (L:=h) (D:=lC h) U U U (by simp only[go_sem]) (by simp only[go_sem]) rfl y0 hi (QA H) (JS H hi) λb1 ac Z u=>?_;have p0:=u 3840000000 U U U;have p1:=u 3840000064 U U U;have N:=u 3840000128 U U U;have A:=u 3840064128 U U U;have E:=u 3840064067 U U U;have M:=u 3840128128 U U U;simp only[go_sem]at p0 p1 N A E M;simp only[go_sem,p0,p1,N,A,E,M,td,xh,ek fG,OI,af,au];refine⟨aI,?_⟩
 refine Ox U U U ac Z x1 y1 hj (QA H) (JS H hj) λb2 ao ag B=>?_;have Q:=B 3840000000 U U U;have T:=B 3840000064 U U U;have q2:=B 3840000128 U U U;have q3:=B 3840064128 U U U;have q4:=B 3840064067 U U U;have q5:=B 3840128128 U U U;simp only[p0,p1,N,A,E,M]at Q T q2 q3 q4 q5;simp only[go_sem,Q,T,q2,q3,q4,q5,td,xh,ek R,OI,af,au];refine⟨aI,?_⟩;refine Ox U U U ao ag x2 y2 O (QA H) (JS H O) λb3 ad an z=>?_
 have r0:=z 3840000000 U U U;have r1:=z 3840000064 U U U;have r2:=z 3840000128 U U U;have r3:=z 3840128128 U U U;simp only[Q,T,q2,q3,q4,q5]at r0 r1 r2 r3;generalize gL (gL (gL h i (aK h i)) j (aK h j)) k (aK h k)=f at*;generalize gL (gL (gL (lC h) i (aK h i)) j (aK h j)) k (aK h k)=m at*;have y:=Fz (F:Int) h f m J (Y.trans X.symm);have dh:I (nM f m)=I f:=MO _ _;have km:nM f m≠[]:=λe=>by rw[e]at dh;simp only[eK]at dh;omega
 simp only[wY];rw[vq (Gs km)]at y |-;have tk:List.take (I h) (bQ f)=bQ f:=by rw[<-X];exact qS f
 have tb:List.take (I h) (eC m)=eC m:=by rw[<-Y];exact vu m
 have tl:I h<=I (bQ f):=by rw[qz];omega
 have tm:I h<=I (eC m):=by rw[Vs];omega
 simp only[go_sem,ad,an,r0,r1,r2,r3,tk,tb,X,Y,DM,FU,ll y l4 (.inr (O8 _ _)),af,au];refine⟨aI,?_⟩;simp[gr,nx,k5,kj,gR,aT,lG,pB,nD,qz,qS]
def nJ(p q l:aa):aa:=if oE l p then q else if oE l q then p else l
def aF2(g:cK F h)(i j:Nat)(c:Int)(l o:Bool)(sg:Int)(hi:i<I h)(hj:j<I h)(H:2<=I h)(hl:I h<=400):
  aJ S 60 [df F h,gP 3 i j c l o sg] (wY F (gL (gL (h.map (nJ (j6 h i).2.1 (j6 h j).2.1)) i (aK h i)) j (aK h j)) (gL (gL (lC h) i (aK h i)) j (aK h j))):=by
 have R:=K4 g;have po:=O1 (F:Int) h J;have l1:S.lone 3840064064=false:=ah;have l2:S.lone 3840128064=false:=ah;have l4:S.lone 3843136128=false:=ah;rw[vq (Lh g)]at R;have uT:=FZ g.ne (vE h);simp only[CL]at uT;rw[uT]at po;have fV:=An (F:=F) hi J;have fG:=An (F:=F) hj J;have ap:=Ro (F:=F) hi J;have ad:=Ro (F:=F) hj J;have l5:S.lone 3840704192=false:=ah;have l6:S.lone 3840768192=false:=ah
 generalize(j6 h i).1=X at*;generalize(j6 h i).2.1=P at*;generalize(j6 h i).2.2=e1 at*;generalize(j6 h j).1=Y at*;generalize(j6 h j).2.1=Z at*;generalize(j6 h j).2.2=e2 at*;refine bt Ew ?_;simp only[go_sem,Ea,D7,ll R l1 (.inl rfl),af,au];simp only[go_sem,FD,ll po l2 (.inl rfl),qS,vu,td,aa8,ll ap l5 (.inr rfl),ll ad l6 (.inr rfl),vE,af,au];refine c_ (λq z aj=>z 2=.one (.bh 3840000000 1 0)/\z 3=.one (.bh 3840000064 1 0)/\z 4=.one (.bh 3840000128 1 0)/\z 5=.one (.bh 3840064128 1 0)/\z 6=.one (.bh 3840128128 1 0)/\z 10=.one (.bh 3840704576 1 0)/\z 13=.one (.bh 3840768576 1 0)/\z 15=aC q/\
   aj 3840000000=(1,some (.var [.p (.int .i64 F),.p (c8 h)]))/\aj 3840000064=(1,some (.var [.p (.int .i64 3),.p (.int .i64 i),.p (.int .i64 j),.p (.int .i64 c),.p (.bool l),.p (.bool o),.p (.int .i64 sg)]))/\
   aj 3840000128=(1,some (.var [.p (.int .i64 0),.p .nils]))/\aj 3840064067=(1,some (.arr uO 5 (mv (eD F h))))/\aj 3840064128=(1,some (.var [.p (.int .i64 F),.p (c8 h),.p (.int .i64 (I h)),.hsl 3840064067 1 5 0 (I (eD F h))]))/\
   aj 3840128128=(1,some (.var [.hsl 3840128064 1 6 0 (I h),.hsl 3840128065 1 1 0 (I h)]))/\aj 3840128065=(1,some (.arr 4 1 (eC (lC h))))/\
   aj 3840704576=(1,some (.var (M1 P)))/\aj 3840768576=(1,some (.var (M1 Z)))/\aj 3840128064=(1,some (.arr fI 6 (bQ (pL (nJ P Z) h q))))) 0 (I h) (cE _) ?_ ?_
 .simp only[go_sem,pL]
  trivial
 rintro q z aj hq ⟨B,D,N,O,E,u,m,y,b0,b1,b2,bf,bs,bd,bD,pE,bZ,Q⟩
 by_cases aq:q<I h
 .have aO:((q:Int)<(I h:Int)):=J;have w1:=cP (n:=q) J;obtain⟨x,hx⟩:=aR aq;have hm:=UL (f:=nJ P Z) hx;have iE:=fP hm;have iB:q<I (pL (nJ P Z) h q):=by rw[abu];exact aq
  have OF:=ap7 x P;have T:=ap7 x Z;cases h1:oE x P with
  |true=>rw[h1]at OF;simp only[go_sem,MS,B,D,N,O,E,u,m,y,b0,b1,b2,bf,bs,bd,bD,pE,bZ,Q,aq,aO,iB,iE,aa.ps,w1,qz,kI,mA,OF,T,af,au];refine⟨aI,?_⟩;have hs:=OV (f:=nJ P Z) hx;rw[show nJ P Z x=Z by simp[nJ,h1]]at hs;rw[show(bQ (pL (nJ P Z) h q)).set q [.int .i64 Z.kind,.int .i64 Z.gate,.int .i64 Z.ay,.int .i64 Z.id,.int .i64 Z.sign,.bool Z.over]=bQ ((pL (nJ P Z) h q).set q Z)from IN _ _ _ rfl,hs]
  |false=>
   rw[h1]at OF;cases H:oE x Z with
   |true=>rw[H]at T;simp only[go_sem,MS,B,D,N,O,E,u,m,y,b0,b1,b2,bf,bs,bd,bD,pE,bZ,Q,aq,aO,iB,iE,aa.ps,w1,qz,kI,mA,OF,T,af,au];refine⟨aI,aI,?_⟩;have hs:=OV (f:=nJ P Z) hx;rw[show nJ P Z x=P by simp[nJ,h1,H]]at hs;rw[show(bQ (pL (nJ P Z) h q)).set q [.int .i64 P.kind,.int .i64 P.gate,.int .i64 P.ay,.int .i64 P.id,.int .i64 P.sign,.bool P.over]=bQ ((pL (nJ P Z) h q).set q P)from IN _ _ _ rfl,hs]
   |false=>rw[H]at T;simp only[go_sem,MS,B,D,N,O,E,u,m,y,b0,b1,b2,bf,bs,bd,bD,pE,bZ,Q,aq,aO,iB,iE,aa.ps,w1,qz,kI,mA,OF,T,af,au];refine⟨aI,aI,?_⟩;exact congrArg (λav=>(1,some (fZ.arr fI 6 (bQ av)))) (ab3 hx (by simp[nJ,h1,H]))
 have:q=I h:=J;subst this;rw[show pL (nJ P Z) h (I h)=h.map (nJ P Z) by simp[pL]]at Q;have n0:I (h.map (nJ P Z))=I h:=cH _;generalize h.map (nJ P Z)=L0 at*;have x1:=(wB L0 i (aK h i)).trans n0;have x3:=(wB (gL L0 i (aK h i)) j (aK h j)).trans x1;have y0:=vE h;have y1:=(wB (lC h) i (aK h i)).trans y0;have y3:=(wB (gL (lC h) i (aK h i)) j (aK h j)).trans y1;simp only[go_sem,MS,aoF,B,D,N,O,E,u,m,y,b0,b1,b2,bf,bs,bd,dW,td,xh,ek fV,OI,af,au];refine Ox U U U Q bD n0 y0 hi (QA H) (JS H hi) λB1 ao ag A=>?_
 have p0:=A 3840000000 U U U;have p1:=A 3840000064 U U U;have p2:=A 3840000128 U U U;have p3:=A 3840064128 U U U;have p4:=A 3840064067 U U U;have p5:=A 3840128128 U U U;simp only[b0,b1,b2,bs,bf,bd]at p0 p1 p2 p3 p4 p5;simp only[go_sem,B,D,N,O,E,p0,p1,p2,p3,p4,p5,td,xh,ek fG,OI,af,au];refine⟨aI,?_⟩;refine Ox U U U ao ag x1 y1 hj (QA H) (JS H hj) λB3 an ar dO=>?_
 have r0:=dO 3840000000 U U U;have r1:=dO 3840000064 U U U;have r2:=dO 3840000128 U U U;have r3:=dO 3840128128 U U U;simp only[p0,p1,p2,p5]at r0 r1 r2 r3;generalize gL (gL L0 i (aK h i)) j (aK h j)=L at*;generalize gL (gL (lC h) i (aK h i)) j (aK h j)=M at*;have ac:=Fz (F:Int) h L M J (y3.trans x3.symm);have dh:I (nM L M)=I L:=MO _ _;have km:nM L M≠[]:=λe=>by rw[e]at dh;simp only[eK]at dh;omega
 simp only[wY];rw[vq (Gs km)]at ac |-;have tk:List.take (I h) (bQ L)=bQ L:=by rw[<-x3];exact qS L
 have tb:List.take (I h) (eC M)=eC M:=by rw[<-y3];exact vu M
 simp only[go_sem,B,D,N,O,E,an,ar,r0,r1,r2,r3,qz,Vs,tk,tb,x3,y3,DM,FU,ll ac l4 (.inr (O8 _ _)),af,au];refine⟨aI,?_⟩;simp[gr,nx,k5,kj,gR,aT,lG,pB,nD,qz,qS]
def Jz(n f k:Int):Int×Int:=if k==2 then(n+2,f)else if k==5 then(n+2,f+1)else if k==7 then(n+4,f+2)else(n,f)
def Vu(w p:Bool)(n f k:Int):Int:=if w then 2 else if p then(if decide (400<(Jz n f k).1)||decide (100<(Jz n f k).2)then 7 else 0)else 4
def aiE{k a b c:Int}{l o:Bool}{sg:Int}{w p:Bool}(hl:I h<=400)(pw:aJ S 198 [kQ F h,gP k a b c l o sg] (dn w))(f:w=false->aJ S 199 [kQ F h,gP k a b c l o sg] (dn p)):
  aJ S 163 [kQ F h,gP k a b c l o sg] (fQ (Vu w p (I h) (ai aa.aF h/2:Nat) k)):=by
 have j:=aaS (F:Int) h J;have z:ai aa.aF h<=I h:=qk _ _;have L:ai aa.aF h/2<=400:=J;generalize ai aa.aF h/2=g at*;have u:IntKind.i64.wrap ((g:Int)+1)=(g:Int)+1:=nK J J;have y:IntKind.i64.wrap ((g:Int)+2)=(g:Int)+2:=nK J J;have x:IntKind.i64.wrap ((I h:Int)+2)=(I h:Int)+2:=nK J J;have m:IntKind.i64.wrap ((I h:Int)+4)=(I h:Int)+4:=nK J J;unfold Vu Jz;cases w with
 |true=>
  refine bt aaz ?_;simp only[go_sem,Ty,NJ,aD pw,bne,af,au];repeat' ((first|apply sd|apply rC|apply r_|apply rL|apply r7|apply rY)<;>intro H<;>simp only[go_sem, *,NJ,aD pw,bne,af,au])
  all_goals(first|done|exact aI|exact⟨aI,rfl⟩|rfl)
 |false=>
  have f:=f rfl;cases p with
  |false=>
   refine bt aaz ?_;simp only[go_sem,Ty,NJ,aD pw,adn,aD f,bne,af,au];repeat' ((first|apply sd|apply rC|apply r_|apply rL|apply r7|apply rY)<;>intro H<;>simp only[go_sem, *,NJ,aD pw,adn,aD f,bne,af,au])
   all_goals(first|done|exact aI|exact⟨aI,rfl⟩|rfl)
  |true=>
   refine bt aaz ?_;simp only[go_sem,Ty,NJ,aD pw,adn,aD f,Ny,ek j,u,y,x,m,bne,af,au];refine⟨aI,?_⟩;repeat' ((first|apply sd|apply rC|apply r_|apply rL|apply r7|apply rY)<;>intro H<;>simp only[go_sem, *,u,y,x,m,bne,af,au])
   all_goals(first|done|exact aI|exact⟨aI,rfl⟩|rfl)
def ayo(g:cK F h){i:Nat}{c:Int}{l o:Bool}{sg:Int}(f:i<I h)(H:j<I h):aJ S 199 [kQ F h,gP 3 i j c l o sg] (dn (Gk F h i j)):=by
 have ps:=aqv g f H;refine bt Oc ?_;simp only[go_sem,Iy,ah6,aD ps,bne,af,au];repeat' ((first|apply sd|apply rC|apply r_|apply rL|apply r7|apply rY)<;>intro m<;>simp only[go_sem, *,ah6,aD ps,bne,af,au])
 all_goals(first|done|exact aI|exact⟨aI,rfl⟩|rfl)
def aud(g:cK F h){i:Nat}{c:Int}{l o:Bool}{sg:Int}(f:i<I h)(H:j<I h):aJ S 199 [kQ F h,gP 6 i j c l o sg] (dn (Ia F h i j)):=by
 have ps:=asI g f H;refine bt Oc ?_;simp only[go_sem,Iy,apM,aD ps,bne,af,au];repeat' ((first|apply sd|apply rC|apply r_|apply rL|apply r7|apply rY)<;>intro m<;>simp only[go_sem, *,apM,aD ps,bne,af,au])
 all_goals(first|done|exact aI|exact⟨aI,rfl⟩|rfl)
def aFT(g:cK F h){i k:Nat}{l o:Bool}{sg:Int}(m:i<I h)(f:j<I h)(H:k<I h):aJ S 199 [kQ F h,gP 8 i j k l o sg] (dn (Dy F h [i,j,k])):=by
 have ps:=aDP g m f H;refine bt Oc ?_;simp only[go_sem,Iy,ak0,aD ps,bne,af,au];repeat' ((first|apply sd|apply rC|apply r_|apply rL|apply r7|apply rY)<;>intro u<;>simp only[go_sem, *,ak0,aD ps,bne,af,au])
 all_goals(first|done|exact aI|exact⟨aI,rfl⟩|rfl)
def aE0(g:cK F h){i:Nat}{b c:Int}{l o:Bool}{sg:Int}(H:i<I h):aJ S 199 [kQ F h,gP 4 i b c l o sg] (dn (qK h i&&((aZ h i).id==(aZ h (aK h i)).id))):=by
 have ps:=RP (F:=F) H (by have:=g.len;omega);have L:S.lone 12736704192=false:=ah;have pc:=ps;generalize aZ h i=X at*;generalize aZ h (aK h i)=Y at*;generalize qK h i=e at*;refine bt Oc ?_;simp only[go_sem,Iy,F5,ll pc L (.inl rfl),bne,af,au];repeat' ((first|apply sd|apply rC|apply r_|apply rL|apply r7|apply rY)<;>intro f<;>simp only[go_sem, *,F5,ll pc L (.inl rfl),bne,af,au])
 all_goals(first|done|exact aI|exact⟨aI,rfl⟩|rfl)
def aul(g:cK F h){i:Nat}{b c:Int}{l o:Bool}{sg:Int}(u:i<I h)(x:KL (aZ h i))(m:KL (aZ h (aK h i))):aJ S 199 [kQ F h,gP 1 i b c l o sg] (dn (yB (aZ h i) (aZ h (aK h i))&&(decide ((2:Int)<(ai aa.aM h:Nat))||(((ai aa.aF h/2:Nat):Int)==0)))):=by
 have H:=g.len;have pb:=Mp (F:=F) u J;have f:=amU _ _ x m;have j:=aoJ (F:Int) h J;have pc:=aaS (F:Int) h J;have L:S.lone 12736192192=false:=ah;generalize yB (aZ h i) (aZ h (aK h i))=fg at*;generalize aZ h i=X at*;generalize aZ h (aK h i)=Y at*;generalize ai aa.aM h=N at*;generalize ai aa.aF h/2=z at*;refine bt Oc ?_;simp only[go_sem,Iy,AP,ll pb L (.inl rfl),R0,aD f,H3,dP j,Ny,dP pc,bne,af,au];repeat' ((first|apply sd|apply rC|apply r_|apply rL|apply r7|apply rY)<;>intro y<;>simp only[go_sem, *,AP,ll pb L (.inl rfl),R0,aD f,H3,dP j,Ny,dP pc,bne,af,au])
 all_goals(first|done|exact aI|exact⟨aI,rfl⟩|rfl)
def ayz(F:Int):aJ S 96 [df F []] (.agg [.p (.int .i64 F),.p (.sl []),.p (.int .i64 0),.p .nils]):=by refine bt aho ?_;have h:¬((0:Int)<0):=J;simp only[go_sem,aa1,Int.ofNat_zero,h,bne,af,au];all_goals(first|done|exact aI|exact⟨aI,rfl⟩|rfl)
def ae1{α:Type}{l:List α}{p q:α->Bool}(h:∀x∈l,p x=q x):l.find? p=l.find? q:=by
 induction l with
 |nil=>rfl
 |cons a l f=>rw[Nf,Nf,h a (HU ..),f λx H=>h x (xo _ H)]
def apw{l:cY}(u:f<=I l):sR l f (I l)=(l.drop f++l.take f).map aU.l:=by
 apply y_;intro i;by_cases g:i<I l
 .have h:(sR l f (I l))[i]?=some (l.getD ((f+i)%I l) ⟨lD,false⟩).l:=by
   simp[sR,g]
  rw[h,fY];by_cases H:f+i<I l
  .rw[xv (by simp;omega),yt,jv H];simp[H]
  rw[vI (by simp;omega),l8];have j:(f+i)%I l=i-(I l-f):=by rw[acJ J,jv J];omega
  have m:i-(I l-f)<I l:=J;rw[j,nN,aH J];simp[m]
 have h:I (sR l f (I l))=I l:=by simp[sR]
 rw[oF (by rw[h];omega),oF (by simp;omega)]
def arh{l:cY}(x:l.map aU.l=L)(y:I D=I l)(z:∀(i:Nat) (p:aU),l[i]?=some p->(p.l.kind==1)->D[i]?=some p.d):oo l=nM L D:=by
 subst x;have g:tL l=Il (l.map aU.l) D:=by
  unfold tL Il;rw[cH];refine ae1 λi H=>?_;have H:i<I l:=by simpa using H
  obtain⟨p,hp⟩:=aR H;obtain⟨d,f⟩:=aR (L:=D) (k:=i) J;have j:(l.map aU.l)[i]?=some p.l:=by rw[fY,hp];rfl
  simp only[OZ,EL,hp,j,f,E1];cases m:(p.l.kind==1)with
  |false=>simp
  |true=>have:=z i p hp m;rw[f]at this;cases this;simp
 unfold oo nM;rw[<-g];cases u:tL l with
 |none=>simp only[Option.getD_none];rw[apw (cE _)];simp
 |some i=>
  have H:i<I l:=by
   have:=Eo u
   simpa using this
  simp only[mO];rw[apw (Nat.le_of_lt H),lU,E_,Ex]
def lH(l:cY)(L:ae)(D:eH):Prop:= ∃z:List (aU×Bool),z.map (·.1)=l/\z.map (·.1.l)=L/\z.map (·.2)=D/\ ∀x∈z,(x.1.l.kind==1)->x.2=x.1.d
def lH.fin{l:cY}(h:lH l L D):oo l=nM L D:=by
 obtain⟨z,rfl,rfl,rfl,g⟩:=h;refine arh aQ aQ λi p hp f=>?_;rw[fY]at hp |-;cases H:z[i]? with
 |none=>rw[H]at hp;cases hp
 |some x=>rw[H]at hp;cases hp;have:=g x (ch H) f;rw[<-this];rfl
def lH.base(h:ae):lH (cq h) h (lC h):=by
 refine⟨(List.range (I h)).map λi=>(⟨h.getD i lD,jK h i⟩,c9 h i),?_,?_,?_,?_⟩
 .simp[cq]
 .rw[o9];apply y_;intro i;rw[fY];by_cases H:i<I h
  .rw[qx H];simp[H]
  rw[oF (by simp;omega),oF J];rfl
 .rw[o9];rfl
 intro x g f;obtain⟨i,H,rfl⟩:=eg.1 g;have H:=gI.1 H;obtain⟨l,hl⟩:=aR H;simp only[dS,hl,mO]at f |-;unfold jK;rw[hl];simp only;unfold aa.aM;rw[f,tg]
def Ww{α β:Type}(f:α->β)(l:List α)(out:aG):(jB l out).map f=jB (l.map f) out:=by
 unfold jB u5;rw[List.map_filterMap,cH];congr 1;funext i;unfold Ev;split
 .rfl
 rw[fY]
def lH.wo{l:cY}(h:lH l L D)(out:aG):lH (jB l out) (jB L out) (jB D out):=by obtain⟨z,rfl,rfl,rfl,H⟩:=h;exact⟨jB z out,Ww _ _ _,Ww _ _ _,Ww _ _ _,λx f=>H x (Q4 f)⟩
def Y3{α β:Type}(f:α->β)(l:List α)(i j:Nat):(gL l i j).map f=gL (l.map f) i j:=by unfold gL;rw[fY,fY];cases l[i]? <;>cases l[j]? <;>simp[xf]
def aro{α:Type}{l:List α}{i:Nat}{x:α}(h:x∈gL l i j):x∈l:=by
 unfold gL at h;cases H:l[i]? with
 |none=>rw[H]at h;exact h
 |some a=>
  cases f:l[j]? with
  |none=>rw[H,f]at h;exact h
  |some b=>
   rw[H,f]at h;rcases OD h with h|rfl
   .rcases OD h with h|rfl
    .exact h
    exact ch f
   exact ch H
def lH.sw{l:cY}(h:lH l L D)(i j:Nat):lH (gL l i j) (gL L i j) (gL D i j):=by obtain⟨z,rfl,rfl,rfl,H⟩:=h;exact⟨gL z i j,Y3 _ _ _ _,Y3 _ _ _ _,Y3 _ _ _ _,λx f=>H x (aro f)⟩
def lH.map{l:cY}(h:lH l L D){f:aU->aU}{g:aa->aa}(m:∀p∈l,(f p).l=g p.l/\(f p).d=p.d/\(f p).l.kind=p.l.kind):lH (l.map f) (L.map g) D:=by
 obtain⟨z,rfl,rfl,rfl,E⟩:=h;refine⟨z.map λx=>(f x.1,x.2),?_,?_,?_,?_⟩
 .rw[o9,o9];rfl
 .rw[o9,o9];exact Ax λx j=>(m x.1 (eg.2 ⟨x,j,rfl⟩)).1
 .rw[o9];rfl
 intro x j H;obtain⟨y,u,rfl⟩:=eg.1 j;obtain⟨_,A,B⟩:=m y.1 (eg.2 ⟨y,u,rfl⟩);simp only at H |-;rw[B]at H;rw[A];exact E y u H
def lH.set{l:cY}(h:lH l L D){i:Nat}{p q:aU}(hp:l[i]?=some p)(u:q.d=p.d)(A:q.l.kind=p.l.kind):lH (l.set i q) (L.set i q.l) D:=by
 obtain⟨z,rfl,rfl,rfl,m⟩:=h;rw[fY]at hp;cases H:z[i]? with
 |none=>rw[H]at hp;cases hp
 |some x=>
  rw[H]at hp;cases hp;refine⟨z.set i (q,x.2),by rw[xf],by rw[xf],?_,λy f g=>?_⟩
  .rw[xf];apply y_;intro j;rw[mA];by_cases e:i=j
   .subst e;rw[aH rfl,fY,H];have:i<I z:=(cD.1 H).1;simp[this]
   rw[aw e]
  rcases OD f with f|rfl
  .exact m y f g
  simp only at g |-;rw[u];exact m x (ch H) (by rw[<-A];exact g)
def lH.two{p q:aU}{d e:Bool}(hp:(p.l.kind==1)->d=p.d)(H:(q.l.kind==1)->e=q.d):lH [p,q] [p.l,q.l] [d,e]:=
 ⟨[(p,d),(q,e)],rfl,rfl,rfl,λx h=>by
  simp only[dk,iu,or_false]at h;rcases h with rfl|rfl
  .exact hp
  exact H⟩
def lH.len{l:cY}(h:lH l L D):I L=I l/\I D=I l:=by obtain⟨z,rfl,rfl,rfl,_⟩:=h;simp
def rX(h:ae)(i:Nat):(aW h i).l=aZ h i:=by
 by_cases H:i<I h
 .obtain⟨l,hl⟩:=aR H;show((cq h).getD i _).l=h.getD i lD;rw[dS,dS,nR hl,hl];rfl
 show((cq h).getD i _).l=h.getD i lD;rw[dS,dS,oF (by rw[cU];omega),oF J];rfl
def KI{i:Nat}(H:i<I h):h[i]?=some (aZ h i):=by obtain⟨l,hl⟩:=aR H;rw[hl];show some l=some (h.getD i lD);rw[dS,hl];rfl
def awX{α β:Type}{f g:α->Option β}:∀ {l:List α},(∀x∈l,f x=g x)->l.filterMap f=l.filterMap g:=by
 intro l
 induction l with
 |nil=>intro _;rfl
 |cons a l j=>intro h;rw[List.filterMap_cons,List.filterMap_cons,h a aQ,j λx H=>h x (by simp[H])]
def apa{i:Nat}(H:i<I h):(cq h)[i]?=some (aW h i):=by rw[nR (KI H)];congr 1;show _=(cq h).getD i _;rw[dS,nR (KI H)];rfl
def Ai{l:aa}(h:l.kind=2):l.aF:=by unfold aa.aF;rw[h];rfl
def H7{l:aa}(h:l.kind=1):l.aM:=by unfold aa.aM;rw[h];rfl
def awR{l:aa}(h:l.aF):l.kind=2:=by unfold aa.aF at h;exact eq_of_beq h
def acD{l:aa}(h:l.aM):l.kind=1:=by unfold aa.aM at h;exact eq_of_beq h
def aa0(l:cY)(drop:Nat->aU->Bool)(out:aG)(h:∀i p,l[i]?=some p->(drop i p↔i∈out)):nb l drop=jB l out:=by
 unfold nb ux jB u5;refine awX λi H=>?_;unfold IF Ev;cases hp:l[i]? with
 |none=>simp
 |some p=>
  simp only;by_cases c:i∈out
  .rw[aH c,aH ((h i p hp).2 c)]
  rw[aw c,aw λd=>c ((h i p hp).1 d)]
def aDf{α:Type}{l:List α}{out:aG}{x:α}(h:x∈jB l out):∃i,i∉out/\l[i]?=some x:=by
 unfold jB u5 at h;obtain⟨i,_,H⟩:=Ae.1 h;unfold Ev at H;split at H
 .cases H
 rename_i c;exact⟨i,c,H⟩
section
variable {F:Nat} {h:ae}
def cK.pos(g:cK F h):0<I h:=jr.2 g.ne
def cK.CV(g:cK F h)(e:Nat):aK h e<I h:=fC _ g.pos
def cK.TH(g:cK F h){i:Nat}{l:aa}(hl:h[i]?=some l)(hp:l.aM):vf F h l:=g.ok.ax.fK l (ch hl) hp
def cK.one(g:cK F h){i:Nat}{l m:aa}(hl:h[i]?=some l)(H:h[j]?=some m)(pl:l.aM)(f:m.aM)(x:l.gate=m.gate)(u:l.ay=m.ay):i=j:=g.ok.ax.inj i j l m hl H pl f ((Fj (g.TH hl pl) (g.TH H f)).2 ⟨x,u⟩)
def aAX(g:cK F h){a:Nat}(ha:a<I h):
  (yz h a).isSome=(yB (aZ h a) (aZ h (aK h a))&&(decide ((2:Int)<(ai aa.aM h:Nat))||(((ai aa.aF h/2:Nat):Int)==0)))/\
  ∀L,yz h a=some L->lH L ((jB h [a,aK h a]).map (rM (aZ h a).gate (if(aZ h (aK h a)).ay<(aZ h a).ay then(aZ h (aK h a)).ay else(aZ h a).ay) 2)) (jB (lC h) [a,aK h a]):=by
 have H:=g.CV a;have e1:=rX h a;have e2:=rX h (aK h a);unfold yz;simp only
 change ((if((aW h a).l.kind==1)&&(((aW h (aK h a)).l.kind==1)&&(((aW h a).l.gate==(aW h (aK h a)).l.gate)&&((qT (aW h a).l.ay (aW h (aK h a)).l.ay-yf (aW h a).l.ay (aW h (aK h a)).l.ay==1)&& !(decide (ai aa.aM h<=2)&&decide (0<ai aa.aF h/2)))))then some (lz (nb (cq h) λk _=>decide (k=a)||decide (k=aK h a)) (aW h a).l.gate (qT (aW h a).l.ay (aW h (aK h a)).l.ay) (-2))else none).isSome=_/\ ∀L,(if((aW h a).l.kind==1)&&(((aW h (aK h a)).l.kind==1)&&(((aW h a).l.gate==(aW h (aK h a)).l.gate)&&((qT (aW h a).l.ay (aW h (aK h a)).l.ay-yf (aW h a).l.ay (aW h (aK h a)).l.ay==1)&& !(decide (ai aa.aM h<=2)&&decide (0<ai aa.aF h/2)))))then some (lz (nb (cq h) λk _=>decide (k=a)||decide (k=aK h a)) (aW h a).l.gate (qT (aW h a).l.ay (aW h (aK h a)).l.ay) (-2))else none)=some L->_)
 rw[e1,e2];have T:=KI ha;have N:=KI H;generalize hx:aZ h a=x at*;generalize hy:aZ h (aK h a)=y at*;have L1:(qT x.ay y.ay-yf x.ay y.ay==1)=((x.ay==y.ay+1)||(y.ay==x.ay+1)):=by rw[sH];unfold qT yf;simp only[dI,oG];split<;>split<;>omega
 have O:(!(decide (ai aa.aM h<=2)&&decide (0<ai aa.aF h/2)))=(decide ((2:Int)<(ai aa.aM h:Nat))||(((ai aa.aF h/2:Nat):Int)==0)):=by rw[sH];simp only[mP,aem,decide_eq_false_iff_not,oG,kB,dI];omega
 rw[L1,O];have Q:((x.kind==1)&&((y.kind==1)&&((x.gate==y.gate)&&(((x.ay==y.ay+1)||(y.ay==x.ay+1))&&(decide ((2:Int)<(ai aa.aM h:Nat))||(((ai aa.aF h/2:Nat):Int)==0))))))=(yB x y&&(decide ((2:Int)<(ai aa.aM h:Nat))||(((ai aa.aF h/2:Nat):Int)==0))):=by unfold yB;simp only[KX]
 rw[Q];refine⟨by split<;>simp_all,λL u=>?_⟩;split at u
 .rename_i D;cases u;rw[dj]at D;have H:=D.1;unfold yB at H;simp only[dj,oG,dI]at H;obtain⟨E,Z,R,k4⟩:=H;rw[aa0 (cq h) (λk _=>decide (k=a)||decide (k=aK h a)) [a,aK h a] (λi p _=>aQ)];refine((lH.base h).wo _).map λp hp=>?_;obtain⟨i,A,z⟩:=aDf hp;simp only[dk,iu,or_false,vW]at A;have M:i<I h:=by have:=(cD.1 z).1;rwa[cU]at this
  have B:h[i]?=some p.l:=by rw[nR (KI M)]at z;cases z;exact KI M
  unfold sn rM;by_cases f:(p.l.kind==1)
  .rw[f];by_cases j:(p.l.gate==x.gate)
   .rw[j];simp only[tg,kB];have Y:p.l.ay≠x.ay:=λe=>A.1 (g.one B T f (by unfold aa.aM;simp[E]) (eq_of_beq j) e);have X:p.l.ay≠y.ay:=λe=>A.2 (g.one B N f (by unfold aa.aM;simp[Z]) (by rw[eq_of_beq j,R]) e);have:(qT x.ay y.ay<p.l.ay)↔((if y.ay<x.ay then y.ay else x.ay)<p.l.ay):=by
     unfold qT;split<;>split<;>omega
    by_cases m:(if y.ay<x.ay then y.ay else x.ay)<p.l.ay
    .rw[aH (this.2 m),aH m];exact⟨rfl,rfl,rfl⟩
    rw[aw (λac=>m (this.1 ac)),aw m];exact⟨rfl,rfl,rfl⟩
   rw[Bool.eq_false_iff.2 j];exact⟨rfl,rfl,rfl⟩
  rw[Bool.eq_false_iff.2 f];exact⟨rfl,rfl,rfl⟩
 cases u
end
section
variable {F:Nat} {h:ae}
def cK.two(g:cK F h):2<=I h:=by have j:=Wn g.ok;obtain⟨l,hl,hp⟩:=g.first;have H:0<ai aa.aM h:=xk.2 ⟨l,ch hl,hp⟩;have f:=g.even;omega
def cK.MD(g:cK F h){a:Nat}(H:a<I h):a≠aK h a:=JS g.two H
def cK.three(g:cK F h){i k:Nat}{l m x:aa}(f:h[i]?=some l)(z:h[j]?=some m)(u:h[k]?=some x)(y:l.aF)(A:m.aF)(B:x.aF)(e1:l.id=m.id)(e2:l.id=x.id)(E:i≠j):k=i\/k=j:=by
 have hp:=g.ids.2;by_cases D:k=i
 .exact .inl D
 by_cases H:k=j
 .exact .inr H
 have M:=(hp i j l m f z y A e1 E).1;have L:=(hp i k l x f u y B e2 λe=>D e.symm).1;have O:=(hp j k m x z u A B (e1▸e2) λe=>H e.symm).1;revert M L O;cases l.over<;>cases m.over<;>cases x.over<;>simp
def ag7(ids:cV)(p:aU):(oZ ids p).l=nU ids p.l/\(oZ ids p).d=p.d/\(oZ ids p).l.kind=p.l.kind:=by
 unfold oZ nU;split
 .refine⟨?_,rfl,rfl⟩;unfold lJ AO;simp only[jN,Oi]
 exact⟨rfl,rfl,rfl⟩
def aDD(g:cK F h){a:Nat}(H:a<I h):
  (yj h a).isSome=(qK h a&&((aZ h a).id==(aZ h (aK h a)).id))/\
  ∀L,yj h a=some L->lH L ((jB h [a,aK h a]).map (nU [(aZ h a).id])) (jB (lC h) [a,aK h a]):=by
 have u:=g.CV a;have D:=g.MD H;have O:=js H;have A:=js u;unfold yj qK;simp only;change ((if((aW h a).l.kind==2)&&(((aW h (aK h a)).l.kind==2)&&((aW h a).l.id==(aW h (aK h a)).l.id))then some (Fy (cq h) [(aW h a).l.id])else none).isSome=_/\ ∀L,(if((aW h a).l.kind==2)&&(((aW h (aK h a)).l.kind==2)&&((aW h a).l.id==(aW h (aK h a)).l.id))then some (Fy (cq h) [(aW h a).l.id])else none)=some L->_);rw[rX,rX,<-KX];refine⟨by split<;>simp_all,λL f=>?_⟩;split at f
 .rename_i z;cases f;simp only[dj,dI]at z;obtain⟨⟨m,x⟩,y⟩:=z;have E:nb (cq h) (ri [(aZ h a).id])=jB (cq h) [a,aK h a]:=by
   refine aa0 _ _ _ λi p hp=>?_;have M:i<I h:=by have:=(cD.1 hp).1;rwa[cU]at this
   have B:h[i]?=some p.l:=by rw[nR (js M)]at hp;cases hp;exact js M
   unfold ri;simp only[dj,dI,O_,dk,iu,or_false,kB];constructor
   .rintro ⟨Q,R⟩
    exact g.three O A B (Ai m) (Ai x) (Ai Q) y R.symm D
   have get:∀j,j<I h->i=j->p.l=aZ h j:=λj N e=>by subst e;rw[js N]at B;exact(lq B).symm
   rintro(e|e)
   .rw[get _ H e];exact⟨m,rfl⟩
   rw[get _ u e];exact⟨x,y.symm⟩
  show lH ((nb (cq h) (ri [(aZ h a).id])).map (oZ [(aZ h a).id])) _ _;rw[E];exact((lH.base h).wo _).map λp _=>ag7 _ p
 cases f
def abJ(h:ae)(e:Nat)(ov:Bool):jY h e ov=(qK h e&&(((aZ h e).over==ov)&&((aZ h (aK h e)).over==ov))):=by unfold jY qK;rw[rX,rX,KX]
def aB3(g:cK F h){a b:Nat}(E:a<I h)(N:b<I h):
  (vS F h a b).isSome=Ia F h a b/\
  ∀L,vS F h a b=some L->lH L ((jB h [a,aK h a,b,aK h b]).map (nU [(aZ h a).id,(aZ h (aK h a)).id])) (jB (lC h) [a,aK h a,b,aK h b]):=by
 have hn:=g.CV a;have hm:=g.CV b;have na:=g.MD E;have fg:=g.MD N;have O:=js E;have A:=js hn;have X:=js N;have D:=js hm;have Ci:(((jY h a true&&jY h b false)||(jY h a false&&jY h b true))&&(!((aW h a).l.id==(aW h (aK h a)).l.id)&&
  (((((aW h b).l.id==(aW h a).l.id)&&((aW h (aK h b)).l.id==(aW h (aK h a)).l.id))||(((aW h b).l.id==(aW h (aK h a)).l.id)&&((aW h (aK h b)).l.id==(aW h a).l.id)))&&
  (!((a+2)%I h==b)&&(!((b+2)%I h==a)&&oT F h 0 [a,b] a)))))=Ia F h a b:=by
  rw[adD rfl E];unfold Ia;simp only[abJ,rX];have e1:((a+2)%I h==b)=((((a+2)%I h:Nat):Int)==(b:Int)):=by rw[sH];simp only[dI];omega
  have e2:((b+2)%I h==a)=((((b+2)%I h:Nat):Int)==(a:Int)):=by rw[sH];simp only[dI];omega
  rw[e1,e2];have s1:((aZ h b).id==(aZ h a).id)=((aZ h a).id==(aZ h b).id):=by rw[sH];simp only[dI];exact eq_comm
  have s2:((aZ h (aK h b)).id==(aZ h (aK h a)).id)=((aZ h (aK h a)).id==(aZ h (aK h b)).id):=by rw[sH];simp only[dI];exact eq_comm
  have w5:((aZ h b).id==(aZ h (aK h a)).id)=((aZ h (aK h a)).id==(aZ h b).id):=by rw[sH];simp only[dI];exact eq_comm
  have DZ:((aZ h (aK h b)).id==(aZ h a).id)=((aZ h a).id==(aZ h (aK h b)).id):=by rw[sH];simp only[dI];exact eq_comm
  rw[s1,s2,w5,DZ];generalize qK h a=p1;generalize qK h b=p2;generalize((aZ h a).id==(aZ h (aK h a)).id)=p3;generalize((((a+2)%I h:Nat):Int)==(b:Int))=p4;generalize((((b+2)%I h:Nat):Int)==(a:Int))=p5;generalize((aZ h a).id==(aZ h b).id)=p6;generalize((aZ h (aK h a)).id==(aZ h (aK h b)).id)=p7;generalize((aZ h (aK h a)).id==(aZ h b).id)=p8;generalize((aZ h a).id==(aZ h (aK h b)).id)=p9;generalize vP F h 0 [a,b]=EA;generalize(aZ h a).over=o1;generalize(aZ h b).over=o2;generalize(aZ h (aK h a)).over=o3;generalize(aZ h (aK h b)).over=o4;cases p1<;>cases p2<;>cases p3<;>simp
  all_goals(cases o1<;>cases o2<;>cases o3<;>cases o4<;>simp)
  all_goals(cases p6<;>cases p7<;>cases p8<;>cases p9<;>cases p4<;>cases p5<;>simp)
 unfold vS;rw[Ci];refine⟨by split<;>simp_all,λL T=>?_⟩;split at T
 .rename_i Y;cases T;unfold Ia at Y;simp only[dj,oG,mP,dI,ng]at Y;obtain⟨f,u,c3,c5,c4,ft,c7,Dt,L3,_⟩:=Y;unfold qK at f u;simp only[dj,dI]at f u;have Z:(aZ h a).aF:=Ai f.1;have y:(aZ h (aK h a)).aF:=Ai f.2;have kb:(aZ h b).aF:=Ai u.1;have x:(aZ h (aK h b)).aF:=Ai u.2;have hk:nb (cq h) (ri [(aW h a).l.id,(aW h (aK h a)).l.id])=jB (cq h) [a,aK h a,b,aK h b]:=by
   rw[rX,rX];refine aa0 _ _ _ λi p hp=>?_;have mR:i<I h:=by have:=(cD.1 hp).1;rwa[cU]at this
   have B:h[i]?=some p.l:=by rw[nR (js mR)]at hp;cases hp;exact js mR
   have H:a≠b:=λe=>L3 (by rw[e]);unfold ri;simp only[dj,dI,O_,dk,iu,or_false,kB];constructor
   .rintro ⟨q1,Q⟩
    have z:p.l.aF:=Ai q1;have over:∀ {i j:Nat}{l m:aa},h[i]?=some l->h[j]?=some m->l.over≠m.over->i≠j:=λac k ho e=>by subst e;rw[ac]at k;cases k;exact ho rfl
    rcases Q with Q|Q<;>rcases ft with⟨R,M⟩|⟨R,M⟩
    .rcases g.three O X B Z kb z R Q.symm H with e|e<;>subst e<;>simp
    .rcases g.three O D B Z x z R Q.symm (over O D (by rw[<-Dt];exact L3))with e|e<;>subst e<;>simp
    .rcases g.three A D B y x z M Q.symm (over A D (by rw[<-Dt,<-c7];exact L3))with e|e<;>subst e<;>simp
    rcases g.three A X B y kb z M Q.symm (over A X (by rw[<-c7];exact L3))with e|e<;>subst e<;>simp
   have get:∀j,j<I h->i=j->p.l=aZ h j:=λj hj e=>by subst e;rw[js hj]at B;exact(lq B).symm
   rintro(e|e|e|e)
   .rw[get _ E e];exact⟨f.1,.inl rfl⟩
   .rw[get _ hn e];exact⟨f.2,.inr rfl⟩
   .rw[get _ N e];exact⟨u.1,ft.elim (λd=>.inl d.1.symm) (λd=>.inr d.2.symm)⟩
   rw[get _ hm e];exact⟨u.2,ft.elim (λd=>.inr d.2.symm) (λd=>.inl d.1.symm)⟩
  show lH ((nb (cq h) (ri [(aW h a).l.id,(aW h (aK h a)).l.id])).map (oZ [(aW h a).l.id,(aW h (aK h a)).l.id])) _ _;rw[hk,rX,rX];exact((lH.base h).wo _).map λp _=>ag7 _ p
 cases T
end
def adI:∀(L M:cV),L.Nodup->(∀x∈L,x∈M)->I L<=I M:=by
 intro L
 induction L with
 |nil=>intro M _ _;exact cE _
 |cons a L f=>intro M m hs;obtain⟨j,g⟩:=o0.1 m;have h:=hs a aQ;have:=f (M.erase a) g λx H=>(O9 (by rintro rfl;exact j H)).2 (hs x (by simp[H]));rw[M5 h]at this;have:0<I M:=Ij h;simp only[dw];omega
def alw:∀l:cV,(me l).Nodup:=by
 intro l
 induction l with
 |nil=>exact tA
 |cons a l f=>
  unfold me;split
  .exact f
  rename_i h;exact o0.2 ⟨λH=>h (GB.1 H),f⟩
def ayW{l:cV}:I (me l)=I l↔l.Nodup:=by
 induction l with
 |nil=>simp[me]
 |cons a l f=>
  have H:I (me l)<=I l:=adI _ _ (alw l) λx g=>GB.1 g;unfold me;rw[o0];split
  .rename_i h;constructor
   .intro e;simp only[dw]at e;omega
   intro e;exact absurd h e.1
  rename_i h;simp only[dw];rw[<-f];exact⟨λe=>⟨h,J⟩,λe=>J⟩
def amG{l:cV}{x:Int}(h:l.Nodup):(iZ l x).Nodup:=by
 unfold iZ;split
 .exact h
 rename_i g;rw[BI];exact⟨h,aQ,λa f b H e=>g (by simp at H;subst H;subst e;exact f)⟩
def agy{l:cV}{x y:Int}:y∈iZ l x↔y∈l\/y=x:=by
 unfold iZ;split
 .rename_i H;exact⟨.inl,λh=>h.elim id λe=>e▸H⟩
 simp
section
variable {F:Nat} {h:ae}
def ayr{l:cV}(H:l.Nodup)(e:Nat):(AS h l e).Nodup:=amG (amG H)
def atC(E:aG):∀l:cV,l.Nodup->(E.foldl (AS h) l).Nodup/\ ∀y,y∈E.foldl (AS h) l↔y∈l\/y∈E.flatMap λe:Nat=>[(aZ h e).id,(aZ h (aK h e)).id]:=by
 induction E with
 |nil=>intro l H;exact⟨H,λy=>aQ⟩
 |cons e E f=>
  intro l H;obtain⟨j,g⟩:=f (AS h l e) (ayr H e);refine⟨j,λy=>?_⟩;rw[vi,g];unfold AS;rw[agy,agy,Bw,fc];simp only[dk,iu,or_false];constructor
  .rintro (((H|H)|H)|H)
   .exact .inl H
   .exact .inr (.inl (.inl H))
   .exact .inr (.inl (.inr H))
   exact .inr (.inr H)
  rintro(H|(H|H)|H)
  .exact .inl (.inl (.inl H))
  .exact .inl (.inl (.inr H))
  .exact .inl (.inr H)
  exact .inr H
def aAS(E:aG):I (me (vn h E))=I (lS h E):=by
 obtain⟨j,g⟩:=atC (h:=h) E [] tA;have f:∀y,y∈me (vn h E)↔y∈lS h E:=λy=>by rw[GB];unfold lS;rw[g];unfold vn;simp only[rX,iu,false_or]
 have a:=adI _ _ (alw _) λx H=>(f x).1 H;have b:=adI _ _ j λx H=>(f x).2 H;exact aaY a b
def Mx{e:Nat}(H:qK h e):jY h e true=(EN h e==2)/\jY h e false=(EN h e==0):=by rw[abJ,abJ,H];unfold EN;cases(aZ h e).over<;>cases(aZ h (aK h e)).over<;>exact⟨rfl,rfl⟩
def aot(e:Nat):xy h e=qK h e:=by unfold xy qK;rw[rX,rX]
def asS(g:cK F h){a b c:Nat}(m:a<I h)(y:b<I h)(A:c<I h):EO F h a b c=Dy F h [a,b,c]:=by
 have N:=g.MD m;have fg:=g.MD y;have M:=g.MD A;unfold EO Dy;rw[adD rfl m,aAS];have z:(I (me (s0 h [a,b,c]))==6)=decide ((s0 h [a,b,c]).Nodup):=by rw[sH];simp only[dI,kB];rw[<-ayW];unfold s0;simp
 rw[z];have D:(List.range [a,b,c].length).all (Aa h [a,b,c])=([a,b,c].all (xy h)&&decide ((s0 h [a,b,c]).Nodup)):=by
  have:List.range [a,b,c].length=[0,1,2]:=rfl;rw[this];unfold Aa u7 s0;simp only[mN,oc,List.getElem?_cons_zero,List.getElem?_cons_succ,Es,Qh,Bw,List.flatMap_nil,nA,fN,aot];rw[sH];simp only[dj,mP,decide_eq_false_iff_not,kB,dk,iu,or_false,o0,vW,not_false_eq_true,tA,and_true];constructor
  .rintro ⟨H,⟨f,B,L⟩,j,E,O⟩
   refine⟨⟨H,f,j⟩,?_⟩;omega
  rintro⟨⟨H,f,j⟩,R⟩
  refine⟨H,⟨f,?_,?_⟩,j,?_,?_⟩<;>omega
 rw[D];cases H:[a,b,c].all (xy h)with
 |false=>rfl
 |true=>
  simp only[mN,oc,r5,dj,aot]at H;obtain⟨Q,x,u⟩:=H;have e1:([a,b,c].any (jY h · true))=decide ((2:Int)∈rR h [a,b,c]):=by rw[sH];unfold rR;simp only[QH,Sc,SJ,(Mx Q).1,(Mx x).1,(Mx u).1,oG,dI,kB,eR,jS,dk,iu,or_false];omega
  have e2:([a,b,c].any (jY h · false))=decide ((0:Int)∈rR h [a,b,c]):=by rw[sH];unfold rR;simp only[QH,Sc,SJ,(Mx Q).2,(Mx x).2,(Mx u).2,oG,dI,kB,eR,jS,dk,iu,or_false];omega
  rw[e1,e2];simp only[tg]
def N8(g:cK F h){l:cY}(hl:I l=I h){e:Nat}(f:e<I h):jl h l e=gL l e (aK h e):=by have j:=g.CV e;obtain⟨p,hp⟩:=aR (L:=l) (k:=e) J;obtain⟨q,H⟩:=aR (L:=l) (k:=aK h e) J;unfold jl gL;rw[hp,H];simp only[dS,hp,H,mO]
def aqI(g:cK F h){a b c:Nat}(f:a<I h)(j:b<I h)(m:c<I h):
  (ui F h a b c).isSome=Dy F h [a,b,c]/\
  ∀L,ui F h a b c=some L->lH L (gL (gL (gL h a (aK h a)) b (aK h b)) c (aK h c)) (gL (gL (gL (lC h) a (aK h a)) b (aK h b)) c (aK h c)):=by
 unfold ui;rw[asS g f j m];refine⟨by split<;>simp_all,λL H=>?_⟩;split at H
 .cases H;unfold jQ;simp only[vi,IH];rw[N8 g (cU h) f,N8 g (by rw[wB,cU]) j,N8 g (by rw[wB,wB,cU]) m];exact(((lH.base h).sw _ _).sw _ _).sw _ _
 cases H
end
section
variable {F:Nat} {h:ae}
def akO:∀(w:aG) (f:dV),I f.places<=(w.foldl (dV.add F h) f).places.length/\ ∀x∈w,2*I h<=x->I (qE F h ((x-2*I h)/2))<=(w.foldl (dV.add F h) f).places.length:=by
 intro w
 induction w with
 |nil=>intro f;exact⟨cT _,λx z=>nomatch z⟩
 |cons x w j=>
  intro f;rw[vi];obtain⟨g,m⟩:=j (dV.add F h f x);have u:I f.places<=(dV.add F h f x).places.length:=by
   unfold dV.add;split
   .exact cT _
   simp only[fv];omega
  refine⟨lX u g,λy H hl=>?_⟩;rcases dk.1 H with rfl|H
  .refine lX ?_ g;unfold dV.add;rw[aw J];simp only[fv];split<;>(try rw[lK])<;>omega
  exact m y H hl
def aEL(ok:gy F h){v:Nat}{l:aa}(hl:h[v]?=some l)(hp:l.aM)(f:Bool):∃k,k<I (aL h)/\
  ((cA h (j5 (I h) v f)=2*I h+2*k/\(aL h).getD k 0=v)\/(cA h (j5 (I h) v f)=2*I h+2*k+1/\(aL h).getD ((k+1)%I (aL h)) 0=v)):=by
 obtain⟨g,H⟩:=IE ok hl hp;rw[IV hl hp];by_cases c:(c9 h v==f)
 .rw[aH c];exact⟨(aL h).idxOf v,g,.inl ⟨rfl,H⟩⟩
 rw[aw c];refine⟨((aL h).idxOf v+I (aL h)-1)%I (aL h),fC _ J,.inr ⟨rfl,?_⟩⟩;rw[vZ g,H]
def axW(ok:gy F h){k v:Nat}(L:k+1<I (aL h))(H:(aL h).getD k 0=u)(z:(aL h).getD (k+1) 0=v){l m:aa}(hl:h[u]?=some l)(y:h[v]?=some m)
  (pl:l.aM) (D:m.aM) (N:m.gate<=l.gate):l.gate=m.gate/\m.ay=l.ay+1:=by
 obtain⟨Q,x⟩:=aR (L:=aL h) (k:=k) J;obtain⟨M,j⟩:=aR L;rw[dS,x,mO]at H;rw[dS,j,mO]at z;subst H z;obtain⟨R,e1,_,e2⟩:=Af ok.ax x;obtain⟨O,E,_,e4⟩:=Af ok.ax j;rw[hl]at e1;cases e1;rw[y]at E;cases E;have g:=ok.ax.fK l (ch hl) pl;have f:=ok.ax.fK m (ch y) D;have A:=(age g f).2 J;unfold Fi at A;simp only[oG,dj,kB,dI]at A;have B:l.gate=m.gate:=J;refine⟨B,?_⟩;unfold fH at e2 e4;rw[B]at e2;have:=g.r0;have:=f.r0;omega
end
section
variable {F:Nat} {h:ae}
def Kt(e:Nat):(fp h e).2.2=(j6 h e).2.2/\((j6 h e).2.2->(j6 h e).1=aZ h (fp h e).2.1/\(j6 h e).2.1=aZ h (fp h e).1/\(aZ h (fp h e).1).kind=1/\(aZ h (fp h e).2.1).kind=2/\
  (((fp h e).1=e/\(fp h e).2.1=aK h e)\/((fp h e).1=aK h e/\(fp h e).2.1=e))):=by
 unfold fp j6;rw[rX,rX];by_cases H:(aZ h e).kind=1
 .have e2:((aZ h e).kind==2)=false:=by rw[H];rfl
  have e1:((aZ h e).kind==1):=by rw[H];rfl
  rw[aw (by rw[e2];decide),aH e1];simp only[e1,tg,r5];exact⟨trivial,λg=>⟨trivial,trivial,H,eq_of_beq g,.inl ⟨trivial,trivial⟩⟩⟩
 have e1:((aZ h e).kind==1)=false:=by rw[ng];exact H
 by_cases f:(aZ h e).kind=2
 .have e2:((aZ h e).kind==2):=by rw[f];rfl
  rw[aH e2,aw (by rw[e1];decide)];simp only[e2,tg];exact⟨trivial,λg=>⟨trivial,trivial,eq_of_beq g,f,.inr ⟨trivial,trivial⟩⟩⟩
 have e2:((aZ h e).kind==2)=false:=by rw[ng];exact f
 rw[aw (by rw[e2];decide),aw (by rw[e1];decide)];simp only[e1,e2,Ts];exact⟨trivial,λg=>by cases g⟩
def Sr(H:x<2*I h):qg h x=if x%2=0 then aK h (x/2)else x/2:=by unfold qg;rw[aw J]
def aiG(g:cK F h){w:aG}(N:w∈fO (cA h) (ct h))(pV:(jC F h w).places.length=1)(hx:x∈w)(Y:x<2*I h)(hu:qg h x=u){l:aa}(hl:h[u]?=some l)(pl:l.aM):
  ∃y v m,y∈w/\y<2*I h/\qg h (rv y)=v/\h[v]?=some m/\m.aM/\l.gate=m.gate/\(l.ay=m.ay+1\/m.ay=l.ay+1):=by
 have ok:=g.ok;have m:=uu ok;have Q:=Jw Y;have hv:(if x%2=0 then(x/2+1)%I h else x/2)=u:=by rw[<-hu,Sr Y]
 rw[hv]at Q;have H:=zr m N hx;rw[Q]at H;obtain⟨k,hk,Z⟩:=aEL ok hl pl (x%2==0);have B:I (qE F h k)<=1:=by
  rw[<-pV];unfold jC;rcases Z with⟨e,_⟩|⟨e,_⟩
  .have:=(akO (F:=F) (h:=h) w (dV.new h (w.headD 0))).2 _ (e▸H) J;rwa[show(2*I h+2*k-2*I h)/2=k by omega]at this
  have:=(akO (F:=F) (h:=h) w (dV.new h (w.headD 0))).2 _ (e▸H) J;rwa[show(2*I h+2*k+1-2*I h)/2=k by omega]at this
 have oU:=fC (k+1) (show 0<I (aL h) by omega);obtain⟨T,D,O⟩:=CO hk;obtain⟨X,f,M⟩:=CO oU;have g1:=g.TH D O;have g2:=g.TH f M;have wI:k+1<I (aL h)/\xV h ((aL h).getD ((k+1)%I (aL h)) 0)<=xV h ((aL h).getD k 0):=by
  unfold qE at B;simp only at B;split at B
  .rename_i ac;rw[xg]at B;exact⟨ac,J⟩
  rw[fv,xg,xg]at B;omega
 obtain⟨L,j⟩:=wI;rw[jv L]at f j;rw[Aw D,Aw f]at j;have j8:X.gate<=T.gate:=by have:=g1.g0;have:=g2.g0;omega
 obtain⟨r1,R⟩:=axW ok L rfl rfl D f O M j8;rcases Z with⟨e,E⟩|⟨e,E⟩
 .rw[e]at H;have z:=zr m N H;rw[Iw,jv L]at z;rw[E,hl]at D;cases D;have A:=(cD.1 f).1;exact⟨_,_,X,z,Dm A,by rw[zc,EH A],f,M,r1,.inr R⟩
 rw[e]at H;have z:=zr m N H;rw[Hk]at z;rw[jv L]at E;rw[E,hl]at f;cases f;have A:=(cD.1 D).1;exact⟨_,_,T,z,Dm A,by rw[zc,EH A],D,O,r1.symm,.inl R⟩
def axM(g:cK F h){w:aG}(B:w∈fO (cA h) (ct h))(E:x∈w)(T:x<2*I h)(D:qg h x=u){l:aa}(hl:h[u]?=some l)(j:l.aF):
  ∃y v m,y∈w/\y<2*I h/\qg h (rv y)=v/\h[v]?=some m/\m.aF:=by
 have ok:=g.ok;have m:=uu ok;have f:=Jw T;have L:(if x%2=0 then(x/2+1)%I h else x/2)=u:=by rw[<-D,Sr T]
 rw[L]at f;have z:=zr m B E;rw[f,Al hl j]at z;obtain⟨_,k,H,M,_⟩:=rJ ok.cr hl j;have A:=(cD.1 H).1;exact⟨_,_,k,z,Dm A,by rw[zc,EH A],H,M⟩
def aAD{D:aG}(h:I D=2){y:Nat}(f:x∈D)(H:y∈D)(A:x≠y){z:Nat}(g:z∈D):z=x\/z=y:=by
 match D,h with
 |[p,q],_=>simp only[dk,iu,or_false]at f H g;omega
def aoT{l:aa}(h:l.kind=1)(H:l.aF):False:=by rw[awR H]at h;cases h
def aE4(g:cK F h){a b:Nat}(ha:a<I h)(hb:b<I h)(ez:a≠b)(ma:(j6 h a).2.2)(mb:(j6 h b).2.2)(ho:vP F h 1 [a,b]):yB (j6 h a).2.1 (j6 h b).2.1:=by
 obtain⟨_,p1,p2,R,L⟩:=And.intro (Kt (h:=h) a).1 ((Kt (h:=h) a).2 ma);obtain⟨_,q1,q2,T,B⟩:=And.intro (Kt (h:=h) b).1 ((Kt (h:=h) b).2 mb);rw[p2,q2];unfold vP at ho;obtain⟨f,hf,O⟩:=CQ.1 ho;obtain⟨w,hw,rfl⟩:=eg.1 hf;unfold CE at O;simp only[dj,dI,dw,eK,mN,oc,r5,mP]at O;obtain⟨yD,pV,xa,xb⟩:=O;have mem:∀x,x∈(jC F h w).cn↔x∈w/\x<2*I h:=λx=>by rw[Ez,uQ,kB]
 have ex:∀e,(decide (2*e∈(jC F h w).cn)==decide (2*e+1∈(jC F h w).cn))=false->∃d,d∈(jC F h w).cn/\d/2=e:=by
  intro e O;by_cases A:2*e∈(jC F h w).cn
  .exact⟨_,A,J⟩
  by_cases u:2*e+1∈(jC F h w).cn
  .exact⟨_,u,J⟩
  rw[tJ A,tJ u]at O;cases O
 obtain⟨x,hx,xe⟩:=ex a xa;obtain⟨y,hy,ye⟩:=ex b xb;have kM:x≠y:=λe=>ez (by rw[<-xe,<-ye,e]);obtain⟨xw,xl⟩:=(mem x).1 hx;obtain⟨yw,yl⟩:=(mem y).1 hy;have only:∀z,z∈w->z<2*I h->z=x\/z=y:=λz A u=>aAD yD hx hy kM ((mem z).2 ⟨A,u⟩)
 have E:∀ {d e:Nat},d/2=e->d<2*I h->(((fp h e).1=e/\(fp h e).2.1=aK h e)\/((fp h e).1=aK h e/\(fp h e).2.1=e))->
   (qg h d=(fp h e).1/\qg h (rv d)=(fp h e).2.1)\/(qg h d=(fp h e).2.1/\qg h (rv d)=(fp h e).1):=by
  intro d e th DT hc;have hr:=Aq DT;rw[Sr DT,Sr hr,asy,th];rcases w6 d with c|c
  .have c':rv d%2=1:=by unfold rv;rw[aH c];omega
   rw[aH c,aw J];rcases hc with⟨m,j⟩|⟨m,j⟩<;>rw[m,j]<;>simp
  have c':rv d%2=0:=by unfold rv;rw[aw J];omega
  rw[aw J,aH c'];rcases hc with⟨m,j⟩|⟨m,j⟩<;>rw[m,j]<;>simp
 have D:∀ {e:Nat},e<I h->(((fp h e).1=e/\(fp h e).2.1=aK h e)\/((fp h e).1=aK h e/\(fp h e).2.1=e))->(fp h e).1<I h/\(fp h e).2.1<I h:=λhe hc=>by
  have:=g.CV ‹Nat›;rcases hc with⟨m,j⟩|⟨m,j⟩<;>rw[m,j]
  .exact⟨he,g.CV _⟩
  exact⟨g.CV _,he⟩
 obtain⟨Da,Gc⟩:=D ha L.2;obtain⟨Q7,ac⟩:=D hb B.2;have hP:=js Da;have hV:=js Gc;have hQ:=js Q7;have hW:=js ac;have z_:=E xe xl L.2;have Ey:=E ye yl B.2;have fin:∀ {P Q:aa},P.kind=1->Q.kind=1->P.gate=Q.gate->(P.ay=Q.ay+1\/Q.ay=P.ay+1)->yB P Q:=λA u h3 h4=>by unfold yB;simp[A,u,h3,h4]
 rcases z_ with⟨x1,X⟩|⟨x1,X⟩
 .obtain⟨z,v,mm,M,N,Z,H,pm,r1,r2⟩:=aiG g hw pV xw xl x1 hP (H7 R);rcases only z M N with rfl|rfl
  .rw[X]at Z;subst Z;rw[hV]at H;cases H;rw[acD pm]at L;exact absurd L.1 U
  rcases Ey with⟨y1,Y⟩|⟨y1,Y⟩
  .rw[Y]at Z;subst Z;rw[hW]at H;cases H;rw[acD pm]at B;exact absurd B.1 U
  rw[Y]at Z;subst Z;rw[hQ]at H;cases H;exact fin R T r1 r2
 rcases Ey with⟨y1,Y⟩|⟨y1,Y⟩
 .obtain⟨z,v,mm,M,N,Z,H,pm,r1,r2⟩:=aiG g hw pV yw yl y1 hQ (H7 T);rcases only z M N with rfl|rfl
  .rw[X]at Z;subst Z;rw[hP]at H;cases H;exact fin R T r1.symm r2.symm
  rw[Y]at Z;subst Z;rw[hW]at H;cases H;rw[acD pm]at B;exact absurd B.1 U
 obtain⟨z,v,mm,M,N,Z,H,cm⟩:=axM g hw xw xl x1 hV (Ai L.1);rcases only z M N with rfl|rfl
 .rw[X]at Z;subst Z;rw[hP]at H;cases H;exact absurd cm λO=>aoT R O
 rw[Y]at Z;subst Z;rw[hQ]at H;cases H;exact absurd cm λO=>aoT T O
def aet(x y:aa):oE x y↔x=y:=by
 constructor
 .intro h;unfold oE at h;simp only[dj,dI]at h;obtain⟨j,f,u,g,m,H⟩:=h;cases x;cases y;simp only at j f u g m H;subst j f u g m H;rfl
 rintro rfl;exact OR x
def ah4(g:cK F h){i:Nat}{l:aa}(hl:h[i]?=some l)(H:l.kind=1):l=⟨1,l.gate,l.ay,0,0,false⟩:=by have u:=g.bad l (ch hl);rw[sU (H7 H)]at u;obtain⟨⟨⟨_,j⟩,f⟩,m⟩:=u;cases l;simp only at H j f m |-;subst H j f m;rfl
def aCn(g:cK F h){i:Nat}(y:i<I h)(A:j<I h)(D:(aZ h i).kind=1)(z:(aZ h j).kind=1)(N:(aZ h i).gate=(aZ h j).gate)(x:(aZ h i).ay≠(aZ h j).ay):
  (h.set i (aZ h j)).set j (aZ h i)=h.map (nJ (aZ h i) (aZ h j)):=by
 have B:=js y;have u:=js A;have M:i≠j:=λe=>x (by rw[e]);apply y_;intro k;rw[fY,mA,mA,kI];have f:nJ (aZ h i) (aZ h j) (aZ h i)=aZ h j:=by unfold nJ;rw[aH (OR _)]
 have E:nJ (aZ h i) (aZ h j) (aZ h j)=aZ h i:=by unfold nJ;rw[aw (λH=>x (by rw[(aet _ _).1 H])),aH (OR _)]
 by_cases e1:j=k
 .subst e1;rw[aH rfl,aH A,u,se,E]
 rw[aw e1];by_cases e2:i=k
 .subst e2;rw[aH rfl,aH y,B,se,f]
 rw[aw e2];by_cases L:k<I h
 .have m:=js L;rw[m,se];congr 1;unfold nJ;rw[aw,aw]
  .intro H;have H:=(aet _ _).1 H;exact e1 (g.one u m (H7 z) (by rw[H];exact H7 z) (by rw[H]) (by rw[H]))
  intro H;have H:=(aet _ _).1 H;exact e2 (g.one B m (H7 D) (by rw[H];exact H7 D) (by rw[H]) (by rw[H]))
 rw[oF J];rfl
def alK{l:cY}{i:Nat}{p:aU}{r:Int}(h:l[i]?=some p):kn l i r=l.set i {p with l:={p.l with ay:=r}}:=by unfold kn;rw[dS,h];rfl
def aBP(g:cK F h){a b:Nat}(m:a<I h)(y:b<I h)(ez:a≠b):
  (vQ F h a b).isSome=Gk F h a b/\
  ∀L,vQ F h a b=some L->lH L (gL (gL (h.map (nJ (j6 h a).2.1 (j6 h b).2.1)) a (aK h a)) b (aK h b)) (gL (gL (lC h) a (aK h a)) b (aK h b)):=by
 have cN:=adD (F:=F) (g:=h) (pl:=1) (E:=[a,b]) rfl m;obtain⟨ea,pa⟩:=Kt (h:=h) a;obtain⟨eb,pb⟩:=Kt (h:=h) b;obtain⟨O,Gc⟩:=Q8 m;obtain⟨B,D⟩:=Q8 y;have Ci:((fp h a).2.2&&((fp h b).2.2&&(!((fp h a).2.1==(fp h b).2.1)&&(((aW h (fp h a).2.1).l.id==(aW h (fp h b).2.1).l.id)&&oT F h 1 [a,b] a))))=Gk F h a b:=by
  unfold Gk;rw[ea,eb,cN,rX,rX];cases u:(j6 h a).2.2 with
  |false=>rfl
  |true=>
  cases j:(j6 h b).2.2 with
  |false=>rfl
  |true=>
  obtain⟨p1,T,x,p4,p5⟩:=pa u;obtain⟨q1,Z,z,q4,q5⟩:=pb j;cases h3:vP F h 1 [a,b]with
  |false=>simp
  |true=>
  have H:=aE4 g m y ez u j h3;rw[H,p1,q1];simp only[tg,r5];cases h4:((aZ h (fp h a).2.1).id==(aZ h (fp h b).2.1).id)with
  |false=>simp
  |true=>
  simp only[r5,tg];congr 1;rw[sH,dI,dI];constructor
  .intro e;rw[e]
  intro e;apply Classical.byContradiction;intro E;exact(g.ids.2 _ _ _ _ (js Gc) (js D) (Ai p4) (Ai q4) (eq_of_beq h4) E).1 e
 unfold vQ;rw[Ci];refine⟨by split<;>simp_all,λL A=>?_⟩;split at A
 .rename_i M;cases A;unfold Gk at M;simp only[dj]at M;obtain⟨u,j,_,_,H,_⟩:=M;obtain⟨p1,T,x,p4,p5⟩:=pa u;obtain⟨q1,Z,z,q4,q5⟩:=pb j;rw[T,Z]at H |-;unfold yB at H;simp only[dj,oG,dI]at H;obtain⟨_,_,N,hr⟩:=H;have T8:(aZ h (fp h a).1).ay≠(aZ h (fp h b).1).ay:=J;have E:(fp h a).1≠(fp h b).1:=λe=>T8 (by rw[e])
  have gp:=ah4 g (js O) x;have X:=ah4 g (js B) z;generalize ie:(fp h a).1=f at*;generalize FX:(fp h b).1=Q at*;have Y:=apa O;have s2:=apa B;have r1:=(lH.base h).set Y (q:={aW h f with l:={(aW h f).l with ay:=(aW h Q).l.ay}}) rfl rfl;have t2:((cq h).set f {aW h f with l:={(aW h f).l with ay:=(aW h Q).l.ay}})[Q]?=some (aW h Q):=by rw[List.getElem?_set_ne E];exact s2
  have R:=r1.set t2 (q:={aW h Q with l:={(aW h Q).l with ay:=(aW h f).l.ay}}) rfl rfl;have eL:(h.set f ({(aW h f).l with ay:=(aW h Q).l.ay}:aa)).set Q ({(aW h Q).l with ay:=(aW h f).l.ay}:aa)=h.map (nJ (aZ h f) (aZ h Q)):=by
   rw[<-aCn g O B x z N T8,rX,rX];have x1:({aZ h f with ay:=(aZ h Q).ay}:aa)=aZ h Q:=by rw[gp,X,N]
   have x2:({aZ h Q with ay:=(aZ h f).ay}:aa)=aZ h f:=by rw[gp,X,N]
   rw[x1,x2]
  have eS:kn (kn (cq h) f (aW h Q).l.ay) Q (aW h f).l.ay=((cq h).set f {aW h f with l:={(aW h f).l with ay:=(aW h Q).l.ay}}).set Q {aW h Q with l:={(aW h Q).l with ay:=(aW h f).l.ay}}:=by rw[alK Y,alK t2]
  simp only at R;rw[eL]at R;rw[eS];unfold jQ;simp only[vi,IH];have QB:I (((cq h).set f {aW h f with l:={(aW h f).l with ay:=(aW h Q).l.ay}}).set Q {aW h Q with l:={(aW h Q).l with ay:=(aW h f).l.ay}})=I h:=by simp[cU]
  rw[N8 g QB m,N8 g (by rw[wB,QB]) y];exact(R.sw _ _).sw _ _
 cases A
end
end
end Go.Abs
