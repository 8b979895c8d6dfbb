/- A part. -/
import Derived.Test.YtkdkhndppjfpmaaGreatDoorDa
set_option linter.all false
open List renaming length->I
set_option maxRecDepth 100000
set_option maxHeartbeats 16000000
namespace Go.Abs
variable{u x z n m O T X f j A R:Nat}{L:ai}{D:dS}{g M E v:Int}{B:dd}{H:dT}{N:q_}
section
variable{h:ai}{F:Nat}
abbrev Ak(idL d_ idD gD:Nat)(n m:Nat):V:=.agg [.hsl idL d_ 6 0 n,.hsl idD gD 1 0 m]
def M1{aj:aN}{d_:Nat}(h:aj u=(d_,some (.arr eo 6 (bP L))))(H:aj x=(z,some (.arr 4 1 (dB D)))):lH aj (Ak u d_ x z n m)=[u,x]:=by have a:lH aj (.one (.hsl u d_ 6 0 n))=[u]:=It h;have b:lH aj (.one (.hsl x z 1 0 m))=[x]:=It H;simp only[lH]at a b |-;simp[a,b]
def QY:S.sites 77=[77]:=ah
def adZ:S.sites 81=[81]:=ah
def afB:S.sites 80=[80]:=ah
def avf{al:cT}{aj:aN}{f:Abs.dI}{g:V}(O:al.ok 5184000000):
  ∃v A,lK S 81 [.agg [.p .nils,f],g] al aj v A/\v=.tup []/\dE (· =5184000000) aj A:=by
 refine qK ai2 (jc rfl) ?_;simp only[go_sem,abi,O,af,ao];refine sZ ?_;have h:decide ((0:Int)<((0:Nat):Int))=false:=rfl;simp only[go_sem,VU,O,h,af,ao];exact dE.dx (dE.refl (λi=>i=5184000000) aj) rfl _
section
variable {Q:hs} {os all:fI} {d:eC} {y:ct} {aj:aN} {tr:gr} {u d_ x z:Nat} {L:ai} {D:dS}
def asj(N:u≠4928000000)(hl:I L<=1000000)(H:∀X∈L,IntKind.i64.wrap (X.ay-E)=X.ay-E)(h:aj u=(d_,some (.arr eo 6 (bP L))))(O:aj x=(z,some (.arr 4 1 (dB D))))
  (F:∀A,A u=(d_,some (.arr eo 6 (bP (L.map (oc g M E)))))->(∀i,i≠u->i≠4928000000->A i=aj i)->jI S .all os Q (dP y d (.tup [])) A):
  kn S .all (.sc 77 [Ak u d_ x z (I L) (I D),aH g,aH M,aH E]) d os Q y aj:=by
 have j:=M1 (n:=I L) (m:=I D) h O;refine sG (P:=Nv u d_ 4928000000 (L.map (oc g M E)) aj) t_ (ajL (tu ?_) (yu (by rw[QY];decide)) N hl h H) ?_
 .simp only[eJ,mO,j];simp
 rintro v A ⟨rfl,B,f⟩
 exact F A B λi a b=>f i (by simp[a,b])
def av4{c:Abs.dI}(h:∀A,(∀i,i≠4928000000->A i=aj i)->jI S .all os Q (dP y d (.tup [])) A):
  kn S .all (.sc 77 [.agg [.p .nils,c],aH g,aH M,aH E]) d os Q y aj:=by
 refine sG (P:=λv A=>v=.tup []/\dE (· =4928000000) aj A) t_ (aCT (yu (by rw[QY];decide))) ?_;rintro v A ⟨rfl,H⟩
 exact h A λi a=>H i a
def akO(n2:u≠5184000000)(N:O≠5184000000)(R:u≠O)(hl:I L<=1000000)(F:I B<=1000000)(j:∀ac∈L,∀k:Nat,k<=I B->IntKind.i64.wrap (ac.id-(k:Int))=ac.id-k)(f:aj u=(d_,some (.arr eo 6 (bP L))))(M:aj x=(z,some (.arr 4 1 (dB D))))(H:aj O=(T,some (.arr X 1 (fy B))))
  (Z:∀A,A u=(d_,some (.arr eo 6 (bP (L.map (oL B)))))->(∀i,i≠u->i≠5184000000->A i=aj i)->jI S .all os Q (dP y d (.tup [])) A):
  kn S .all (.sc 81 [Ak u d_ x z (I L) (I D),.one (.hsl O T 1 0 (I B))]) d os Q y aj:=by
 have h:=M1 (n:=I L) (m:=I D) f M;have g:lH aj (.one (.hsl O T 1 0 (I B)))=[O]:=It H;refine sG (P:=Nv u d_ 5184000000 (L.map (oL B)) aj) t_ (aAL (tu ?_) (tu ?_) (yu (by rw[adZ];decide)) n2 N R hl F f H j) ?_
 .simp only[eJ,mO,h,g];simp
 .simp only[eJ,mO,h,g];simp
 rintro v A ⟨rfl,Y,E⟩
 exact Z A Y λi a b=>E i (by simp[a,b])
def anr{c:Abs.dI}(f:aj O=(T,some (.arr X 1 (fy B))))(H:∀A,(∀i,i≠5184000000->A i=aj i)->jI S .all os Q (dP y d (.tup [])) A):
  kn S .all (.sc 81 [.agg [.p .nils,c],.one (.hsl O T 1 0 (I B))]) d os Q y aj:=by
 refine sG (P:=λv A=>v=.tup []/\dE (· =5184000000) aj A) t_ (avf (yu (by rw[adZ];decide))) ?_;rintro v A ⟨rfl,h⟩
 exact H A λi a=>h i a
def apm{al:cT}{P:V->aN->Prop}(j:al.holds (iB (S.ctx al) f H aj))(h:∃v A,lK S f H (iB (S.ctx al) f H aj) aj v A/\P v A)
  (m:∀v A,P v A->qp S al all os Q (dP y d v) A (tr++[⟨(iB (S.ctx al) f H aj).ids,(iB (S.ctx al) f H aj).ids,(iB (S.ctx al) f H aj).fs⟩])):sW S al (.sc f H) d all os Q y aj tr:=by
 obtain⟨v,A,n,g⟩:=h;exact⟨j,v,A,n,m v A g⟩
def auY{i:Nat}{X Y:aa}{c e:Bool}(n1:u≠x)(n2:u≠5120000000)(O:x≠5120000000)(f:aj u=(d_,some (.arr eo 6 (bP L))))(H:aj x=(z,some (.arr 4 1 (dB D))))(g:I D=I L)(T:L[i]?=some X)(F:L[j]?=some Y)(hc:D[i]?=some c)(Z:D[j]?=some e)(M:i≠j)
  (hK:∀A,A u=(d_,some (.arr eo 6 (bP (EV L i j X Y))))->A x=(z,some (.arr 4 1 (dB (EV D i j c e))))->(∀q,q≠u->q≠x->q≠5120000000->A q=aj q)->qp S .all all os Q (dP y d (.tup [])) A (tr++[⟨[u,x],[u,x],[80]⟩])):
  sW S .all (.sc 80 [Ak u d_ x z (I L) (I D),aH i,aH j]) d all os Q y aj tr:=by
 have h:=M1 (n:=I L) (m:=I D) f H;have R:(iB (S.ctx .all) 80 [Ak u d_ x z (I L) (I D),aH i,aH j] aj).ids=[u,x]:=by show(([Ak u d_ x z (I L) (I D),aH i,aH j]:dT).map (lH aj)).flatten=_;simp only[eJ,mO,h];rfl
 have B:(iB (S.ctx .all) 80 [Ak u d_ x z (I L) (I D),aH i,aH j] aj).fs=[80]:=afB;refine apm (P:=ajs u d_ x z 5120000000 (EV L i j X Y) (EV D i j c e) aj) t_ (aza (tu ?_) (tu ?_) (yu (by rw[afB];decide)) n1 n2 O f H g T F hc Z M) ?_
 .simp only[eJ,mO,h];simp
 .simp only[eJ,mO,h];simp
 rintro v A ⟨rfl,h1,E,N⟩
 rw[R,B];exact hK A h1 E λq a b c=>N q (by simp[a,b,c])
end
abbrev sI(F:Nat)(L:ai)(D:dS):RV:=.agg [.p (.int .i64 F),cF eo 6 (bP (lp L D))]
def acH{α β:Type}(l:List α)(m:List β)(out:aF)(u:I m=I l):I (ke m out)=I (ke l out):=by
 suffices g:∀k,k<=I l->I (vb m out k)=I (vb l out k) by
  have:=g (I l) (c3 _)
  simpa only[ke,u]using this
 intro k
 induction k with
 |zero=>intro _;rfl
 |succ k f=>
  intro g;have f:=f J;by_cases H:k∈out
  .rw[Sk H,Sk H,f]
  obtain⟨x,n⟩:=aT (L:=l) (k:=k) J;obtain⟨y,j⟩:=aT (L:=m) (k:=k) J;rw[Rq H n,Rq H j];simp[f]
def abP{α:Type}(l:List α)(out:aF):I (ke l out)<=I l:=abo _ _ _
def SJ{α:Type}{l:List α}{out:aF}{x:α}(h:x∈ke l out):x∈l:=by
 obtain⟨k,_,H⟩:=BC.1 h;unfold FT at H;split at H
 .cases H
 exact bR H
def qG(F:Nat)(h:ai):(kz (dG F h)).take (I (dG F h))=kz (dG F h):=fx aP
def Wk:wW [] []=.agg [.p .nils,.p .nils]:=by simp[wW,cF]
def avG(g:cE F h)(k:Nat)(b c:Int)(l o:Bool)(sg:Int){x:aa}(X:h[k]?=some x)(hl:I h<=400)(E:∀x∈h,∀k:Nat,k<=4->IntKind.i64.wrap (x.id-(k:Int))=x.id-k):
  aK S 43 [c_ F h,ep 4 k b c l o sg] (sI F ((ke h [k,aJ h k]).map (oL [x.id])) (ke (fL h) [k,aJ h k])):=by
 have m:=(cn.1 X).1;have j:=DZ g;have z:=EX (F:Int) h J;have Y:S.lone 2752064064=false:=ah;have Z:S.lone 2752128064=false:=ah;have T:S.lone 2755136128=false:=ah;rw[ri (ET g)]at j;have ru:=ui g.ne (nQ h);simp only[wW]at ru;rw[ru]at z;have N:=BG (F:=F) m J;have pw:=adj h (fL h) [k,aJ h k] J (nQ h) aP;have v:=acH h (fL h) [k,aJ h k] (nQ h);have ac:=abP h [k,aJ h k];have Pn:∀y∈ke h [k,aJ h k],y∈h:=λy ad=>SJ ad;have R:S.lone 2753536512=false:=ah;have M:=gb X;have e1:a_ [k,aJ h k]=[[.int .i64 k],[.int .i64 ((k+1)%I h:Nat)]]:=rfl;rw[e1]at pw;generalize hL:ke h [k,aJ h k]=ch at*;generalize hD:ke (fL h) [k,aJ h k]=V at*;by_cases A:ch=[]
 .subst A;have hV:V=[]:=vj.1 v;subst hV;rw[Wk]at pw;have f:aK S 84 [.agg [.p (.sl []),.p (.sl [])],c_ F h] (.agg [.p (.int .i64 F),.p .nils]):=AI (F:Int) h [] [] aP rfl;have e0:bP (lp [] [])=[]:=rfl;simp only[sI,lr,e0];rw[Wd];refine bj Ai ?_;simp only[go_sem,zf,ya,ia j Y (.inl rfl),af,ao];simp only[go_sem,Az,ia z Z (.inl rfl),ml,qE,qG,w9,dp N,M,aa.ps,m,Kl,vr pw R (.inr rfl),SE,af,ao];refine⟨aA,?_⟩;refine anr (B:=[x.id]) (by simp only[go_sem];rfl) λbG H=>?_;have Q:=H 2752000000 U;have n:=H 2752000128 U;have u:=H 2752128128 U;simp only[go_sem]at Q n u;simp only[go_sem,Q,n,u,ml,qE,qG,yC,zI,ia f T (.inr rfl),af,ao];try rfl
 rw[ui A v]at pw;have cV:I (lp (ch.map (oL [x.id])) V)=I ch:=by rw[Ep,cY]
 have f:=AI (F:Int) h (ch.map (oL [x.id])) V (by simp only[cY];omega) (by rw[cY];exact v);have jD:lp (ch.map (oL [x.id])) V≠[]:=λe=>A (vj.1 (by rw[<-cV,e];rfl));simp only[sI];rw[ri (AO jD)]at f |-;refine bj Ai ?_;simp only[go_sem,zf,ya,ia j Y (.inl rfl),af,ao];simp only[go_sem,Az,ia z Z (.inl rfl),ml,qE,qG,w9,dp N,M,aa.ps,m,Kl,vr pw R (.inr (Cz _ _)),SE,af,ao];refine⟨aA,?_⟩;refine akO (L:=ch) (D:=V) (B:=[x.id]) U U U J aP (λy hy k m=>E y (Pn y hy) k (by simp at m;omega)) (by simp only[go_sem]) (by simp only[go_sem]) (by simp only[go_sem];rfl) λbG h1 H=>?_
 have Q:=H 2752000000 U U;have n:=H 2752000128 U U;have u:=H 2752128128 U U;have O:=H 2753536513 U U;simp only[go_sem]at Q n u O;generalize Pm:ch.map (oL [x.id])=W2 at*;have tk:I ch=I W2:=by rw[<-Pm,cY]
 simp only[go_sem,h1,tk,Q,n,u,O,ml,qE,qG,yC,zI,ia f T (.inr (EK _ _)),af,ao];simp[iR,n_,lX,kS,ij,cD,mg,pK,oh,mV,ml]
def aq3(g:cE F h)(k:Nat)(b c:Int)(l o:Bool)(sg:Int)(u:k<I h)(hl:I h<=400)(jZ:∀x∈h,IntKind.i64.wrap (x.ay-2)=x.ay-2):
  aK S 43 [c_ F h,ep 1 k b c l o sg] (sI F ((ke h [k,aJ h k]).map (oc (aY h k).gate (if(aY h (aJ h k)).ay<(aY h k).ay then(aY h (aJ h k)).ay else(aY h k).ay) 2)) (ke (fL h) [k,aJ h k])):=by
 have j:=DZ g;have z:=EX (F:Int) h J;have R:S.lone 2752064064=false:=ah;have T:S.lone 2752128064=false:=ah;have O:S.lone 2755136128=false:=ah;rw[ri (ET g)]at j;have Z:=ui g.ne (nQ h);simp only[wW]at Z;rw[Z]at z;have B:=BG (F:=F) u J;have pw:=adj h (fL h) [k,aJ h k] J (nQ h) aP;have v:=acH h (fL h) [k,aJ h k] (nQ h);have ac:=abP h [k,aJ h k];have Pn:∀y∈ke h [k,aJ h k],y∈h:=λy ad=>SJ ad;have N:S.lone 2752384512=false:=ah;have pb:=K9 (F:=F) u J;have E:S.lone 2752320192=false:=ah
 have e1:a_ [k,aJ h k]=[[.int .i64 k],[.int .i64 ((k+1)%I h:Nat)]]:=rfl;rw[e1]at pw;generalize hL:ke h [k,aJ h k]=ch at*;generalize hD:ke (fL h) [k,aJ h k]=V at*;generalize aY h k=X at*;generalize aY h (aJ h k)=Y at*;by_cases A:ch=[]
 .subst A;have hV:V=[]:=vj.1 v;subst hV;rw[Wk]at pw;have f:aK S 84 [.agg [.p (.sl []),.p (.sl [])],c_ F h] (.agg [.p (.int .i64 F),.p .nils]):=AI (F:Int) h [] [] aP rfl;have e0:bP (lp [] [])=[]:=rfl;simp only[sI,lr,e0];rw[Wd];refine bj Ai ?_;simp only[go_sem,zf,ya,ia j R (.inl rfl),af,ao];simp only[go_sem,Az,ia z T (.inl rfl),ml,qE,qG,w9,dp B,aa.ps,u,AY,ia pb E (.inr rfl),Kl,vr pw N (.inr rfl),aba,af,ao];refine⟨aA,?_⟩;refine av4 λbG H=>?_;have Q:=H 2752000000 U;have m:=H 2752000128 U;have n:=H 2752128128 U;simp only[go_sem]at Q m n;simp only[go_sem,Q,m,n,ml,qE,qG,yC,zI,ia f O (.inr rfl),af,ao];try rfl
 rw[ui A v]at pw;have cV:I (lp (ch.map (oc X.gate (if Y.ay<X.ay then Y.ay else X.ay) 2)) V)=I ch:=by rw[Ep,cY]
 have f:=AI (F:Int) h (ch.map (oc X.gate (if Y.ay<X.ay then Y.ay else X.ay) 2)) V (by simp only[cY];omega) (by rw[cY];exact v);have jD:lp (ch.map (oc X.gate (if Y.ay<X.ay then Y.ay else X.ay) 2)) V≠[]:=λe=>A (vj.1 (by rw[<-cV,e];rfl));simp only[sI];rw[ri (AO jD)]at f |-;refine bj Ai ?_;simp only[go_sem,zf,ya,ia j R (.inl rfl),af,ao];simp only[go_sem,Az,ia z T (.inl rfl),ml,qE,qG,w9,dp B,aa.ps,u,AY,ia pb E (.inr rfl),Kl,vr pw N (.inr (Cz _ _)),aba,af,ao];refine⟨aA,?_⟩;refine asj (L:=ch) (D:=V) U J (λy hy=>jZ y (Pn y hy)) (by simp only[go_sem]) (by simp only[go_sem]) λbG h1 H=>?_
 have Q:=H 2752000000 U U;have m:=H 2752000128 U U;have n:=H 2752128128 U U;have M:=H 2752384513 U U;simp only[go_sem]at Q m n M;generalize Pm:ch.map (oc X.gate (if Y.ay<X.ay then Y.ay else X.ay) 2)=W2 at*;have tk:I ch=I W2:=by rw[<-Pm,cY]
 simp only[go_sem,h1,tk,Q,m,n,M,ml,qE,qG,yC,zI,ia f O (.inr (EK _ _)),af,ao];simp[iR,n_,lX,kS,ij,cD,mg,pK,oh,mV,ml]
def asH(g:cE F h)(k j:Nat)(c:Int)(l o:Bool)(sg:Int)(n:k<I h)(hj:j<I h)(hl:I h<=400)(M:∀x∈h,∀k:Nat,k<=4->IntKind.i64.wrap (x.id-(k:Int))=x.id-k):
  aK S 43 [c_ F h,ep 6 k j c l o sg] (sI F ((ke h [k,aJ h k,j,aJ h j]).map (oL [(aY h k).id,(aY h (aJ h k)).id])) (ke (fL h) [k,aJ h k,j,aJ h j])):=by
 have m:=DZ g;have A:=EX (F:Int) h J;have l1:S.lone 2752064064=false:=ah;have l2:S.lone 2752128064=false:=ah;have l4:S.lone 2755136128=false:=ah;rw[ri (ET g)]at m;have ru:=ui g.ne (nQ h);simp only[wW]at ru;rw[ru]at A;have O:=BG (F:=F) n J;have pw:=adj h (fL h) [k,aJ h k,j,aJ h j] J (nQ h) aP;have z:=acH h (fL h) [k,aJ h k,j,aJ h j] (nQ h);have ac:=abP h [k,aJ h k,j,aJ h j];have Pn:∀y∈ke h [k,aJ h k,j,aJ h j],y∈h:=λy ad=>SJ ad;have Z:S.lone 2754112896=false:=ah;have pb:=K9 (F:=F) n J;have N:=BG (F:=F) hj J;have R:S.lone 2754048192=false:=ah
 have e1:a_ [k,aJ h k,j,aJ h j]=[[.int .i64 k],[.int .i64 ((k+1)%I h:Nat)],[.int .i64 j],[.int .i64 ((j+1)%I h:Nat)]]:=rfl;rw[e1]at pw;generalize hL:ke h [k,aJ h k,j,aJ h j]=ch at*;generalize hD:ke (fL h) [k,aJ h k,j,aJ h j]=V at*;generalize aY h k=X at*;generalize aY h (aJ h k)=Y at*;by_cases E:ch=[]
 .subst E;have hV:V=[]:=vj.1 z;subst hV;rw[Wk]at pw;have f:aK S 84 [.agg [.p (.sl []),.p (.sl [])],c_ F h] (.agg [.p (.int .i64 F),.p .nils]):=AI (F:Int) h [] [] aP rfl;have e0:bP (lp [] [])=[]:=rfl;simp only[sI,lr,e0];rw[Wd];refine bj Ai ?_;simp only[go_sem,zf,ya,ia m l1 (.inl rfl),af,ao];simp only[go_sem,Az,ia A l2 (.inl rfl),ml,qE,qG,w9,dp O,aa.ps,n,AY,ia pb R (.inr rfl),dp N,Kl,vr pw Z (.inr rfl),SE,af,ao];refine⟨aA,?_⟩;refine anr (B:=[X.id,Y.id]) (by simp only[go_sem];rfl) λbG H=>?_
  have Q:=H 2752000000 U;have u:=H 2752000128 U;have v:=H 2752128128 U;simp only[go_sem]at Q u v;simp only[go_sem,Q,u,v,ml,qE,qG,yC,zI,ia f l4 (.inr rfl),af,ao];try rfl
 rw[ui E z]at pw;have cV:I (lp (ch.map (oL [X.id,Y.id])) V)=I ch:=by rw[Ep,cY]
 have f:=AI (F:Int) h (ch.map (oL [X.id,Y.id])) V (by simp only[cY];omega) (by rw[cY];exact z);have jD:lp (ch.map (oL [X.id,Y.id])) V≠[]:=λe=>E (vj.1 (by rw[<-cV,e];rfl));simp only[sI];rw[ri (AO jD)]at f |-;refine bj Ai ?_;simp only[go_sem,zf,ya,ia m l1 (.inl rfl),af,ao];simp only[go_sem,Az,ia A l2 (.inl rfl),ml,qE,qG,w9,dp O,aa.ps,n,AY,ia pb R (.inr rfl),dp N,Kl,vr pw Z (.inr (Cz _ _)),SE,af,ao];refine⟨aA,?_⟩;refine akO (L:=ch) (D:=V) (B:=[X.id,Y.id]) U U U J aP (λy hy k n=>M y (Pn y hy) k (by simp at n;omega)) (by simp only[go_sem]) (by simp only[go_sem]) (by simp only[go_sem];rfl) λbG h1 H=>?_
 have Q:=H 2752000000 U U;have u:=H 2752000128 U U;have v:=H 2752128128 U U;have T:=H 2754112897 U U;simp only[go_sem]at Q u v T;generalize Pm:ch.map (oL [X.id,Y.id])=W2 at*;have tk:I ch=I W2:=by rw[<-Pm,cY]
 simp only[go_sem,h1,tk,Q,u,v,T,ml,qE,qG,yC,zI,ia f l4 (.inr (EK _ _)),af,ao];simp[iR,n_,lX,kS,ij,cD,mg,pK,oh,mV,ml]
def af6{α:Type}{l:List α}{i:Nat}{x y:α}(h:l[i]?=some x)(H:l[j]?=some y):gY l i j=EV l i j x y:=by unfold gY;rw[h,H];rfl
def xX{α:Type}(l:List α)(i j:Nat):I (gY l i j)=I l:=by unfold gY;split<;>simp
section
variable {Q:hs} {os all:fI} {d:eC} {y:ct} {aj:aN} {tr:gr} {u d_ x z:Nat} {L:ai} {D:dS}
def Qx{i:Nat}(M:u≠x)(R:u≠5120000000)(N:x≠5120000000)(T:aj u=(d_,some (.arr eo 6 (bP L))))(F:aj x=(z,some (.arr 4 1 (dB D))))(hl:I L=n)(H:I D=n)(Y:i<n)(Z:j<n)(E:i≠j)
  (O:∀A,A u=(d_,some (.arr eo 6 (bP (gY L i j))))->A x=(z,some (.arr 4 1 (dB (gY D i j))))->(∀q,q≠u->q≠x->q≠5120000000->A q=aj q)->qp S .all all os Q (dP y d (.tup [])) A (tr++[⟨[u,x],[u,x],[80]⟩])):
  sW S .all (.sc 80 [Ak u d_ x z n n,aH i,aH j]) d all os Q y aj tr:=by
 obtain⟨ad,g⟩:=aT (L:=L) (k:=i) J;obtain⟨ac,f⟩:=aT (L:=L) (k:=j) J;obtain⟨c,v⟩:=aT (L:=D) (k:=i) J;obtain⟨e,m⟩:=aT (L:=D) (k:=j) J;have X:=auY (Q:=Q) (os:=os) (all:=all) (d:=d) (y:=y) (tr:=tr) M R N T F (H.trans hl.symm) g f v m E λA a b B=>O A (by rw[af6 g f];exact a) (by rw[af6 v m];exact b) B;rw[hl,H]at X;exact X
end
def OK{k:Nat}(H:2<=I h):aJ h k<I h:=fk _ J
def aoR(g:cE F h)(i j k:Nat)(l o:Bool)(sg:Int)(hi:i<I h)(hj:j<I h)(M:k<I h)(H:2<=I h)(hl:I h<=400):
  aK S 43 [c_ F h,ep 8 i j k l o sg] (sI F (gY (gY (gY h i (aJ h i)) j (aJ h j)) k (aJ h k)) (gY (gY (gY (fL h) i (aJ h i)) j (aJ h j)) k (aJ h k))):=by
 have u:=DZ g;have po:=EX (F:Int) h J;have l1:S.lone 2752064064=false:=ah;have l2:S.lone 2752128064=false:=ah;have l4:S.lone 2755136128=false:=ah;rw[ri (ET g)]at u;have ru:=ui g.ne (nQ h);simp only[wW]at ru;rw[ru]at po;have gk:=BG (F:=F) hi J;have fM:=BG (F:=F) hj J;have N:=BG (F:=F) M J;have x1:=xX h i (aJ h i);have x2:=(xX (gY h i (aJ h i)) j (aJ h j)).trans x1;have X:=(xX (gY (gY h i (aJ h i)) j (aJ h j)) k (aJ h k)).trans x2;have y0:=nQ h;have y1:=(xX (fL h) i (aJ h i)).trans y0;have y2:=(xX (gY (fL h) i (aJ h i)) j (aJ h j)).trans y1
 have Y:=(xX (gY (gY (fL h) i (aJ h i)) j (aJ h j)) k (aJ h k)).trans y2;refine bj Ai ?_;simp only[go_sem,zf,ya,ia u l1 (.inl rfl),af,ao];simp only[go_sem,Az,ia po l2 (.inl rfl),ml,qE,qG,w9,dp gk,O8,nQ,af,ao];refine Qx (L:=h) (D:=fL h) U U U (by simp only[go_sem]) (by simp only[go_sem]) rfl y0 hi (OK H) (Le H hi) λb1 Pl R n=>?_;have p0:=n 2752000000 U U U;have p1:=n 2752000064 U U U;have E:=n 2752000128 U U U;have y:=n 2752064128 U U U;have z:=n 2752064067 U U U;have B:=n 2752128128 U U U;simp only[go_sem]at p0 p1 E y z B;simp only[go_sem,p0,p1,E,y,z,B,qG,w9,dp fM,O8,af,ao];refine⟨aA,?_⟩
 refine Qx U U U Pl R x1 y1 hj (OK H) (Le H hj) λb2 ag ac A=>?_;have Q:=A 2752000000 U U U;have O:=A 2752000064 U U U;have q2:=A 2752000128 U U U;have T:=A 2752064128 U U U;have q4:=A 2752064067 U U U;have q5:=A 2752128128 U U U;simp only[p0,p1,E,y,z,B]at Q O q2 T q4 q5;simp only[go_sem,Q,O,q2,T,q4,q5,qG,w9,dp N,O8,af,ao];refine⟨aA,?_⟩;refine Qx U U U ag ac x2 y2 M (OK H) (Le H M) λb3 Z ad x=>?_
 have r0:=x 2752000000 U U U;have r1:=x 2752000064 U U U;have r2:=x 2752000128 U U U;have r3:=x 2752128128 U U U;simp only[Q,O,q2,T,q4,q5]at r0 r1 r2 r3;generalize gY (gY (gY h i (aJ h i)) j (aJ h j)) k (aJ h k)=f at*;generalize gY (gY (gY (fL h) i (aJ h i)) j (aJ h j)) k (aJ h k)=m at*;have v:=AI (F:Int) h f m J (Y.trans X.symm);have cV:I (lp f m)=I f:=Ep _ _;have jD:lp f m≠[]:=λe=>by rw[e]at cV;simp only[fU]at cV;omega
 simp only[sI];rw[ri (AO jD)]at v |-;have tk:List.take (I h) (bP f)=bP f:=by rw[<-X];exact ml f
 have tb:List.take (I h) (dB m)=dB m:=by rw[<-Y];exact qE m
 have tl:I h<=I (bP f):=by rw[mV];omega
 have tm:I h<=I (dB m):=by rw[D6];omega
 simp only[go_sem,Z,ad,r0,r1,r2,r3,tk,tb,X,Y,yC,zI,ia v l4 (.inr (EK _ _)),af,ao];refine⟨aA,?_⟩;simp[iR,n_,lX,kS,ij,cD,mg,pK,oh,mV,ml]
def oz(p q l:aa):aa:=if my l p then q else if my l q then p else l
def ayk(g:cE F h)(i j:Nat)(c:Int)(l o:Bool)(sg:Int)(hi:i<I h)(hj:j<I h)(H:2<=I h)(hl:I h<=400):
  aK S 43 [c_ F h,ep 3 i j c l o sg] (sI F (gY (gY (h.map (oz (kY h i).2.1 (kY h j).2.1)) i (aJ h i)) j (aJ h j)) (gY (gY (fL h) i (aJ h i)) j (aJ h j))):=by
 have R:=DZ g;have po:=EX (F:Int) h J;have l1:S.lone 2752064064=false:=ah;have l2:S.lone 2752128064=false:=ah;have l4:S.lone 2755136128=false:=ah;rw[ri (ET g)]at R;have ru:=ui g.ne (nQ h);simp only[wW]at ru;rw[ru]at po;have gk:=BG (F:=F) hi J;have fM:=BG (F:=F) hj J;have ap:=Tu (F:=F) hi J;have ad:=Tu (F:=F) hj J;have l5:S.lone 2752704192=false:=ah;have l6:S.lone 2752768192=false:=ah
 generalize(kY h i).1=X at*;generalize(kY h i).2.1=P at*;generalize(kY h i).2.2=e1 at*;generalize(kY h j).1=Y at*;generalize(kY h j).2.1=Z at*;generalize(kY h j).2.2=e2 at*;refine bj Ai ?_;simp only[go_sem,zf,ya,ia R l1 (.inl rfl),af,ao];simp only[go_sem,Az,ia po l2 (.inl rfl),ml,qE,qG,aaY,ia ap l5 (.inr rfl),ia ad l6 (.inr rfl),nQ,af,ao];refine dy (λq y aj=>y 2=.one (.bm 2752000000 1 0)/\y 3=.one (.bm 2752000064 1 0)/\y 4=.one (.bm 2752000128 1 0)/\y 5=.one (.bm 2752064128 1 0)/\y 6=.one (.bm 2752128128 1 0)/\y 10=.one (.bm 2752704576 1 0)/\y 13=.one (.bm 2752768576 1 0)/\y 15=aH q/\
   aj 2752000000=(1,some (.var [.p (.int .i64 F),.p (eg h)]))/\aj 2752000064=(1,some (.var [.p (.int .i64 3),.p (.int .i64 i),.p (.int .i64 j),.p (.int .i64 c),.p (.bool l),.p (.bool o),.p (.int .i64 sg)]))/\
   aj 2752000128=(1,some (.var [.p (.int .i64 0),.p .nils]))/\aj 2752064067=(1,some (.arr sq 5 (kz (dG F h))))/\aj 2752064128=(1,some (.var [.p (.int .i64 F),.p (eg h),.p (.int .i64 (I h)),.hsl 2752064067 1 5 0 (I (dG F h))]))/\
   aj 2752128128=(1,some (.var [.hsl 2752128064 1 6 0 (I h),.hsl 2752128065 1 1 0 (I h)]))/\aj 2752128065=(1,some (.arr 4 1 (dB (fL h))))/\
   aj 2752704576=(1,some (.var (NT P)))/\aj 2752768576=(1,some (.var (NT Z)))/\aj 2752128064=(1,some (.arr eo 6 (bP (qD (oz P Z) h q))))) 0 (I h) (cG _) ?_ ?_
 .simp only[go_sem,qD]
  trivial
 rintro q y aj hq ⟨B,D,N,O,E,m,v,u,b0,b1,b2,bf,bs,bd,bD,nV,bZ,Q⟩
 by_cases aw:q<I h
 .have aM:((q:Int)<(I h:Int)):=J;have w1:=cN (n:=q) J;obtain⟨x,hx⟩:=aT aw;have hm:=VI (f:=oz P Z) hx;have fY:=gb hm;have im:q<I (qD (oz P Z) h q):=by rw[adt];exact aw
  have OF:=C0 x P;have T:=C0 x Z;cases h1:my x P with
  |true=>rw[h1]at OF;simp only[go_sem,Ot,B,D,N,O,E,m,v,u,b0,b1,b2,bf,bs,bd,bD,nV,bZ,Q,aw,aM,im,fY,aa.ps,w1,mV,jo,mT,OF,T,af,ao];refine⟨aA,?_⟩;have ae:=P7 (f:=oz P Z) hx;rw[show oz P Z x=Z by simp[oz,h1]]at ae;rw[show(bP (qD (oz P Z) h q)).set q [.int .i64 Z.kind,.int .i64 Z.gate,.int .i64 Z.ay,.int .i64 Z.id,.int .i64 Z.sign,.bool Z.over]=bP ((qD (oz P Z) h q).set q Z)from J2 _ _ _ rfl,ae]
  |false=>
   rw[h1]at OF;cases H:my x Z with
   |true=>rw[H]at T;simp only[go_sem,Ot,B,D,N,O,E,m,v,u,b0,b1,b2,bf,bs,bd,bD,nV,bZ,Q,aw,aM,im,fY,aa.ps,w1,mV,jo,mT,OF,T,af,ao];refine⟨aA,aA,?_⟩;have ae:=P7 (f:=oz P Z) hx;rw[show oz P Z x=P by simp[oz,h1,H]]at ae;rw[show(bP (qD (oz P Z) h q)).set q [.int .i64 P.kind,.int .i64 P.gate,.int .i64 P.ay,.int .i64 P.id,.int .i64 P.sign,.bool P.over]=bP ((qD (oz P Z) h q).set q P)from J2 _ _ _ rfl,ae]
   |false=>rw[H]at T;simp only[go_sem,Ot,B,D,N,O,E,m,v,u,b0,b1,b2,bf,bs,bd,bD,nV,bZ,Q,aw,aM,im,fY,aa.ps,w1,mV,jo,mT,OF,T,af,ao];refine⟨aA,aA,?_⟩;exact congrArg (λz=>(1,some (f_.arr eo 6 (bP z)))) (Wy hx (by simp[oz,h1,H]))
 have:q=I h:=J;subst this;rw[show qD (oz P Z) h (I h)=h.map (oz P Z) by simp[qD]]at Q;have n0:I (h.map (oz P Z))=I h:=cY _;generalize h.map (oz P Z)=L0 at*;have x1:=(xX L0 i (aJ h i)).trans n0;have x3:=(xX (gY L0 i (aJ h i)) j (aJ h j)).trans x1;have y0:=nQ h;have y1:=(xX (fL h) i (aJ h i)).trans y0;have y3:=(xX (gY (fL h) i (aJ h i)) j (aJ h j)).trans y1;simp only[go_sem,Ot,ags,B,D,N,O,E,m,v,u,b0,b1,b2,bf,bs,bd,eR,qG,w9,dp gk,O8,af,ao];refine Qx U U U Q bD n0 y0 hi (OK H) (Le H hi) λB1 Pl ag A=>?_
 have p0:=A 2752000000 U U U;have p1:=A 2752000064 U U U;have p2:=A 2752000128 U U U;have p3:=A 2752064128 U U U;have p4:=A 2752064067 U U U;have p5:=A 2752128128 U U U;simp only[b0,b1,b2,bs,bf,bd]at p0 p1 p2 p3 p4 p5;simp only[go_sem,B,D,N,O,E,p0,p1,p2,p3,p4,p5,qG,w9,dp fM,O8,af,ao];refine⟨aA,?_⟩;refine Qx U U U Pl ag x1 y1 hj (OK H) (Le H hj) λB3 am aq iL=>?_
 have r0:=iL 2752000000 U U U;have r1:=iL 2752000064 U U U;have r2:=iL 2752000128 U U U;have r3:=iL 2752128128 U U U;simp only[p0,p1,p2,p5]at r0 r1 r2 r3;generalize gY (gY L0 i (aJ h i)) j (aJ h j)=L at*;generalize gY (gY (fL h) i (aJ h i)) j (aJ h j)=M at*;have ac:=AI (F:Int) h L M J (y3.trans x3.symm);have cV:I (lp L M)=I L:=Ep _ _;have jD:lp L M≠[]:=λe=>by rw[e]at cV;simp only[fU]at cV;omega
 simp only[sI];rw[ri (AO jD)]at ac |-;have tk:List.take (I h) (bP L)=bP L:=by rw[<-x3];exact ml L
 have tb:List.take (I h) (dB M)=dB M:=by rw[<-y3];exact qE M
 simp only[go_sem,B,D,N,O,E,am,aq,r0,r1,r2,r3,mV,D6,tk,tb,x3,y3,yC,zI,ia ac l4 (.inr (EK _ _)),af,ao];refine⟨aA,?_⟩;simp[iR,n_,lX,kS,ij,cD,mg,pK,oh,mV,ml]
def qd(F:Nat)(h:ai)(a b:Nat)(l:Bool):Bool:=decide (2*b∈(dF F h (if l then 2*a else 2*a+1)).bQ)==l
def qo(f l o:Bool):Int:=let s:Int:=if f !=l then -1 else 1;if o then s else -s
def yk(h:ai):Int:=((an aa.aB h/2:Nat):Int)
def I8(c s:Int)(o:Bool):aa:=⟨2,0,0,c+1,s,o⟩
def I3(c s:Int)(o:Bool):aa:=⟨2,0,0,c+2,-s,o⟩
def LU{α:Type}(L:List α)(a:Nat)(x:List α)(b:Nat)(u:List α):List α:=if b<a then ie (ie L x a) u b else ie (ie L u b) x a
def ES(F:Nat)(h:ai)(a b:Nat)(l o:Bool):ai:=
 LU h a [I8 (yk h) (qo (qd F h a b l) l o) o,I3 (yk h) (qo (qd F h a b l) l o) o] b
  (if qd F h a b l then [I3 (yk h) (qo (qd F h a b l) l o) !o,I8 (yk h) (qo (qd F h a b l) l o) !o]else [I8 (yk h) (qo (qd F h a b l) l o) !o,I3 (yk h) (qo (qd F h a b l) l o) !o])
def Eh(h:ai)(a b:Nat):dS:=LU (fL h) a [false,true] b [false,true]
def anh{α:Type}(L:List α)(a:Nat)(x:List α)(b:Nat)(u:List α):I (LU L a x b u)=I L+I x+I u:=by unfold LU;split<;>simp only[l9]<;>omega
def aCO(g:cE F h)(a b:Nat)(c:Int)(l o:Bool)(sg:Int)(z:a<I h)(R:b<I h)(hl:I h<=400):
  aK S 83 [kQ F h,Fm h (fL h),ep 7 a b c l o sg] (DU (ES F h a b l o) (Eh h a b)):=by
 have Q:=O5 g z l;have A:(dF F h (if l then 2*a else 2*a+1)).bQ.length<=1000000:=by have H:=Kv (F:=F) g.ok (Cg (aoi (F:=F) (g:=h) (d:=if l then 2*a else 2*a+1) (by split<;>omega)));have kK:I (aE h)<=I h:=sF h (I h);simp only[bt]at H;omega
 have ph:=DJ (dF F h (if l then 2*a else 2*a+1)).bQ (2*b) A;have v:=NO (F:Int) h J;have qy:an aa.aB h<=I h:=o7 _ _;have w0:IntKind.i64.wrap (2*(b:Int))=((2*b:Nat):Int):=kA J J;have E:IntKind.i64.wrap (((an aa.aB h/2:Nat):Int)+1)=((an aa.aB h/2:Nat):Int)+1:=kA J J;have w2:IntKind.i64.wrap (((an aa.aB h/2:Nat):Int)+2)=((an aa.aB h/2:Nat):Int)+2:=kA J J;have M:IntKind.i64.wrap (-1)= -1:=U;have B:IntKind.i64.wrap (- -1)=1:=U;have w5:IntKind.i64.wrap (Int.negSucc 0)= -1:=U;have N:IntKind.i64.wrap 1=1:=U;have l1:S.lone 5312064320=false:=ah;have l2:S.lone 5313024320=false:=ah;have l3:S.lone 5313024640=false:=ah;have l4:S.lone 5313088320=false:=ah
 have T:S.lone 5313088640=false:=ah;have D:=nQ h;have X:∀(i s m j:Int) (o O:Bool),aK S 82 [Fm h (fL h),aH a,.agg [.p (.int .i64 2),.p (.int .i64 0),.p (.int .i64 0),.p (.int .i64 i),.p (.int .i64 s),.p (.bool o)],.agg [.p (.int .i64 2),.p (.int .i64 0),.p (.int .i64 0),.p (.int .i64 m),.p (.int .i64 j),.p (.bool O)],gE false] (DU (ie h [⟨2,0,0,i,s,o⟩,⟨2,0,0,m,j,O⟩] a) (ie (fL h) [false,true] a)):=λi s m j o O=>by have H:=KN h (fL h) a ⟨2,0,0,i,s,o⟩ ⟨2,0,0,m,j,O⟩ false J D z;rw[ui (IG (n:=I h+1) (by rw[l9];rfl)) (by rw[l9,l9,D];rfl)]at H;exact H
 have q2:∀(i s m j:Int) (o O:Bool),aK S 82 [Fm h (fL h),aH b,.agg [.p (.int .i64 2),.p (.int .i64 0),.p (.int .i64 0),.p (.int .i64 i),.p (.int .i64 s),.p (.bool o)],.agg [.p (.int .i64 2),.p (.int .i64 0),.p (.int .i64 0),.p (.int .i64 m),.p (.int .i64 j),.p (.bool O)],gE false] (DU (ie h [⟨2,0,0,i,s,o⟩,⟨2,0,0,m,j,O⟩] b) (ie (fL h) [false,true] b)):=λi s m j o O=>by have H:=KN h (fL h) b ⟨2,0,0,i,s,o⟩ ⟨2,0,0,m,j,O⟩ false J D R;rw[ui (IG (n:=I h+1) (by rw[l9];rfl)) (by rw[l9,l9,D];rfl)]at H;exact H
 have Y:∀(x y:aa) (i s m j:Int) (o O:Bool),aK S 82 [Fm (ie h [x,y] a) (ie (fL h) [false,true] a),aH b,.agg [.p (.int .i64 2),.p (.int .i64 0),.p (.int .i64 0),.p (.int .i64 i),.p (.int .i64 s),.p (.bool o)],.agg [.p (.int .i64 2),.p (.int .i64 0),.p (.int .i64 0),.p (.int .i64 m),.p (.int .i64 j),.p (.bool O)],gE false] (DU (ie (ie h [x,y] a) [⟨2,0,0,i,s,o⟩,⟨2,0,0,m,j,O⟩] b) (ie (ie (fL h) [false,true] a) [false,true] b)):=λx y i s m j o O=>by have H:=KN (ie h [x,y] a) (ie (fL h) [false,true] a) b ⟨2,0,0,i,s,o⟩ ⟨2,0,0,m,j,O⟩ false (by rw[l9];simp;omega) (by rw[l9,l9,D];rfl) (by rw[l9];omega);rw[ui (IG (n:=I h+3) (by rw[l9,l9];rfl)) (by rw[l9,l9,l9,l9,D];rfl)]at H;exact H
 have q4:∀(x y:aa) (i s m j:Int) (o O:Bool),aK S 82 [Fm (ie h [x,y] b) (ie (fL h) [false,true] b),aH a,.agg [.p (.int .i64 2),.p (.int .i64 0),.p (.int .i64 0),.p (.int .i64 i),.p (.int .i64 s),.p (.bool o)],.agg [.p (.int .i64 2),.p (.int .i64 0),.p (.int .i64 0),.p (.int .i64 m),.p (.int .i64 j),.p (.bool O)],gE false] (DU (ie (ie h [x,y] b) [⟨2,0,0,i,s,o⟩,⟨2,0,0,m,j,O⟩] a) (ie (ie (fL h) [false,true] b) [false,true] a)):=λx y i s m j o O=>by have H:=KN (ie h [x,y] b) (ie (fL h) [false,true] b) a ⟨2,0,0,i,s,o⟩ ⟨2,0,0,m,j,O⟩ false (by rw[l9];simp;omega) (by rw[l9,l9,D];rfl) (by rw[l9];omega);rw[ui (IG (n:=I h+3) (by rw[l9,l9];rfl)) (by rw[l9,l9,l9,l9,D];rfl)]at H;exact H
 unfold ES Eh qd yk LU I8 I3;generalize an aa.aB h/2=cc at*;generalize dF F h (if l then 2*a else 2*a+1)=f at*;generalize decide (2*b∈f.bQ)=hh at*;refine bj auj ?_;simp only[go_sem,ahs,J8,ia Q l1 (.inl rfl),w0,sd,dq ph,af,ao];refine⟨aA,?_⟩;have ada:(false==true)=false:=rfl;have V8:(true==false)=false:=rfl;have Z:(false !=true):=rfl;have L:(true !=false):=rfl;have aau:(true !=true)=false:=rfl;have acG:(false !=false)=false:=rfl;have fV:(b:Int)<(a:Int)↔b<a:=J
 cases l<;>cases o<;>cases hh<;>by_cases u:b<a<;>simp only[go_sem,qo,Z,L,u,fV,E,w2,M,B,w5,N,Int.neg_neg,Int.reduceNeg,IL,dJ v,acn,vr (X _ _ _ _ _ _) l2 (.inr (Cz _ _)),vr (Y _ _ _ _ _ _ _ _) l3 (.inr (Cz _ _)),vr (q2 _ _ _ _ _ _) l4 (.inr (Cz _ _)),vr (q4 _ _ _ _ _ _ _ _) T (.inr (Cz _ _)),ml,qE,af,ao]
 all_goals(refine⟨aA,aA,aA,?_⟩;simp[iR,n_,lX,kS,ij,cD,mg,pK,oh,mV,D6,ml,qE]<;>rfl)
def abr:S.sites 78=[77,78]:=ah
def tc(b c:Nat)(i:Int):aa:=⟨1,b,(c:Int)+i,0,0,false⟩
def ab5(F:Nat)(h:ai)(a b c:Nat):Bool:=decide ((b,c)∈(dF F h (2*a)).places)
def DS(F:Nat)(h:ai)(a b c:Nat):ai:=ie (h.map (oc b c (-2))) (if ab5 F h a b c != !bN h (a+1)then [tc b c 2,tc b c 1]else [tc b c 1,tc b c 2]) a
def DL(h:ai)(a:Nat):dS:=ie (fL h) [bN h (a+1),!bN h (a+1)] a
section
variable {al:cT} {Q:hs} {os all:fI} {d:eC} {y:ct} {aj:aN} {tr:gr}
def ap5{id s g T z:Nat}{r:RV}(hp:aK S f H r)(lo:S.lone s=false)(h:r.alone=false)(j:aj id=(g,some (.arr T z N))):sW S al (.pc f H [id] s) d all os Q y aj tr↔al.iA ([id]++(id::(jq aj s r).2.map (·.1)))=true/\qp S al all os Q (dP y d (jq aj s r).1) (app (jq aj s r).2 (dx aj id (g,some (.qW T z N)))) (tr++[⟨[id]++(id::(jq aj s r).2.map (·.1)),id::(jq aj s r).2.map (·.1),[]⟩]):=by refine aah (u:=(id,(g,some (.qW T z N)))::(jq aj s r).2) hp ?_;rw[lo,xF];unfold fg;rw[aC (by simp[h])];simp[vq,uO,y8,j]
def as0{d_:Nat}(o1:al.ok u)(Z:al.ok x)(O:(S.sites 77).all al.fs.contains)(Y:u≠4928000000)(hl:I L<=1000000)(f:∀X∈L,IntKind.i64.wrap (X.ay-E)=X.ay-E)(H:aj u=(d_,some (.arr eo 6 (bP L))))(B:aj x=(z,some (.arr 4 1 (dB D))))(F:n=I L)(N:m=I D)
  (T:∀A,A u=(d_,some (.arr eo 6 (bP (L.map (oc g M E)))))->(∀i,i≠u->i≠4928000000->A i=aj i)->jI S al os Q (dP y d (.tup [])) A):
  kn S al (.sc 77 [Ak u d_ x z n m,aH g,aH M,aH E]) d os Q y aj:=by
 subst F N;have h:=M1 (n:=I L) (m:=I D) H B;refine sG (P:=Nv u d_ 4928000000 (L.map (oc g M E)) aj) (OW ?_ O) (ajL (tu ?_) (yu (by rw[QY];decide)) Y hl H f) ?_
 .show al.iA (([Ak u d_ x z (I L) (I D),aH g,aH M,aH E]:dT).map (lH aj)).flatten=true;simp only[eJ,mO,h];have e:∀X:Int,lH aj (aH X)=[]:=λ_=>rfl;simp[cT.iA,o1,Z,e]
 .simp only[eJ,mO,h];simp
 rintro v A ⟨rfl,R,j⟩
 exact T A R λi a b=>j i (by simp[a,b])
end
def aj7(u A:Nat)(L:ai)(D:dS)(aj:aN)(v:V)(f:aN):Prop:= ∃g1 g,v=.agg [.hsl 4992640448 g1 6 0 (I L),.hsl 4992640449 g 1 0 (I D)]/\f 4992640448=(g1,some (.arr eo 6 (bP L)))/\f 4992640449=(g,some (.arr 4 1 (dB D)))/\dE (λi=>i=u\/i=A\/kW i=77\/kW i=78) aj f
def aCy{F:Nat}{h:ai}(g:cE F h){al:cT}{aj:aN}{d_:Nat}(a b c:Nat)(l o:Bool)(sg:Int)(o1:al.ok u)(o2:al.ok x)(o4:al.ok A)(o3:∀i,kW i=77\/kW i=78->al.ok i)(ac:(S.sites 77).all al.fs.contains)(n1:kW u≠77)(n2:kW u≠78)(n3:kW x≠77)(n4:kW x≠78)(n5:kW A≠77)(n6:kW A≠78)(j:u≠x)(y:u≠A)(B:x≠A)(ha:a<I h)(hc:c<=1000)(hl:I h<=400)(jZ:∀ag∈h,IntKind.i64.wrap (ag.ay - -2)=ag.ay - -2)
  (hL:aj u=(d_,some (.arr eo 6 (bP h)))) (hD:aj x=(z,some (.arr 4 1 (dB (fL h))))) (hF:aj A=(R,some (.arr sq 5 (kz (dG F h))))) (bk:(dF F h (2*a)).places.length<=1000000):
  ∃v aq,lK S 78 [.agg [.p (.int .i64 F),.p (eg h),.p (.int .i64 (I h)),.hsl A R 5 0 (I (dG F h))],Ak u d_ x z (I h) (I h),ep 2 a b c l o sg] al aj v aq/\aj7 u A (DS F h a b c) (DL h a) aj v aq:=by
 have pf:=O5 g ha true;have po:aK S 108 [.agg [.p (.bool (dF F h (2*a)).eF),.p (.sl (a_ (dF F h (2*a)).bQ)),.p (.sl (eO (dF F h (2*a)).places)),.p (.sl (a_ (dF F h (2*a)).rH)),.p (.bool (dF F h (2*a)).outer)],.agg [.p (.int .i64 b),.p (.int .i64 c)]] (cO (decide ((b,c)∈(dF F h (2*a)).places))):=V1 (dF F h (2*a)) (b,c) bk;have pb:=amD (F:Int) h a J ha;have hn:((I h:Int)==0)=false:=beq_false_of_ne J;have l1:S.lone 4992320192=false:=ah;have l3:S.lone 4992640448=false:=ah;have w1:IntKind.i64.wrap ((c:Int)+1)=(c:Int)+1:=kA J J;have w2:IntKind.i64.wrap ((c:Int)+2)=(c:Int)+2:=kA J J;have O:u≠4992000000:=λH=>n2 (by rw[H];rfl);have Q:u≠4992000064:=λH=>n2 (by rw[H];rfl)
 have Z:u≠4992000128:=λH=>n2 (by rw[H];rfl);have X:u≠4992000192:=λH=>n2 (by rw[H];rfl);have Y:u≠4992064384:=λH=>n2 (by rw[H];rfl);have T:u≠4992128384:=λH=>n2 (by rw[H];rfl);have wQ:u≠4992640448:=λH=>n2 (by rw[H];rfl);have wR:u≠4992640449:=λH=>n2 (by rw[H];rfl);have wm:x≠4992000000:=λH=>n4 (by rw[H];rfl);have wx:x≠4992000064:=λH=>n4 (by rw[H];rfl);have wy:x≠4992000128:=λH=>n4 (by rw[H];rfl);have wA:x≠4992000192:=λH=>n4 (by rw[H];rfl);have wB:x≠4992064384:=λH=>n4 (by rw[H];rfl);have wD:x≠4992128384:=λH=>n4 (by rw[H];rfl);have wE:x≠4992640448:=λH=>n4 (by rw[H];rfl);have wH:x≠4992640449:=λH=>n4 (by rw[H];rfl)
 have wI:A≠4992000000:=λH=>n6 (by rw[H];rfl);have wJ:A≠4992000064:=λH=>n6 (by rw[H];rfl);have wK:A≠4992000128:=λH=>n6 (by rw[H];rfl);have wL:A≠4992000192:=λH=>n6 (by rw[H];rfl);have wM:A≠4992064384:=λH=>n6 (by rw[H];rfl);have wN:A≠4992128384:=λH=>n6 (by rw[H];rfl);have wO:A≠4992640448:=λH=>n6 (by rw[H];rfl);have wP:A≠4992640449:=λH=>n6 (by rw[H];rfl);have m:u≠4928000000:=λH=>n1 (by rw[H];rfl);have M:x≠4928000000:=λH=>n3 (by rw[H];rfl);have E:A≠4928000000:=λH=>n5 (by rw[H];rfl)
 have k0:al.ok 4992000000:=o3 _ (.inr rfl);have k1:al.ok 4992000064:=o3 _ (.inr rfl);have k2:al.ok 4992000128:=o3 _ (.inr rfl);have k3:al.ok 4992000192:=o3 _ (.inr rfl);have k4:al.ok 4992064384:=o3 _ (.inr rfl);have k5:al.ok 4992128384:=o3 _ (.inr rfl);have k6:al.ok 4992640448:=o3 _ (.inr rfl);have k7:al.ok 4992640449:=o3 _ (.inr rfl);simp only[if_true]at pf;unfold DS DL ab5;generalize hf:dF F h (2*a)=f at*;generalize Gk:decide ((b,c)∈f.places)=on at*;generalize eQ:bN h (a+1)=dw at*;refine qK agK (jc rfl) ?_
 simp only[go_sem,U5,k0,k1,k2,k3,k4,k5,k6,k7,O,Q,Z,X,Y,T,wQ,wR,wm,wx,wy,wA,wB,wD,wE,wH,wI,wJ,wK,wL,wM,wN,wO,wP,m,M,E,O.symm,Q.symm,Z.symm,X.symm,Y.symm,T.symm,wQ.symm,wR.symm,wm.symm,wx.symm,wy.symm,wA.symm,wB.symm,wD.symm,wE.symm,wH.symm,wI.symm,wJ.symm,wK.symm,wL.symm,wM.symm,wN.symm,wO.symm,wP.symm,m.symm,M.symm,E.symm,j,j.symm,y,y.symm,B,B.symm,o1,o2,o4,hL,hD,hF,hn,w1,w2,qG,J8,af,ao]
 rw[ap5 (g:=R) (T:=sq) (z:=5) (N:=kz (dG F h)) pf l1 rfl (by simp only[go_sem,O,Q,Z,X,Y,T,wQ,wR,wm,wx,wy,wA,wB,wD,wE,wH,wI,wJ,wK,wL,wM,wN,wO,wP,m,M,E,O.symm,Q.symm,Z.symm,X.symm,Y.symm,T.symm,wQ.symm,wR.symm,wm.symm,wx.symm,wy.symm,wA.symm,wB.symm,wD.symm,wE.symm,wH.symm,wI.symm,wJ.symm,wK.symm,wL.symm,wM.symm,wN.symm,wO.symm,wP.symm,m.symm,M.symm,E.symm,j,j.symm,y,y.symm,B,B.symm,hF])]
 simp only[go_sem,U5,k0,k1,k2,k3,k4,k5,k6,k7,O,Q,Z,X,Y,T,wQ,wR,wm,wx,wy,wA,wB,wD,wE,wH,wI,wJ,wK,wL,wM,wN,wO,wP,m,M,E,O.symm,Q.symm,Z.symm,X.symm,Y.symm,T.symm,wQ.symm,wR.symm,wm.symm,wx.symm,wy.symm,wA.symm,wB.symm,wD.symm,wE.symm,wH.symm,wI.symm,wJ.symm,wK.symm,wL.symm,wM.symm,wN.symm,wO.symm,wP.symm,m.symm,M.symm,E.symm,j,j.symm,y,y.symm,B,B.symm,o1,o2,o4,hL,hD,hF,hn,w1,w2,ade,abS po,amg,ahj pb,aba,af,ao]
 refine⟨aA (by simp[ql,A3,xG,rJ,xy,O,Q,Z,X,Y,T,wQ,wR,wm,wx,wy,wA,wB,wD,wE,wH,wI,wJ,wK,wL,wM,wN,wO,wP,m,M,E,O.symm,Q.symm,Z.symm,X.symm,Y.symm,T.symm,wQ.symm,wR.symm,wm.symm,wx.symm,wy.symm,wA.symm,wB.symm,wD.symm,wE.symm,wH.symm,wI.symm,wJ.symm,wK.symm,wL.symm,wM.symm,wN.symm,wO.symm,wP.symm,m.symm,M.symm,E.symm,j,j.symm,y,y.symm,B,B.symm]<;>decide),?_⟩
 refine as0 (L:=h) (D:=fL h) o1 o2 ac m J jZ (by simp only[go_sem,O,Q,Z,X,Y,T,wQ,wR,wm,wx,wy,wA,wB,wD,wE,wH,wI,wJ,wK,wL,wM,wN,wO,wP,m,M,E,O.symm,Q.symm,Z.symm,X.symm,Y.symm,T.symm,wQ.symm,wR.symm,wm.symm,wx.symm,wy.symm,wA.symm,wB.symm,wD.symm,wE.symm,wH.symm,wI.symm,wJ.symm,wK.symm,wL.symm,wM.symm,wN.symm,wO.symm,wP.symm,m.symm,M.symm,E.symm,j,j.symm,y,y.symm,B,B.symm,hL]) (by simp only[go_sem,O,Q,Z,X,Y,T,wQ,wR,wm,wx,wy,wA,wB,wD,wE,wH,wI,wJ,wK,wL,wM,wN,wO,wP,m,M,E,O.symm,Q.symm,Z.symm,X.symm,Y.symm,T.symm,wQ.symm,wR.symm,wm.symm,wx.symm,wy.symm,wA.symm,wB.symm,wD.symm,wE.symm,wH.symm,wI.symm,wJ.symm,wK.symm,wL.symm,wM.symm,wN.symm,wO.symm,wP.symm,m.symm,M.symm,E.symm,j,j.symm,y,y.symm,B,B.symm,hD]) rfl (nQ h).symm λb1 Pl hb=>?_
 have z0:=hb 4992000000 O.symm U;have z1:=hb 4992000064 Q.symm U;have z2:=hb 4992000128 Z.symm U;have z3:=hb 4992000192 X.symm U;have z4:=hb 4992064384 Y.symm U;have z5:=hb 4992128384 T.symm U;have zD:=hb x j.symm M;simp only[go_sem,O,Q,Z,X,Y,T,wQ,wR,wm,wx,wy,wA,wB,wD,wE,wH,wI,wJ,wK,wL,wM,wN,wO,wP,m,M,E,O.symm,Q.symm,Z.symm,X.symm,Y.symm,T.symm,wQ.symm,wR.symm,wm.symm,wx.symm,wy.symm,wA.symm,wB.symm,wD.symm,wE.symm,wH.symm,wI.symm,wJ.symm,wK.symm,wL.symm,wM.symm,wN.symm,wO.symm,wP.symm,m.symm,M.symm,E.symm,j,j.symm,y,y.symm,B,B.symm,hD]at z0 z1 z2 z3 z4 z5 zD;have ad:dE (λi=>i=u\/i=A\/kW i=77\/kW i=78) aj b1:=by
  intro i hi;have i1:i≠u:=λH=>hi (.inl H);have i2:i≠A:=λH=>hi (.inr (.inl H));have i3:i≠4928000000:=λH=>hi (.inr (.inr (.inl (by rw[H];rfl))));rw[hb i i1 i3];have j0:i≠4992000000:=λH=>hi (.inr (.inr (.inr (by rw[H];rfl))));have j1:i≠4992000064:=λH=>hi (.inr (.inr (.inr (by rw[H];rfl))));have j2:i≠4992000128:=λH=>hi (.inr (.inr (.inr (by rw[H];rfl))));have j3:i≠4992000192:=λH=>hi (.inr (.inr (.inr (by rw[H];rfl))));have j4:i≠4992064384:=λH=>hi (.inr (.inr (.inr (by rw[H];rfl))));have j5:i≠4992128384:=λH=>hi (.inr (.inr (.inr (by rw[H];rfl))));have j6:i≠4992640448:=λH=>hi (.inr (.inr (.inr (by rw[H];rfl))))
  have j7:i≠4992640449:=λH=>hi (.inr (.inr (.inr (by rw[H];rfl))));simp only[go_sem,i2,j0,j1,j2,j3,j4,j5,j6,j7]
 clear hb;have QI:I (h.map (oc (b:Int) (c:Int) (-2)))=I h:=cY _;generalize h.map (oc (b:Int) (c:Int) (-2))=L1 at*;have q1:∀(g r g' r':Int) (e:Bool),aK S 82 [Fm L1 (fL h),aH a,.agg [.p (.int .i64 1),.p (.int .i64 g),.p (.int .i64 r),.p (.int .i64 0),.p (.int .i64 0),.p (.bool false)],.agg [.p (.int .i64 1),.p (.int .i64 g'),.p (.int .i64 r'),.p (.int .i64 0),.p (.int .i64 0),.p (.bool false)],gE e] (DU (ie L1 [⟨1,g,r,0,0,false⟩,⟨1,g',r',0,0,false⟩] a) (ie (fL h) [e,!e] a)):=λg r g' r' e=>by have H:=KN L1 (fL h) a ⟨1,g,r,0,0,false⟩ ⟨1,g',r',0,0,false⟩ e J ((nQ h).trans QI.symm) J;rw[ui (IG (n:=I h+1) (by rw[l9,QI];rfl)) (by rw[l9,l9,nQ,QI];rfl)]at H;exact H
 have tk:List.take (I h) (bP L1)=bP L1:=by rw[<-QI];exact ml L1
 have tb:List.take (I h) (dB (fL h))=dB (fL h):=fx (by rw[D6,nQ];omega);have ada:(false==true)=false:=rfl;have V8:(true==false)=false:=rfl;have WQ:(false !=true):=rfl;have WT:(true !=false):=rfl;have aau:(true !=true)=false:=rfl;have acG:(false !=false)=false:=rfl
 cases on<;>cases dw<;>simp only[go_sem,k0,k1,k2,k3,k4,k5,k6,k7,O,Q,Z,X,Y,T,wQ,wR,wm,wx,wy,wA,wB,wD,wE,wH,wI,wJ,wK,wL,wM,wN,wO,wP,m,M,E,O.symm,Q.symm,Z.symm,X.symm,Y.symm,T.symm,wQ.symm,wR.symm,wm.symm,wx.symm,wy.symm,wA.symm,wB.symm,wD.symm,wE.symm,wH.symm,wI.symm,wJ.symm,wK.symm,wL.symm,wM.symm,wN.symm,wO.symm,wP.symm,m.symm,M.symm,E.symm,j,j.symm,y,y.symm,B,B.symm,o1,o2,Pl,z0,z1,z2,z3,z4,z5,zD,WQ,WT,mV,D6,nQ,QI,tk,tb,acn,ia (q1 _ _ _ _ _) l3 (.inr (Cz _ _)),af,ao]
 all_goals
  refine⟨_,_,rfl,?_,?_,?_⟩
  .simp only[go_sem];rfl
  .simp only[go_sem]
  repeat' (first|exact ad|refine dE.dx ?_ (.inr (.inr (.inr rfl))) _)
def arj(F:Nat)(h:ai)(a b:Nat)(l o:Bool):I (ES F h a b l o)=I h+4:=by unfold ES;rw[anh];split<;>rfl
def aBt(h:ai)(a b:Nat):I (Eh h a b)=I h+4:=by unfold Eh;rw[anh,nQ];rfl
def aBD(F:Nat)(h:ai)(a b c:Nat):I (DS F h a b c)=I h+2:=by unfold DS;rw[l9,cY];split<;>rfl
def avR(h:ai)(a:Nat):I (DL h a)=I h+2:=by unfold DL;rw[l9,nQ];rfl
def aca{aj:aN}{d_ q:Nat}{X y Z h B f g j E F:PV}(O:aj A=(R,some (.arr sq 5 N)))(M:aj u=(d_,some (.arr eo 6 (bP L))))(H:aj x=(z,some (.arr 4 1 (dB D)))):
  (([.agg [.p X,.p y,.p Z,.hsl A R 5 0 q],Ak u d_ x z n m,.agg [.p h,.p B,.p f,.p g,.p j,.p E,.p F]]:dT).map (lH aj)).flatten=[A,u,x]:=by
 have a:lH aj (.one (.hsl A R 5 0 q))=[A]:=It O;have b:=M1 (n:=n) (m:=m) M H;have e:∀v:PV,o6 aj fA (.p v)=[]:=λ_=>rfl;simp only[eJ,mO,b];simp only[lH]at a |-;simp[a,e]
def aoz(g:cE F h)(i j:Nat)(c:Int)(l o:Bool)(sg:Int)(H:i<I h)(z:j<I h)(hl:I h<=400):
  aK S 43 [c_ F h,ep 7 i j c l o sg] (sI F (ES F h i j l o) (Eh h i j)):=by
 have m:=DZ g;have n:=EX (F:Int) h J;have A:S.lone 2752064064=false:=ah;have B:S.lone 2752128064=false:=ah;have v:S.lone 2755136128=false:=ah;rw[ri (ET g)]at m;have R:=ui g.ne (nQ h);simp only[wW]at R;rw[R]at n;have x:=aCO g i j c l o sg H z hl;have M:S.lone 2754304192=false:=ah;have N:=arj F h i j l o;have E:=aBt h i j;generalize ES F h i j l o=L at*;generalize Eh h i j=D at*;have f:=AI (F:Int) h L D J (E.trans N.symm);have u:I (lp L D)=I L:=Ep _ _;have y:lp L D≠[]:=λe=>by rw[e]at u;simp only[fU]at u;omega
 simp only[sI];rw[ri (AO y)]at f |-;refine bj Ai ?_;simp only[go_sem,zf,ya,ia m A (.inl rfl),af,ao];simp only[go_sem,Az,ia n B (.inl rfl),ml,qE,qG,azW,ia x M (.inr (Cz _ _)),yC,zI,ia f v (.inr (EK _ _)),af,ao];simp[iR,n_,lX,kS,ij,cD,mg,pK,oh,mV,ml]
def ayW(g:cE F h)(i b c:Nat)(l o:Bool)(sg:Int)(Y:i<I h)(T:c<=1000)(hl:I h<=400)(M:∀x∈h,IntKind.i64.wrap (x.ay - -2)=x.ay - -2)(bk:(dF F h (2*i)).places.length<=1000000):
  aK S 43 [c_ F h,ep 2 i b c l o sg] (sI F (DS F h i b c) (DL h i)):=by
 have f:=DZ g;have u:=EX (F:Int) h J;have l1:S.lone 2752064064=false:=ah;have l2:S.lone 2752128064=false:=ah;have X:S.lone 2755136128=false:=ah;rw[ri (ET g)]at f;have R:=ui g.ne (nQ h);simp only[wW]at R;rw[R]at u;have n1:=aBD F h i b c;have n2:=avR h i;refine bj Ai ?_;simp only[go_sem,zf,ya,ia f l1 (.inl rfl),af,ao];simp only[go_sem,Az,ia u l2 (.inl rfl),ml,qE,qG,nQ,afR,af,ao];refine sG (P:=aj7 2752128064 2752064067 (DS F h i b c) (DL h i) _) t_ (aCy g i b c l o sg (tu ?_) (tu ?_) (tu ?_) (λq E=>yu (by rcases E with ac|ac<;>rw[ac,abr]<;>decide)) ?_ U U U U U U U U U Y T hl M (by simp only[go_sem]) (by simp only[go_sem]) (by simp only[go_sem]) bk) ?_
 .rw[aca (L:=h) (D:=fL h) (N:=kz (dG F h))]
  .simp
  all_goals simp only[go_sem]
 .rw[aca (L:=h) (D:=fL h) (N:=kz (dG F h))]
  .simp
  all_goals simp only[go_sem]
 .rw[aca (L:=h) (D:=fL h) (N:=kz (dG F h))]
  .simp
  all_goals simp only[go_sem]
 .show(S.sites 77).all (S.sites 78).contains=true;rw[QY,abr];decide
 rintro v b1 ⟨g1,g2,rfl,O,B,H⟩
 have Q:=H 2752000000 U;have z:=H 2752000128 U;have A:=H 2752128128 U;simp only[go_sem]at Q z A;clear H;generalize DS F h i b c=m at*;generalize DL h i=n at*;have j:=AI (F:Int) h m n J (n2.trans n1.symm);have y:I (lp m n)=I m:=Ep _ _;have Z:lp m n≠[]:=λe=>by rw[e]at y;simp only[fU]at y;omega
 simp only[sI];rw[ri (AO Z)]at j |-;simp only[go_sem,O,B,Q,z,A,ml,qE,yC,zI,ia j X (.inr (EK _ _)),af,ao];simp[iR,n_,lX,kS,ij,cD,mg,pK,oh,mV,ml]
def Hy(n f k:Int):Int×Int:=if k==2 then(n+2,f)else if k==5 then(n+2,f+1)else if k==7 then(n+4,f+2)else(n,f)
def Mw(w p:Bool)(n f k:Int):Int:=if w then 2 else if p then(if decide (400<(Hy n f k).1)||decide (100<(Hy n f k).2)then 7 else 0)else 4
def T_{k a b c:Int}{l o:Bool}{sg:Int}{w p:Bool}(hl:I h<=400)(pw:aK S 104 [kQ F h,ep k a b c l o sg] (cO w))(f:w=false->aK S 105 [kQ F h,ep k a b c l o sg] (cO p)):
  aK S 72 [kQ F h,ep k a b c l o sg] (ja (Mw w p (I h) (an aa.aB h/2:Nat) k)):=by
 have j:=NO (F:Int) h J;have Q:an aa.aB h<=I h:=o7 _ _;have L:an aa.aB h/2<=400:=J;generalize an aa.aB h/2=g at*;have n:IntKind.i64.wrap ((g:Int)+1)=(g:Int)+1:=kA J J;have v:IntKind.i64.wrap ((g:Int)+2)=(g:Int)+2:=kA J J;have u:IntKind.i64.wrap ((I h:Int)+2)=(I h:Int)+2:=kA J J;have m:IntKind.i64.wrap ((I h:Int)+4)=(I h:Int)+4:=kA J J;unfold Mw Hy;cases w with
 |true=>
  refine bj WV ?_;simp only[go_sem,UI,Pf,au pw,bne,af,ao];repeat' ((first|apply oO|apply oE|apply oK|apply oj|apply om|apply oH)<;>intro H<;>simp only[go_sem, *,Pf,au pw,bne,af,ao])
  all_goals(first|done|exact aA|exact⟨aA,rfl⟩|rfl)
 |false=>
  have f:=f rfl;cases p with
  |false=>
   refine bj WV ?_;simp only[go_sem,UI,Pf,au pw,Y3,au f,bne,af,ao];repeat' ((first|apply oO|apply oE|apply oK|apply oj|apply om|apply oH)<;>intro H<;>simp only[go_sem, *,Pf,au pw,Y3,au f,bne,af,ao])
   all_goals(first|done|exact aA|exact⟨aA,rfl⟩|rfl)
  |true=>
   refine bj WV ?_;simp only[go_sem,UI,Pf,au pw,Y3,au f,IL,dp j,n,v,u,m,bne,af,ao];refine⟨aA,?_⟩;repeat' ((first|apply oO|apply oE|apply oK|apply oj|apply om|apply oH)<;>intro H<;>simp only[go_sem, *,n,v,u,m,bne,af,ao])
   all_goals(first|done|exact aA|exact⟨aA,rfl⟩|rfl)
def agr(g:cE F h){k a b c:Int}{l o:Bool}{sg:Int}(H:aK S 72 [kQ F h,ep k a b c l o sg] (ja v)):aK S 42 [c_ F h,ep k a b c l o sg] (ja v):=by have f:=DZ g;have L:S.lone 2688064064=false:=ah;rw[ri (ET g)]at f;refine bj anl ?_;simp only[go_sem,Xo,ya,vr f L (.inl rfl),qG,aeK,dp H,af,ao];exact aA
def aBT(g:cE F h){i:Nat}{c:Int}{l o:Bool}{sg:Int}(f:i<I h)(H:j<I h):aK S 105 [kQ F h,ep 3 i j c l o sg] (cO (Hw F h i j)):=by
 have ps:=ayU g f H;refine bj Ex ?_;simp only[go_sem,Dz,agw,au ps,bne,af,ao];repeat' ((first|apply oO|apply oE|apply oK|apply oj|apply om|apply oH)<;>intro m<;>simp only[go_sem, *,agw,au ps,bne,af,ao])
 all_goals(first|done|exact aA|exact⟨aA,rfl⟩|rfl)
def aCe(g:cE F h){i:Nat}{c:Int}{l o:Bool}{sg:Int}(f:i<I h)(H:j<I h):aK S 105 [kQ F h,ep 6 i j c l o sg] (cO (I4 F h i j)):=by
 have ps:=awP g f H;refine bj Ex ?_;simp only[go_sem,Dz,agW,au ps,bne,af,ao];repeat' ((first|apply oO|apply oE|apply oK|apply oj|apply om|apply oH)<;>intro m<;>simp only[go_sem, *,agW,au ps,bne,af,ao])
 all_goals(first|done|exact aA|exact⟨aA,rfl⟩|rfl)
def aok(g:cE F h){i k:Nat}{l o:Bool}{sg:Int}(m:i<I h)(f:j<I h)(H:k<I h):aK S 105 [kQ F h,ep 8 i j k l o sg] (cO (ER F h [i,j,k])):=by
 have ps:=axK g m f H;refine bj Ex ?_;simp only[go_sem,Dz,akG,au ps,bne,af,ao];repeat' ((first|apply oO|apply oE|apply oK|apply oj|apply om|apply oH)<;>intro n<;>simp only[go_sem, *,akG,au ps,bne,af,ao])
 all_goals(first|done|exact aA|exact⟨aA,rfl⟩|rfl)
def asJ{a b c:Int}{l o:Bool}{sg:Int}:aK S 105 [kQ F h,ep 5 a b c l o sg] (cO (true)):=by
 refine bj Ex ?_;simp only[go_sem,Dz,aa.ps,bne,af,ao];repeat' ((first|apply oO|apply oE|apply oK|apply oj|apply om|apply oH)<;>intro H<;>simp only[go_sem, *,aa.ps,bne,af,ao])
 all_goals(first|done|exact aA|exact⟨aA,rfl⟩|rfl)
def aBK(g:cE F h){i:Nat}{b c:Int}{l o:Bool}{sg:Int}(H:i<I h):aK S 105 [kQ F h,ep 4 i b c l o sg] (cO (rS h i&&((aY h i).id==(aY h (aJ h i)).id))):=by
 have ps:=Vu (F:=F) H (by have:=g.len;omega);have L:S.lone 6720704192=false:=ah;have pc:=ps;generalize aY h i=X at*;generalize aY h (aJ h i)=Y at*;generalize rS h i=e at*;refine bj Ex ?_;simp only[go_sem,Dz,FB,ia pc L (.inl rfl),bne,af,ao];repeat' ((first|apply oO|apply oE|apply oK|apply oj|apply om|apply oH)<;>intro f<;>simp only[go_sem, *,FB,ia pc L (.inl rfl),bne,af,ao])
 all_goals(first|done|exact aA|exact⟨aA,rfl⟩|rfl)
def azs(g:cE F h){i:Nat}{c:Int}{l o:Bool}{sg:Int}(z:i<I h)(E:j<I h):aK S 105 [kQ F h,ep 7 i j c l o sg] (cO (decide (2*j∈(dF F h (if l then 2*i else 2*i+1)).bQ)||decide (2*j+1∈(dF F h (if l then 2*i else 2*i+1)).bQ))):=by
 have n:=O5 g z l;have y:=g.len;have H:(dF F h (if l then 2*i else 2*i+1)).bQ.length<=1000000:=by have B:=Kv (F:=F) g.ok (Cg (aoi (F:=F) (g:=h) (d:=if l then 2*i else 2*i+1) (by split<;>omega)));have kK:I (aE h)<=I h:=sF h (I h);simp only[bt]at B;omega
 have v:=DJ (dF F h (if l then 2*i else 2*i+1)).bQ (2*j) H;have u:=DJ (dF F h (if l then 2*i else 2*i+1)).bQ (2*j+1) H;have m:IntKind.i64.wrap (2*(j:Int))=((2*j:Nat):Int):=kA J J;have x:IntKind.i64.wrap (((2*j:Nat):Int)+1)=((2*j+1:Nat):Int):=cN J;have L:S.lone 6721024320=false:=ah;generalize dF F h (if l then 2*i else 2*i+1)=f at*;generalize decide (2*j∈f.bQ)=M at*;generalize decide (2*j+1∈f.bQ)=A at*;refine bj Ex ?_;simp only[go_sem,Dz,J8,ia n L (.inl rfl),sd,au v,au u,m,x,bne,af,ao];repeat' ((first|apply oO|apply oE|apply oK|apply oj|apply om|apply oH)<;>intro D<;>simp only[go_sem, *,J8,ia n L (.inl rfl),sd,au v,au u,m,x,bne,af,ao])
 all_goals(first|done|exact aA|exact⟨aA,rfl⟩|rfl)
def aqJ(g:cE F h){i:Nat}{b c:Int}{l o:Bool}{sg:Int}(n:i<I h)(u:Ll (aY h i))(m:Ll (aY h (aJ h i))):aK S 105 [kQ F h,ep 1 i b c l o sg] (cO (yX (aY h i) (aY h (aJ h i))&&(decide ((2:Int)<(an aa.aI h:Nat))||(((an aa.aB h/2:Nat):Int)==0)))):=by
 have H:=g.len;have pb:=K9 (F:=F) n J;have f:=amI _ _ u m;have j:=ajJ (F:Int) h J;have pc:=NO (F:Int) h J;have L:S.lone 6720192192=false:=ah;generalize yX (aY h i) (aY h (aJ h i))=v at*;generalize aY h i=X at*;generalize aY h (aJ h i)=Y at*;generalize an aa.aI h=N at*;generalize an aa.aB h/2=y at*;refine bj Ex ?_;simp only[go_sem,Dz,AY,ia pb L (.inl rfl),UN,au f,He,dJ j,IL,dJ pc,bne,af,ao];repeat' ((first|apply oO|apply oE|apply oK|apply oj|apply om|apply oH)<;>intro x<;>simp only[go_sem, *,AY,ia pb L (.inl rfl),UN,au f,He,dJ j,IL,dJ pc,bne,af,ao])
 all_goals(first|done|exact aA|exact⟨aA,rfl⟩|rfl)
def azC(g:cE F h){i b c:Nat}{l o:Bool}{sg:Int}(H:i<I h)(B:(dF F h (2*i)).places.length<=1000000)(x:(dF F h (2*i+1)).places.length<=1000000):aK S 105 [kQ F h,ep 2 i b c l o sg] (cO (decide ((b,c)∈(dF F h (2*i)).places)||decide ((b,c)∈(dF F h (2*i+1)).places))):=by
 have n:=g.len;have j:((I h:Int)==0)=false:=beq_false_of_ne J;have f:=O5 g H true;have pr:=O5 g H false;simp only[if_true,eI,if_false]at f pr;have L:S.lone 6720448448=false:=ah;have m:S.lone 6720448960=false:=ah;have u:aK S 108 [.agg [.p (.bool (dF F h (2*i)).eF),.p (.sl (a_ (dF F h (2*i)).bQ)),.p (.sl (eO (dF F h (2*i)).places)),.p (.sl (a_ (dF F h (2*i)).rH)),.p (.bool (dF F h (2*i)).outer)],.agg [.p (.int .i64 b),.p (.int .i64 c)]] (cO (decide ((b,c)∈(dF F h (2*i)).places))):=V1 (dF F h (2*i)) (b,c) B
 have O:aK S 108 [.agg [.p (.bool (dF F h (2*i+1)).eF),.p (.sl (a_ (dF F h (2*i+1)).bQ)),.p (.sl (eO (dF F h (2*i+1)).places)),.p (.sl (a_ (dF F h (2*i+1)).rH)),.p (.bool (dF F h (2*i+1)).outer)],.agg [.p (.int .i64 b),.p (.int .i64 c)]] (cO (decide ((b,c)∈(dF F h (2*i+1)).places))):=V1 (dF F h (2*i+1)) (b,c) x;generalize dF F h (2*i)=y at*;generalize dF F h (2*i+1)=v at*;generalize decide ((b,c)∈y.places)=z at*;generalize decide ((b,c)∈v.places)=E at*;refine bj Ex ?_
 simp only[go_sem,Dz,j,J8,vr f L (.inl rfl),vr pr m (.inl rfl),ade,dq u,dq O,bne,af,ao];repeat' ((first|apply oO|apply oE|apply oK|apply oj|apply om|apply oH)<;>intro A<;>simp only[go_sem, *,j,J8,vr f L (.inl rfl),vr pr m (.inl rfl),ade,dq u,dq O,bne,af,ao])
 all_goals(first|done|exact aA|exact⟨aA,rfl⟩|rfl)
def afG(F:Int):aK S 71 [c_ F []] (.agg [.p (.int .i64 F),.p (.sl []),.p (.int .i64 0),.p .nils]):=by refine bj adP ?_;have h:¬((0:Int)<0):=J;simp only[go_sem,W6,Int.ofNat_zero,h,bne,af,ao];all_goals(first|done|exact aA|exact⟨aA,rfl⟩|rfl)
def axT(F:Int):aK S 73 [c_ F []] (.agg [.p .nils,.p .nils]):=EX F [] aP
def aqx{a b c:Int}{l o:Bool}{sg:Int}:aK S 105 [kQ F [],ep 2 a b c l o sg] (cO true):=by refine bj Ex ?_;have h:(((0:Nat):Int)==0):=rfl;simp only[go_sem,Dz,h,bne,af,ao];all_goals(first|done|exact aA|exact⟨aA,rfl⟩|rfl)
def ah0{k a b c:Int}{l o:Bool}{sg:Int}(h:aK S 72 [kQ F [],ep k a b c l o sg] (ja v)):aK S 42 [c_ F [],ep k a b c l o sg] (ja v):=by have f:=afG F;have L:S.lone 2688064064=false:=ah;have h:aK S 72 [.agg [.p (.int .i64 F),.p (.sl []),.p (.int .i64 0),.p (.sl [])],ep k a b c l o sg] (ja v):=h;have f:aK S 71 [.agg [.p (.int .i64 F),.p (.sl [])]] (.agg [.p (.int .i64 F),.p (.sl []),.p (.int .i64 0),.p .nils]):=f;refine bj anl ?_;simp only[go_sem,Xo,ya,vr f L (.inl rfl),aeK,dp h,af,ao];all_goals(first|done|exact aA|exact⟨aA,rfl⟩|rfl)
def ajX(L:ai)(D:dS)(aj:aN)(v:V)(A:aN):Prop:= ∃g1 g,v=.agg [.hsl 4992256128 g1 6 0 (I L),.hsl 4992256192 g 1 0 (I D)]/\A 4992256128=(g1,some (.arr eo 6 (bP L)))/\A 4992256192=(g,some (.arr 4 1 (dB D)))/\dE (λi=>kW i=78) aj A
def awI{al:cT}{aj:aN}(a:Int)(b c:Nat)(l o:Bool)(sg:Int)(O:∀i,kW i=78->al.ok i)(Y:c<=1000):
  ∃v A,lK S 78 [.agg [.p (.int .i64 F),.p (.sl []),.p (.int .i64 0),.p .nils],.agg [.p .nils,.p .nils],ep 2 a b c l o sg] al aj v A/\ajX [tc b c 1,tc b c 2] [true,false] aj v A:=by
 have B:(((0:Int))==0):=rfl;have g:IntKind.i64.wrap ((c:Int)+1)=(c:Int)+1:=kA J J;have N:IntKind.i64.wrap ((c:Int)+2)=(c:Int)+2:=kA J J;have M:al.ok 4992000000:=O _ rfl;have f:al.ok 4992000064:=O _ rfl;have D:al.ok 4992000128:=O _ rfl;have E:al.ok 4992000192:=O _ rfl;have R:al.ok 4992064384:=O _ rfl;have Q:al.ok 4992128384:=O _ rfl;have n:al.ok 4992256128:=O _ rfl;have y:al.ok 4992256192:=O _ rfl;refine qK agK (jc rfl) ?_;simp only[go_sem,U5,M,f,D,E,R,Q,n,y,B,g,N,af,ao];refine⟨_,_,rfl,?_,?_,?_⟩
 .simp only[go_sem];first|done|rfl
 .simp only[go_sem];first|done|rfl
 intro i H;have L:i≠4992000000:=λh=>H (by rw[h];rfl);have m:i≠4992000064:=λh=>H (by rw[h];rfl);have T:i≠4992000128:=λh=>H (by rw[h];rfl);have u:i≠4992000192:=λh=>H (by rw[h];rfl);have z:i≠4992064384:=λh=>H (by rw[h];rfl);have j:i≠4992128384:=λh=>H (by rw[h];rfl);have x:i≠4992256128:=λh=>H (by rw[h];rfl);have X:i≠4992256192:=λh=>H (by rw[h];rfl);simp only[go_sem,L,m,T,u,z,j,x,X]
def awb(i:Int)(b c:Nat)(l o:Bool)(sg:Int)(D:c<=1000):
  aK S 43 [c_ F [],ep 2 i b c l o sg] (sI F [tc b c 1,tc b c 2] [true,false]):=by
 have g:aK S 71 [.agg [.p (.int .i64 F),.p (.sl [])]] (.agg [.p (.int .i64 F),.p (.sl []),.p (.int .i64 0),.p .nils]):=afG F;have x:aK S 73 [.agg [.p (.int .i64 F),.p (.sl [])]] (.agg [.p .nils,.p .nils]):=axT F;have z:S.lone 2752064064=false:=ah;have A:S.lone 2752128064=false:=ah;have L:S.lone 2755136128=false:=ah;refine bj Ai ?_;simp only[go_sem,zf,ya,ia g z (.inl rfl),Az,ia x A (.inl rfl),afR,af,ao];refine sG (P:=ajX [tc b c 1,tc b c 2] [true,false] _) t_ (awI i b c l o sg (λq y=>yu (by rw[y,abr];decide)) D) ?_;rintro v M ⟨g1,O,rfl,B,H,h⟩
 have Q:=h 2752000000 U;have m:=h 2752000128 U;have n:=h 2752128128 U;simp only[go_sem]at Q m n;clear h;have N:I ([tc b c 1,tc b c 2]:ai)=2:=rfl;have E:I ([true,false]:dS)=2:=rfl;generalize([tc b c 1,tc b c 2]:ai)=L2 at*;generalize([true,false]:dS)=D2 at*;have f:aK S 84 [.agg [.p (eg L2),.p (.sl (dB D2))],.agg [.p (.int .i64 F),.p (.sl [])]] (.agg [.p (.int .i64 F),cF eo 6 (bP (lp L2 D2))]):=AI (F:Int) [] L2 D2 J (E.trans N.symm);have j:I (lp L2 D2)=I L2:=Ep _ _;have u:lp L2 D2≠[]:=λe=>by rw[e]at j;simp only[fU]at j;omega
 simp only[sI];rw[ri (AO u)]at f |-;simp only[go_sem,B,H,Q,m,n,ml,qE,yC,zI,ia f L (.inr (EK _ _)),af,ao];simp[iR,n_,lX,kS,ij,cD,mg,pK,oh,mV,ml]
def adT{α:Type}{l:List α}{p q:α->Bool}(h:∀x∈l,p x=q x):l.find? p=l.find? q:=by
 induction l with
 |nil=>rfl
 |cons a l f=>rw[O9,O9,h a (EG ..),f λx H=>h x (yc _ H)]
def af1{l:cX}(n:f<=I l):s5 l f (I l)=(l.drop f++l.take f).map aR.l:=by
 apply yV;intro i;by_cases g:i<I l
 .have h:(s5 l f (I l))[i]?=some (l.getD ((f+i)%I l) ⟨mw,false⟩).l:=by
   simp[s5,g]
  rw[h,ig];by_cases H:f+i<I l
  .rw[zl (by simp;omega),BY,jh H];simp[H]
  rw[wY (by simp;omega),kV];have j:(f+i)%I l=i-(I l-f):=by rw[aaw J,jh J];omega
  have m:i-(I l-f)<I l:=J;rw[j,nE,aD J];simp[m]
 have h:I (s5 l f (I l))=I l:=by simp[s5]
 rw[pF (by rw[h];omega),pF (by simp;omega)]
def arL{l:cX}(u:l.map aR.l=L)(v:I D=I l)(x:∀(i:Nat) (p:aR),l[i]?=some p->(p.l.kind==1)->D[i]?=some p.d):oF l=lp L D:=by
 subst u;have g:uo l=Ja (l.map aR.l) D:=by
  unfold uo Ja;rw[cY];refine adT λi H=>?_;have H:i<I l:=by simpa using H
  obtain⟨p,hp⟩:=aT H;obtain⟨d,f⟩:=aT (L:=D) (k:=i) J;have j:(l.map aR.l)[i]?=some p.l:=by rw[ig,hp];rfl
  simp only[Pt,G0,hp,j,f,FW];cases m:(p.l.kind==1)with
  |false=>simp
  |true=>have:=x i p hp m;rw[f]at this;cases this;simp
 unfold oF lp;rw[<-g];cases n:uo l with
 |none=>simp only[Option.getD_none];rw[af1 (cG _)];simp
 |some i=>
  have H:i<I l:=by
   have:=Cg n
   simpa using this
  simp only[kZ];rw[af1 (Nat.le_of_lt H),kP,u_,uJ]
end
end Go.Abs
