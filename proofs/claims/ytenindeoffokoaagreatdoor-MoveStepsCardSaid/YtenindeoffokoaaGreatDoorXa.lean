/-
  MoveInverses: for every code and every move the call returns true and the arguments read as they did. It holds for every input that the row speaks of; the tables that the row lists hold what the text lays.
-/
import Derived.Test.YtenindeoffokoaaGreatDoorWq
import Derived.Test.YtenindeoffokoaaGreatDoorTie
import Derived.Deep.DeepHandedRow
import Derived.Deep.DeepLaidRun
import Derived.Stop.LaidErr
import Derived.Test.YtenindeoffokoaaGreatDoorSb
import Derived.Test.YtenindeoffokoaaGreatDoorTa
import Derived.Test.YtenindeoffokoaaGreatDoorFa
import Derived.Test.YtenindeoffokoaaGreatDoorGa
set_option linter.all false
open List renaming length->I
set_option maxRecDepth 100000
set_option maxHeartbeats 16000000
namespace Go.Abs
variable{X j L Z:af}{m z:dJ}{x y:PV}{h:fM}{v:dI}{f:Int}{n:Nat}{u:bJ}{B:cL}
section
variable{F:Nat}
theorem OI(A B:aW):eY (A++B)=eY B++eY A:=by unfold eY;rw[List.reverse_append,fL]
section
variable {F:Nat} {L M:af} {P Q:aW} {r:Bool} {s t:Nat->Nat}
theorem cK.fg(i:cK F L M r s t)(g:Nat):dr M g=dr L g:=by unfold dr;congr 1;exact lq λq _=>i.cgs q
theorem cK.au9(i:cK F L M r s t){d b c:Nat}{A:Bool}(H:d<aT L)(h:ep L d=if A=true then fp L b c else fm L b c):ep M (lK (I L) r s d)=if A=true then fp M b c else fm M b c:=by
 have j:=ai9 i.g;have u:=cT (dr L b+c+I (aA L)-1) j;have f:∀t,t<2->ep L d=ep L (2*I L+2*((dr L b+c+I (aA L)-1)%I (aA L))+t)->ep M (lK (I L) r s d)=ep M (2*I M+2*((dr M b+c+I (aA M)-1)%I (aA M))+t):=λt m e=>by have:=i.ajc H (by unfold aT;omega) e;rw[this,EW (d:=2*I L+2*((dr L b+c+I (aA L)-1)%I (aA L))+t) J,i.len,i.fg,i.axl]
 cases A
 .exact f 1 J h
 exact f 0 J h
theorem cK.k2(i:cK F L M r s t){a b c:Nat}(m:a<I L)(B:b<=F)(Z:c<=aV L b)(h:ob F L a b c=some P)(vX:dk (F:Int) (aY P)=0):∃a' Q,a'<I M/\c<=aV M b/\ob F M a' b c=some Q/\eV (aY Q) (aY P):=by
 have fH:=OR i.g m B Z h;obtain⟨H,o9,_,_,_,tK⟩:=i.Vw;obtain⟨f,gY⟩:∃f:Bool,(b,c)∈(gJ F L (if f=true then 2*a+1 else 2*a)).places:=by
  unfold ob at h;split at h
  .exact⟨false,by assumption⟩
  split at h
  .exact⟨true,by assumption⟩
  cases h
 have zi:(if f=true then 2*a+1 else 2*a)<2*I L:=by split<;>omega
 have Y:=K0 i.g zi gY;generalize dn L ((if f=true then 2*a+1 else 2*a)/2+1)=A at Y;have D:=ahN i.g m B Z Y;rw[h]at D;have D:=kA D;have kM:=i.au9 (by unfold aT;omega) Y;rw[i.dmE m f]at kM;have fi:dw (I L) r s a<I M:=by rw[i.len];exact i.Bq m
 have wP:c<=aV M b:=by rw[i.cgs];exact Z
 have hQ:=ahN i.g' fi B wP kM;refine⟨_,_,fi,wP,hQ,?_⟩;have cQ:=OR i.g' fi B wP hQ;have ac:=i.ael tK m;have tw:=xO (an L) (a+1);have j:=O2 (dO (an L) b c 2) [iS b (if(A !=f)=true then((c+2:Nat):Int)else((c+1:Nat):Int)) A,iS b (if(A !=f)=true then((c+1:Nat):Int)else((c+2:Nat):Int)) (!A)] a;have T:=O2 (dO (an M) b c 2) [iS b (if(A !=(f !=r))=true then((c+2:Nat):Int)else((c+1:Nat):Int)) A,iS b (if(A !=(f !=r))=true then((c+1:Nat):Int)else((c+2:Nat):Int)) (!A)] (dw (I L) r s a);rw[<-D]at j
 rw[show(dO (an L) b c 2).drop (a+1)++(dO (an L) b c 2).take (a+1)=((an L).drop (a+1)++(an L).take (a+1)).map (cW b c 2) by rw[fL,vv,sC]]at j;rw[show(dO (an M) b c 2).drop (dw (I L) r s a+1)++(dO (an M) b c 2).take (dw (I L) r s a+1)=((an M).drop (dw (I L) r s a+1)++(an M).take (dw (I L) r s a+1)).map (cW b c 2) by rw[fL,vv,sC],ac]at T;generalize(an L).drop (a+1)++(an L).take (a+1)=w at j T tw;generalize dK (dO (an M) b c 2) _ _=Q at T cQ |-;have Ah:∀p∈P,p.l.ay\/ ∃q∈an L,p=cW b c 2 q:=λp hp=>by
  have:=j.perm.mem_iff.2 hp;simp only[qz,fB,c7]at this;rcases this with rfl|rfl|h
  .exact .inl rfl
  .exact .inl rfl
  obtain⟨q,n,rfl⟩:=ch.1 h;exact .inr ⟨q,tw.perm.mem_iff.2 n,rfl⟩
 have e3:∀l:aW,(l.map (cN H)).map (cW b c 2)=(l.map (cW b c 2)).map (cN H):=λl=>by rw[h_,h_];exact lq λp _=>aby _ _ _ _ p
 have N:∀x d,cN H (iS b x d)=iS b x d:=λx d=>rfl;refine Cu.eV ⟨r,H,?_,?_⟩ fH cQ vX λp hp R=>?_
 .intro u X v hv O kv e;have y:∀u∈P.map aN.l,u.kind=2->∃z∈L,z.kind=2/\z.id=u.id:=λu X O=>by
   obtain⟨p,hp,rfl⟩:=ch.1 X;rcases Ah p hp with h|⟨q,n,rfl⟩
   .unfold U.ay at h;rw[O]at h;cases h
   have E:(cW b c 2 q).l.kind=q.l.kind/\(cW b c 2 q).l.id=q.l.id:=by unfold cW;split<;>exact⟨rfl,rfl⟩
   exact⟨q.l,tp n,E.1▸O,E.2.symm⟩
  obtain⟨z1,h1,k1,E⟩:=y u X O;obtain⟨z2,h2,k2,e2⟩:=y v hv kv;rw[<-E,<-e2]at e |-;exact o9 z1 h1 z2 h2 k1 k2 e
 .cases r with
  |false=>simp only[fE,if_false,Bool.bne_false]at T |-;rw[e3]at T;refine c_.trans (j.map (cN H)).symm ?_;rw[qz,qz,fB,eZ,eZ,N,N];exact T
  |true=>
   simp only[if_true]at T |-;rw[e3]at T;refine c_.trans (j.eY.map (cN H)).symm (c_.trans ?_ T);rw[OI,L8 λp=>YL _ _ _ p,fL];refine⟨_,_,rfl,?_⟩;congr 1;have eF:∀x d,ia (iS b x d)=iS b x (!d):=λx d=>rfl;have e5:(A !=(f !=true))= !(A !=f):=by cases A<;>cases f<;>rfl
   rw[e5];show _=[cN H (ia _),cN H (ia _)];rw[eF,eF,N,N,yI];cases A !=f<;>rfl
 rcases Ah p hp with h|⟨q,n,rfl⟩
 .rw[h]at R;cases R
 rw[Cq.1]at R;rw[Cq.2];exact qH n R
end
theorem aho{l:aW}{a b:Nat}(z:a<I l)(u:b<I l)(D:a≠b):∃r1 R,I r1=(b+I l-a)%I l/\l.drop (a+1)++l.take (a+1)=r1++R/\ ∀x y,c_ (x++r1++y++R) (if a<b then dK (dK l y b) x a else dK (dK l x a) y b):=by
 have f:∀ {a b:Nat},a<b->b<I l->∃A B bd,l=A++B++bd/\A≠[]/\B≠[]/\I A=a+1/\I B=b-a:=λ{a b} D u=>by
  have n:I (l.take (a+1))=a+1:=by rw[jO];omega
  have v:I ((l.drop (a+1)).take (b-a))=b-a:=by rw[jO,rG];omega
  refine⟨l.take (a+1),(l.drop (a+1)).take (b-a),l.drop (b+1),?_,?_,?_,n,v⟩
  .have F:l.drop (b+1)=(l.drop (a+1)).drop (b-a):=by rw[KS];congr 1;omega
   rw[F,lf,jS,jS]
  .intro h;rw[h]at n;have:I ([]:aW)=0:=rfl;omega
  intro h;rw[h]at v;have:I ([]:aW)=0:=rfl;omega
 have fin:∀ {A B bd:aW},A≠[]->B≠[]->∀p q,dK (dK (A++B++bd) q (I (A++B)-1)) p (I A-1)=A++p++B++q++bd:=λ{A B bd} H j p q=>by rw[B_ (A++B) bd q (by simp[H]),show A++B++q++bd=A++(B++q++bd) by simp,B_ A _ p H];simp
 rcases FI D with h|h
 .obtain⟨A,B,bd,e,H,j,E,m⟩:=f h u;have hl:I l=a+1+(b-a)+I bd:=by rw[e,gb,gb,E,m]
  refine⟨B,bd++A,?_,?_,λx y=>?_⟩
  .rw[m,show b+I l-a=(b-a)+I l by omega,lg,eJ J]
  .rw[<-E,e,lf,Q1,Kn,lf]
  rw[aD h,e,show a=I A-1 by omega,show b=I (A++B)-1 by rw[gb];omega,fin H j];exact⟨x++B++y++bd,A,aE,aE⟩
 obtain⟨A,B,bd,e,H,j,E,m⟩:=f h z;have hl:I l=b+1+(a-b)+I bd:=by rw[e,gb,gb,E,m]
 refine⟨bd++A,B,?_,?_,λx y=>?_⟩
 .rw[gb,E,eJ J];omega
 .rw[show a+1=I (A++B) by rw[gb];omega,e,Q1,Kn,lf]
 rw[aC J,e,show b=I A-1 by omega,show a=I (A++B)-1 by rw[gb];omega,fin H j];exact⟨x++bd,A++y++B,aE,aE⟩
section
variable {F:Nat} {L M:af} {P Q:aW} {r:Bool} {s t:Nat->Nat}
theorem arb(g:bj F L){a b:Nat}(A:a<I L)(z:b<I L){l o:Bool}(h:s3 F L a b l o=some P):∃(j f:Bool) (sg:Int),l=(j==f)/\sg=(if(o==j)=true then(1:Int)else -1)/\ep L (if(j==f)=true then 2*a else 2*a+1)=ep L (if j=true then 2*b else 2*b+1)/\P=if a<b then dK (dK (an L) (j9 (aq U.ak L/2) sg o f) b) (j5 (aq U.ak L/2) sg o) a else dK (dK (an L) (j5 (aq U.ak L/2) sg o) a) (j9 (aq U.ak L/2) sg o f) b:=by
 have E:∀x y:Nat,((x:Int)==(y:Int))->x=y:=λx y h=>by have:=eq_of_beq h;omega
 have m:∀f other:Bool,(f->ep L (if l=true then 2*a else 2*a+1)=ep L (if l=true then 2*b else 2*b+1))->(other->ep L (if l=true then 2*a else 2*a+1)=ep L (if l=true then 2*b+1 else 2*b))->uS L a b l o f other=some P->∃(j f:Bool) (sg:Int),l=(j==f)/\sg=(if(o==j)=true then(1:Int)else -1)/\ep L (if(j==f)=true then 2*a else 2*a+1)=ep L (if j=true then 2*b else 2*b+1)/\P=if a<b then dK (dK (an L) (j9 (aq U.ak L/2) sg o f) b) (j5 (aq U.ak L/2) sg o) a else dK (dK (an L) (j5 (aq U.ak L/2) sg o) a) (j9 (aq U.ak L/2) sg o f) b:=λf other n H h=>by
  unfold uS at h;split at h
  .cases h
  rename_i v;refine⟨(f==l),f,_,by cases f<;>cases l<;>rfl,rfl,?_,(kA h).symm⟩;cases f with
  |true=>have:=n rfl;cases l<;>exact this
  |false=>
   have u:other:=by
    cases other
    .exact absurd rfl v
    rfl
   have:=H u;cases l<;>exact this
 unfold s3 at h;cases l
 .rw[aC aa,vn g J,vn g J,vn g J]at h;exact m _ _ (λn=>(E _ _ n).symm) (λH=>(E _ _ H).symm) h
 rw[aD rfl,vn g J,vn g J,vn g J]at h;exact m _ _ (λn=>(E _ _ n).symm) (λH=>(E _ _ H).symm) h
theorem cK.apm(i:cK F L M r s t){a b:Nat}(m:a<I L)(j:b<I L)(D:a≠b):(dw (I L) r s b+I L-dw (I L) r s a)%I L=if r=true then I L-(b+I L-a)%I L else(b+I L-a)%I L:=by
 have x:0<I L:=J;have B:(b+I L-a)%I L<I L:=cT _ x;have A:(b+I L-a)%I L≠0:=λe=>by
  rcases FI D with h|h
  .rw[show b+I L-a=(b-a)+I L by omega,lg,eJ J]at e;omega
  rw[eJ J]at e;omega
 have ae:(a+(b+I L-a)%I L)%I L=b:=by rw[Dj,show a+(b+I L-a)=b+I L by omega,lg,eJ j]
 have v:=i.Bq m;rcases i.ends m with⟨f,E,_⟩|⟨f,E,_⟩
 .have O:dw (I L) r s b=s b:=by
   rcases i.ends j with⟨_,u,_⟩|⟨n,_⟩
   .exact u
   rw[f]at n;cases n
  have H:=i.VR m (k:=(b+I L-a)%I L) J;rw[ae]at H;rw[O,E];rw[E]at v;generalize(b+I L-a)%I L=k at*;simp only[f,fE,if_false]at H |-;rw[H,uf (a:=s a+k) J,uf (by split<;>omega)];split<;>split<;>omega
 have O:dw (I L) r s b=s (nx L b):=by
  rcases i.ends j with⟨n,_⟩|⟨_,u,_⟩
  .rw[f]at n;cases n
  exact u
 have y:nx L a<I L:=cT _ x;have H:=i.VR y (k:=(b+I L-a)%I L) J;have z:(nx L a+(b+I L-a)%I L)%I L=nx L b:=by show((a+1)%I L+_)%I L=(b+1)%I L;rw[tU,show a+1+(b+I L-a)%I L=(a+(b+I L-a)%I L)+1 by omega,<-tU,ae]
 rw[z]at H;rw[O,E];rw[E]at v;generalize(b+I L-a)%I L=k at*;simp only[f,if_true]at H |-;rw[H,uf (a:=s (nx L a)+I L-k) J,uf (by split<;>omega)];split<;>split<;>omega
theorem cK.k7(i:cK F L M r s t){a b:Nat}(D:a<I L)(O:b<I L)(dp:a≠b){l o:Bool}(h:s3 F L a b l o=some P)(vX:dk (F:Int) (aY P)=0):∃(a' b':Nat) (l' o':Bool) (Q:aW),a'<I M/\b'<I M/\a'≠b'/\s3 F M a' b' l' o'=some Q/\eV (aY Q) (aY P):=by
 have fH:=Pq i.g D O dp h;obtain⟨Y,o9,BC,_,_,tK⟩:=i.Vw;obtain⟨j,f,sg,hl,HH,yq,hP⟩:=arb i.g D O h;have m:dw (I L) r s a<I M:=by rw[i.len];exact i.Bq D
 have B:dw (I L) r s b<I M:=by rw[i.len];exact i.Bq O
 have aO:dw (I L) r s a≠dw (I L) r s b:=λe=>dp (by rw[<-i.L6 D,<-i.L6 O,e]);have kM:=i.ajc (by unfold aT;split<;>omega) (by unfold aT;split<;>omega) yq;have d1:=i.dmE D (!(j==f));have d2:=i.dmE O (!j);have z1:∀(c:Bool) (u v:Nat),(if(!c)=true then v else u)=if c=true then u else v:=λc u v=>by cases c<;>rfl
 rw[z1]at d1 d2;rw[d1,d2]at kM;have z2:∀(c:Bool) (u v:Nat),(if((!c)!=r)=true then v else u)=if(c !=r)=true then u else v:=λc u v=>by cases c<;>cases r<;>rfl
 rw[z2,z2,show((j==f)!=r)=((j !=r)==f) by cases j<;>cases f<;>cases r<;>rfl]at kM;have hQ:=ac9 i.g' m B (o:=o) (sg:=if(o==(j !=r))=true then(1:Int)else -1) rfl kM;refine⟨_,_,_,o,_,m,B,aO,hQ,?_⟩;have cQ:=Pq i.g' m B aO hQ;obtain⟨r1,r2,k1,k2,am⟩:=aho (l:=an L) (a:=a) (b:=b) (by rw[bY];exact D) (by rw[bY];exact O) dp;obtain⟨w1,w2,q1,R,ahl⟩:=aho (l:=an M) (a:=dw (I L) r s a) (b:=dw (I L) r s b) (by rw[bY];exact m) (by rw[bY];exact B) aO;rw[i.ael tK D,k2]at R;rw[bY]at k1
 rw[bY,i.len,i.apm D O dp,<-k1]at q1;have ap:I r1+I r2=I L:=by rw[<-gb,<-k2,<- (xO (an L) (a+1)).len,bY]
 have tP:=am (j5 (aq U.ak L/2) sg o) (j9 (aq U.ak L/2) sg o f);have T:=ahl (j5 (aq U.ak M/2) (if(o==(j !=r))=true then(1:Int)else -1) o) (j9 (aq U.ak M/2) (if(o==(j !=r))=true then(1:Int)else -1) o f);rw[<-hP]at tP;rw[i.Ta]at T cQ |-;have ad:(if(o==(j !=r))=true then(1:Int)else -1)=if r=true then -sg else sg:=by rw[HH];cases o<;>cases j<;>cases r<;>rfl
 rw[ad]at T cQ |-;have ab:∀p∈r1++r2,p∈an L:=λp hp=>by rw[<-k2]at hp;exact(xO (an L) (a+1)).perm.mem_iff.2 hp
 generalize hK:aq U.ak L/2=ba at*;generalize(if dw (I L) r s a<dw (I L) r s b then dK (dK (an M) (j9 ba (if r=true then -sg else sg) o f) (dw (I L) r s b)) (j5 ba (if r=true then -sg else sg) o) (dw (I L) r s a)else dK (dK (an M) (j5 ba (if r=true then -sg else sg) o) (dw (I L) r s a)) (j9 ba (if r=true then -sg else sg) o f) (dw (I L) r s b))=Q at*
 let H:Int->Int:=λid=>if id=((ba+1:Nat):Int)then(if r=true then((ba+2:Nat):Int)else((ba+1:Nat):Int))else if id=((ba+2:Nat):Int)then(if r=true then((ba+1:Nat):Int)else((ba+2:Nat):Int))else Y id
 have n:H ((ba+1:Nat):Int)=if r=true then((ba+2:Nat):Int)else((ba+1:Nat):Int):=aD rfl;have N:H ((ba+2:Nat):Int)=if r=true then((ba+1:Nat):Int)else((ba+2:Nat):Int):=by show(if _ then _ else if _ then _ else _)=_;rw[aC J,aD rfl]
 have PG:∀p∈an L,p.l.ak->H p.l.id=Y p.l.id/\H p.l.id<=(ba:Int):=λp hp hc=>by
  have h1:=(xi i.g hp hc).2;have h3:=(BC p.l (tp hp) hc).2;rw[hK]at h1;have:H p.l.id=Y p.l.id:=by show(if _ then _ else if _ then _ else _)=_;rw[aC J,aC J]
  exact⟨this,by rw[this];exact h3⟩
 have PH:∀p∈an L,cN H p=cN Y p:=λp hp=>aj1 λhc=>(PG p hp hc).1;have ac:∀w:aW,(∀p∈w,p∈an L)->w.map (cN H)=w.map (cN Y):=λw hw=>lq λp hp=>PH p (hw p hp);have Z:∀w:aW,(∀p∈w,p∈an L)->(eY w).map (cN H)=(eY w).map (cN Y):=λw hw=>lq λp hp=>by unfold eY at hp;obtain⟨q,hq,rfl⟩:=ch.1 hp;rw[<-Rb,<-Rb,PH q (hw q (zJ.1 hq))]
 have m1:∀p∈r1,p∈an L:=λp hp=>ab p (gn.2 (.inl hp));have m2:∀p∈r2,p∈an L:=λp hp=>ab p (gn.2 (.inr hp));have vF:∀(E:Int),∀p∈j5 ba E o,p.l.ak/\p.d=false/\(p.l.id=((ba+1:Nat):Int)\/p.l.id=((ba+2:Nat):Int)):=λE p hp=>by
  simp only[c7,eD,or_false]at hp;rcases hp with rfl|rfl
  .exact⟨rfl,rfl,.inl rfl⟩
  exact⟨rfl,rfl,.inr rfl⟩
 have vS:∀p∈j9 ba sg o f,p.l.ak/\p.d=false/\(p.l.id=((ba+1:Nat):Int)\/p.l.id=((ba+2:Nat):Int)):=λp hp=>by
  cases ag:f<;>rw[ag]at hp<;>simp only[j9,if_true,fE,if_false,c7,eD,or_false]at hp<;>rcases hp with rfl|rfl
  .exact⟨rfl,rfl,.inl rfl⟩
  .exact⟨rfl,rfl,.inr rfl⟩
  .exact⟨rfl,rfl,.inr rfl⟩
  exact⟨rfl,rfl,.inl rfl⟩
 have Ah:∀p∈P,(p.l.ak/\p.d=false/\(p.l.id=((ba+1:Nat):Int)\/p.l.id=((ba+2:Nat):Int)))\/p∈an L:=λp hp=>by
  have:=tP.perm.mem_iff.2 hp;rcases gn.1 this with h|h
  .rcases gn.1 h with h|h
   .rcases gn.1 h with h|h
    .exact .inl (vF _ p h)
    exact .inr (m1 p h)
   exact .inl (vS p h)
  exact .inr (m2 p h)
 have A:∀k E ov,cN H (qe ba k E ov)=⟨⟨2,0,0,H ((ba+k:Nat):Int),E,ov⟩,false⟩:=λk E ov=>rfl;have X:∀k E ov,ia (qe ba k E ov)=qe ba k E ov:=λk E ov=>rfl;have ao:∀x y:aN,eY [x,y]=[ia y,ia x]:=λx y=>rfl;refine Cu.eV ⟨r,H,?_,?_⟩ fH cQ vX λp hp dx=>?_
 .intro x hx y hy kx ky e;obtain⟨p,hp,rfl⟩:=ch.1 hx;obtain⟨q,hq,rfl⟩:=ch.1 hy;have cp:p.l.ak:=by unfold U.ak;rw[kx];rfl
  have cq:q.l.ak:=by unfold U.ak;rw[ky];rfl
  have new:∀z:Int,(z=((ba+1:Nat):Int)\/z=((ba+2:Nat):Int))->(ba:Int)<H z:=λz hz=>by
   rcases hz with rfl|rfl
   .rw[n];split<;>omega
   rw[N];split<;>omega
  rcases Ah p hp with⟨_,_,e1⟩|fO<;>rcases Ah q hq with⟨_,_,e2⟩|lG
  .rcases e1 with e1|e1<;>rcases e2 with e2|e2<;>rw[e1,e2]at e |-
   .rw[n,N]at e;exfalso;cases r<;>simp at e<;>omega
   rw[n,N]at e;exfalso;cases r<;>simp at e<;>omega
  .exfalso;have:=new _ e1;have:=(PG q lG cq).2;omega
  .exfalso;have:=new _ e2;have:=(PG p fO cp).2;omega
  rw[(PG p fO cp).1,(PG q lG cq).1]at e;exact o9 _ (tp fO) _ (tp lG) kx ky e
 .cases r with
  |false=>
   simp only[fE,if_false]at T q1 R n N |-;rw[fL]at R;obtain⟨u1,u2⟩:=List.append_inj R.symm (by rw[cg,q1]);rw[u1,u2,<-ac _ m1,<-ac _ m2]at T;refine c_.trans (tP.map (cN H)).symm ?_;rw[fL,fL,fL];have f1:(j5 ba sg o).map (cN H)=j5 ba sg o:=by show [cN H _,cN H _]=_;rw[A,A,n,N]
   have f2:(j9 ba sg o f).map (cN H)=j9 ba sg o f:=by
    cases f
    .show [cN H _,cN H _]=_;rw[A,A,n,N];rfl
    show [cN H _,cN H _]=_;rw[A,A,n,N];rfl
   rw[f1,f2];exact T
  |true=>
   simp only[if_true]at T q1 R n N |-;rw[OI,fL]at R;obtain⟨u1,u2⟩:=List.append_inj R.symm (by rw[cg,Gy,q1];omega);rw[u1,u2,<-Z _ m1,<-Z _ m2]at T;refine c_.trans (tP.eY.map (cN H)).symm (c_.trans ?_ T);rw[OI,OI,OI,fL,fL,fL];have f1:(eY (j5 ba sg o)).map (cN H)=j5 ba (-sg) o:=by show [cN H (ia _),cN H (ia _)]=[qe ba 1 (-sg) o,qe ba 2 (- -sg) o];rw[X,X,A,A,n,N,Int.neg_neg]
   have f2:(eY (j9 ba sg o f)).map (cN H)=j9 ba (-sg) o f:=by
    cases f
    .show [cN H (ia _),cN H (ia _)]=[_,_];rw[X,X,A,A,n,N,Int.neg_neg]
    show [cN H (ia _),cN H (ia _)]=[_,_];rw[X,X,A,A,n,N,Int.neg_neg]
   rw[f1,f2];exact⟨(eY r2).map (cN H)++j9 ba (-sg) o f++(eY r1).map (cN H),j5 ba (-sg) o,aE,aE⟩
 rcases Ah p hp with⟨_,hd,_⟩|fO
 .exact hd
 exact qH fO dx
end
section
variable {F:Nat} {L M X:af} {r:Bool} {s t:Nat->Nat}
theorem cK.mv(i:cK F L M r s t){m:dJ}(h:gi F L m=some X):∃m' Y,m'.k=m.k/\gi F M m'=some Y/\eV Y X:=by
 obtain⟨k,a,b,c,l,o,sg⟩:=m;have g:=i.g;obtain⟨y,v,P,H,rfl,z1,z2⟩:=akr g h;simp only at v H z1 z2;have mk:∀ {m:dJ}{Q:aW},m.k=k->fC F M m.k m.a m.b m.c m.l m.o m.s->mg F M m.k m.a.toNat m.b.toNat m.c.toNat m.l m.o m.s=some Q->gi F M m=some (aY Q):=λ{m Q} Z v hQ=>by
  refine Om i.g' v hQ ?_ ?_
  .rw[i.len,Z];exact z1
  rw[i.Ta,Z];exact z2
 have qp:k=1\/k=2\/k=3\/k=4\/k=5\/k=6\/k=7\/k=8\/k=9\/k=10:=by refine Decidable.byContradiction λZ=>?_;unfold fC at v;rw[aC J,aC J,aC J,aC J,aC J,aC J]at v;cases v
 rcases qp with rfl|rfl|rfl|rfl|rfl|rfl|rfl|rfl|rfl|rfl
 .obtain⟨u,x,rfl,rfl,rfl,rfl,rfl,rfl⟩:=(t_ (.inl rfl)).1 v;have H:n_ L u=some P:=H;obtain⟨A,Q,j,f,n⟩:=i.k1 x H y;exact⟨⟨1,A,0,0,false,false,0⟩,_,rfl,mk (m:=⟨1,A,0,0,false,false,0⟩) rfl ((t_ (.inl rfl)).2 ⟨A,j,rfl,rfl,rfl,rfl,rfl,rfl⟩) f,n⟩
 .obtain⟨u,z,R,x,E,hc,rfl,rfl,rfl,rfl,rfl,rfl⟩:=C5.1 v;have hp:=gy.2 g.ne;have H:ob F L u z R=some P:=H;obtain⟨A,Q,j,f,n,D⟩:=i.k2 J E hc H y;exact⟨⟨2,A,z,R,false,false,0⟩,_,rfl,mk (m:=⟨2,A,z,R,false,false,0⟩) rfl (C5.2 ⟨A,z,R,.inl j,E,f,rfl,rfl,rfl,rfl,rfl,rfl⟩) n,D⟩
 .obtain⟨u,z,N,E,rfl,rfl,rfl,rfl,rfl,rfl⟩:=(Ch (.inl rfl)).1 v;obtain⟨A,B,Q,j,f,n,D⟩:=i.k3 N E H y;exact⟨EH 3 A B,_,rfl,mk (m:=EH 3 A B) rfl ((Ch (.inl rfl)).2 ⟨A,B,j,f,rfl,rfl,rfl,rfl,rfl,rfl⟩) n,D⟩
 .obtain⟨u,x,rfl,rfl,rfl,rfl,rfl,rfl⟩:=(t_ (.inr (.inl rfl))).1 v;have H:qh L u=some P:=H;obtain⟨A,Q,j,f,n⟩:=i.k4 x H y;exact⟨⟨4,A,0,0,false,false,0⟩,_,rfl,mk (m:=⟨4,A,0,0,false,false,0⟩) rfl ((t_ (.inr (.inl rfl))).2 ⟨A,j,rfl,rfl,rfl,rfl,rfl,rfl⟩) f,n⟩
 .obtain⟨u,x,rfl,rfl,rfl,rfl,ae⟩:=MP.1 v;have H:some (oo L u sg o)=some P:=H;cases H;obtain⟨A,O,j,f⟩:=i.k5 x ae y;exact⟨⟨5,A,0,0,false,O,sg⟩,_,rfl,mk (m:=⟨5,A,0,0,false,O,sg⟩) (Q:=oo M A sg O) rfl (MP.2 ⟨A,j,rfl,rfl,rfl,rfl,ae⟩) rfl,f⟩
 .obtain⟨u,z,N,E,rfl,rfl,rfl,rfl,rfl,rfl⟩:=(Ch (.inr rfl)).1 v;have H:oY F L u z=some P:=H;obtain⟨A,B,Q,j,f,n,D⟩:=i.k6 N E H y;exact⟨EH 6 A B,_,rfl,mk (m:=EH 6 A B) rfl ((Ch (.inr rfl)).2 ⟨A,B,j,f,rfl,rfl,rfl,rfl,rfl,rfl⟩) n,D⟩
 .obtain⟨u,z,x,E,N,rfl,rfl,rfl,rfl⟩:=Ot.1 v;have H:s3 F L u z l o=some P:=H;obtain⟨A,B,l',O,Q,j,f,n,D,h5⟩:=i.k7 x E N H y;exact⟨⟨7,A,B,0,l',O,0⟩,_,rfl,mk (m:=⟨7,A,B,0,l',O,0⟩) rfl (Ot.2 ⟨A,B,j,f,n,rfl,rfl,rfl,rfl⟩) D,h5⟩
 .obtain⟨u,z,R,N,Cr,hc,rfl,rfl,rfl,rfl,rfl,rfl⟩:=Pf.1 v;obtain⟨A,B,T,Q,j,f,n,D,h5⟩:=i.k8 N Cr hc H y;exact⟨Mf 8 A B T,_,rfl,mk (m:=Mf 8 A B T) rfl (Pf.2 ⟨A,B,T,j,f,n,rfl,rfl,rfl,rfl,rfl,rfl⟩) D,h5⟩
 .obtain⟨u,x,rfl,rfl,rfl,rfl,rfl,rfl⟩:=(t_ (.inr (.inr (.inl rfl)))).1 v;have H:th F L u=some P:=H;obtain⟨A,Q,j,f,n⟩:=i.k9 x H y;exact⟨⟨9,A,0,0,false,false,0⟩,_,rfl,mk (m:=⟨9,A,0,0,false,false,0⟩) rfl ((t_ (.inr (.inr (.inl rfl)))).2 ⟨A,j,rfl,rfl,rfl,rfl,rfl,rfl⟩) f,n⟩
 obtain⟨u,x,rfl,rfl,rfl,rfl,rfl,rfl⟩:=(t_ (.inr (.inr (.inr rfl)))).1 v;have H:te L u=some P:=H;obtain⟨A,Q,j,f,n⟩:=i.k10 x H y;exact⟨⟨10,A,0,0,false,false,0⟩,_,rfl,mk (m:=⟨10,A,0,0,false,false,0⟩) rfl ((t_ (.inr (.inr (.inr rfl)))).2 ⟨A,j,rfl,rfl,rfl,rfl,rfl,rfl⟩) f,n⟩
end
theorem au7{A B:af}(f:bj F A)(n:bj F B)(h:gV A=gV B){m:dJ}(v:gi F A m=some X):∃M Y,M.k=m.k/\gi F B M=some Y/\eV Y X:=by obtain⟨r,s,t,i⟩:=f.iso f.nor.2.1;obtain⟨R,D,T,j⟩:=n.iso n.nor.2.1;rw[h]at i;obtain⟨L,N,k1,x,E⟩:=i.mv v;obtain⟨u,y,k2,H,z⟩:=j.symm.mv x;exact⟨u,y,k2.trans k1,H,z.trans E⟩
theorem anG:((List.range 41).all λF=>(List.range (F+1)).all λq=>dk (F:Int) (nq q)==0):=ah
theorem apT{g:Nat}(f:F<=40)(H:g<=F):dk (F:Int) (nq g)=0:=by have h:=j4.1 anG F (gA.2 J);have h:=j4.1 h g (gA.2 J);exact c8.1 h
theorem ajL(h:dk (F:Int) []=0):F<=40:=by
 unfold dk at h;rw[aC aa]at h;by_cases hf:(F:Int)<0\/40<(F:Int)
 .rw[aD hf]at h;cases h
 omega
theorem akv(h:dk (F:Int) j=0)(m:dJ):
  (∃L,gi F j m=some L/\dk (F:Int) L=0/\I L<=I j+4/\aL S 7 [eU F j,Cl m] (mQ F L))\/(gi F j m=none/\ ∃e,e≠0/\aL S 7 [eU F j,Cl m] (oX e)):=by
 by_cases A:j=[]
 .subst A;have z:=ajL h;have f:=awn (F:=F) z m.k m.a m.b m.c m.l m.o m.s;unfold OV at f;unfold gi;rw[aD rfl];by_cases n:fC F [] m.k m.a m.b m.c m.l m.o m.s
  .rw[aD n]at f |-;obtain⟨O,_,_,e,N,_⟩:=ZY n;exact .inl ⟨_,rfl,apT z J,aE,f⟩
  rw[aC n]at f |-;exact .inr ⟨rfl,2,aa,f⟩
 obtain⟨G,e,g⟩:=Ci h A;have:F=G:=J;subst this;have f:=ao0 g m.k m.a m.b m.c m.l m.o m.s;unfold gi;rw[aC A];rcases am9 g m.k m.a m.b m.c m.l m.o m.s with⟨e,y,H⟩|⟨M,H,B,x,L,v,rfl⟩
 .rw[H]at f;refine .inr ⟨?_,e,y,f⟩;unfold sE at H;by_cases n:fC F j m.k m.a m.b m.c m.l m.o m.s
  .rw[aD n]at H |-;cases D:mg F j m.k m.a.toNat m.b.toNat m.c.toNat m.l m.o m.s with
   |none=>rfl
   |some M=>
    rw[D]at H;dsimp only;by_cases u:(400:Int)<(I j:Int)+(gL m.k).1\/(100:Int)<((aq U.ak j/2:Nat):Int)+(gL m.k).2
    .rw[aD u]
    have E:ui F j m.k (some M)=mQ F (aY M):=aC u;rw[E]at H;exact absurd H (aj7 y)
  rw[aC n]
 rw[H]at f;refine .inl ⟨aY L,?_,B,?_,f⟩
 .rw[aD x,v];dsimp only;unfold sE at H;rw[aD x,v]at H;by_cases u:(400:Int)<(I j:Int)+(gL m.k).1\/(100:Int)<((aq U.ak j/2:Nat):Int)+(gL m.k).2
  .have E:ui F j m.k (some L)=oX 7:=aD u;rw[E]at H;exact absurd H.symm (aj7 aa)
  rw[aC u]
 have:=ad0 v;rw[ah0];omega
abbrev Dq(m:dJ):RV:=.agg [.p (.int .i64 m.k),.p (.int .i64 m.a),.p (.int .i64 m.b),.p (.int .i64 m.c),.p (.bool m.l),.p (.bool m.o),.p (.int .i64 m.s)]
theorem JT{M:af}{blk:aJ}{s:Nat}(lo:S.lone s):fR blk [] s ((mQ F M).iA (S.lone s))=some (.tup [.agg [.p (.int .i64 F),.p (om (cX M))],.one (.p (.int .i64 0))],[]):=by
 rw[lo];unfold mQ cU om;by_cases h:cX M=[]
 .rw[aD h,aD h];rfl
 rw[aC h,aC h];rfl
theorem aj9{blk:aJ}{s:Nat}{c e:PV}{l:Bool}:fR blk [] s ((RV.tup [Dq m,.agg [.p x,.p c],.one (.p e)]).iA l)=some (.tup [jL m.k m.a m.b m.c m.l m.o m.s,.agg [.p x,.p c],.one (.p e)],[]):=by cases l<;>rfl
theorem arO{blk:aJ}{s:Nat}{e:PV}{l:Bool}:fR blk [] s ((RV.tup [Dq m,.one (.p e)]).iA l)=some (.tup [jL m.k m.a m.b m.c m.l m.o m.s,.one (.p e)],[]):=by cases l<;>rfl
theorem ahr{blk:aJ}{s:Nat}{l:Bool}:fR blk [] s ((RV.agg [.p x,.p y]).iA l)=some (.agg [.p x,.p y],[]):=by cases l<;>rfl
theorem am0{k:Nat}(m:k<10):aL S 11 [aI ((k+1:Nat):Int)] (jr (H6 ((k+1:Nat):Int))):=by
 have f:∀n:Int,(n=1\/n=2\/n=3\/n=4\/n=5\/n=6\/n=7\/n=8\/n=9\/n=10)->aL S 11 [aI n] (jr (H6 n)):=λn H=>by
  have h:IntKind.i64.wrap (n+1)=n+1:=nj J J;have j:IntKind.i64.wrap (n-1)=n-1:=nj J J;refine cG ax8 ?_;rcases H with rfl|rfl|rfl|rfl|rfl|rfl|rfl|rfl|rfl|rfl
  all_goals
   simp only[go_sem,aiU,h,j,ai,aB];first|done|rfl|trace_state
 exact f _ J
theorem GV(h:dk (F:Int) L=0):L=[]\/bj F L:=by
 by_cases A:L=[]
 .exact .inl A
 obtain⟨G,e,g⟩:=Ci h A;have:F=G:=J;subst this;exact .inr g
theorem Ds(h:dk (F:Int) L=0):I L<=400:=by
 rcases GV h with rfl|g
 .exact bZ _
 exact g.len
theorem ae0(h:dk (F:Int) j=0):aL S 29 [eU F j] (.agg [.p (.int .i64 F),.p (om (cX (gV j)))]):=by
 have Q:=Ds h;have f:=aq1 (F:=F) (j:=j) J;have m:Dz j=gV j:=by
  rcases GV h with rfl|g
  .rfl
  exact atV g
 rwa[m]at f
theorem Us(j:af):I (gV j)<=I j:=by
 unfold gV;cases h:sI j with
 |none=>exact bZ _
 |some z=>have:=Rc (WU h);show I z<=_;omega
theorem ami(o:Option af):(qP o).norm=gC (o.getD []):=by cases o<;>rfl
theorem aik{Y:af}(h:dk (F:Int) X=0)(H:dk (F:Int) Y=0):aL S 12 [eU F X,eU F Y] (fv (decide (gV X=gV Y))):=by have j:=ae0 h;have m:=ae0 H;have x:=Us X;have u:=Us Y;have y:=Ds h;have v:=Ds H;have f:=afS (F:Int) (gV X) (gV Y) J J;have n:=uh (cX (gV X));have N:=uh (cX (gV Y));have f:aL S 15 [.agg [.p (.int .i64 F),.p (.sl (cX (gV X)))],.agg [.p (.int .i64 F),.p (.sl (cX (gV Y)))]] (fv (decide (gV X=gV Y))):=f;generalize decide (gV X=gV Y)=r at*;refine cG J_ ?_;simp only[go_sem,adX,anL,oT j ahr,oT m ahr,n,N,aaH,fx f];first|done|exact aS|exact⟨aS,rfl⟩|trace_state
section
variable {F:Nat} {X Y:af}
theorem au2(dF:yG)(hY:dk (F:Int) Y=0)(hv:∀m M,gi F X m=some M->dk (F:Int) M=0){k:Int}(ba:VE F X k h)(hf:h.find? (Ic F X Y)=some z)(hZ:gi F X z=some Z):aL S 28 [eU F X,eU F Y,aI k] (.tup [Dq z,.agg [.p (.int .i64 F),.p (om (cX Z))],.one (.p (.int .i64 0))]):=by
 have kQ:S.lone 1792832128:=ah;have n9:S.lone 1793024128:=ah;obtain⟨j0,Hr,_,ab⟩:=akc hf;have am:=(bt.1 Hr).1;have po:=ba.opn;have pc:=ba.cnd;have ao:=Ds hY;have ag:=aht dF (f:=F) (h:=Y) J hY;have nY:(qP (sI Y)).norm=gC (gV Y):=ami _;have D:I (cO h)=I h:=oI h;have aO:cO h≠[]:=λe=>by rw[e]at D;simp at D;omega
 have mY:om (cO h)=.sl (cO h):=aC aO;have ar:((0:Int)!=0)=false:=rfl;refine cG awz ?_;simp only[go_sem,aiY,KY,cE po dX,XD,cE ag XT];have ad:((0:Int)<((1:Nat):Int)):=aa;refine og ?_;simp only[go_sem,aky,ad,W5,cE pc (Y6 kQ),mY,D];have DU:I h<=200000000:=ba.len
 refine dt (λO u blk=>O<=j0/\u 6=.one (.bR 1792000128 1 0)/\u 7=.one (.bR 1792000192 1 0)/\u 9=.one (.p (eK F X))/\u 11=.one (.bR 1792256320 1 0)/\u 12=.one (.bR 1792448000 1 0)/\u 13=.one (.bR 1792512000 1 0)/\u 52=.one (.p (.sl (cO h)))/\u 53=aI (I h)/\u 54=aI O/\blk 1792256320=(1,some (.var [.p (.int .i64 F),.p (qP (sI Y))]))/\blk 1792448000=(1,some (.var [.p (.int .i64 0),.p (.int .i64 0),.p (.int .i64 0),.p (.int .i64 0),.p (.bool false),.p (.bool false),.p (.int .i64 0)]))/\blk 1792512000=(1,some (.var [.p (.int .i64 0),.p .nils]))/\blk 1792000128=(1,some (.var [.p (.int .i64 0),.p (.int .i64 0),.p (.int .i64 0),.p (.int .i64 0),.p (.bool false),.p (.bool false),.p (.int .i64 0)]))/\blk 1792000192=(1,some (.var [.p (.int .i64 0),.p .nils]))) 0 (I h) (bZ _) ?_ ?_
 .simp only[go_sem];first|exact⟨bZ _,rfl⟩|exact⟨bZ _,rfl,rfl⟩|exact rfl
 rintro O u blk hj ⟨av,e6,e7,e9,E,Jj,v,A,y,x,Bk,B,Lw,b6,b7⟩
 have Q:O<I h:=J;have aM:((O:Int)<(I h:Int)):=J;have w1:=cS (n:=O) J;obtain⟨m,H⟩:=aP Q;have vE:=DG H;rcases ba.dos m (a7 H)with⟨e,he,eI,T⟩|⟨M,N,T⟩
 .have Am:(e !=0):=by simpa using he
  have ap:O≠j0:=λe0=>by subst e0;rw[Hr]at H;cases H;rw[hZ]at eI;cases eI
  simp only[go_sem,T6,e6,e7,e9,E,Jj,v,A,y,x,Bk,B,Lw,b6,b7,Q,aM,D,vE,dJ.ps,CT,cE T afu,Am,w1];omega
 have L:=hv m M N;have az:=Ds L;have pn:=aht dF (f:=F) (h:=M) J L;have EV:(qP (sI M)).norm=gC (gV M):=ami _;have R:=apS (gV M) (gV Y) (by have:=Us M;omega) (by have:=Us Y;omega);have nv:=uh (cX M);by_cases ac:O=j0
 .subst ac;rw[Hr]at H;cases H;rw[hZ]at N;cases N;have ht:decide (gV Z=gV Y)=true:=by rw[<-UX hZ];exact AW hf
  rw[ht]at R;generalize qP (sI Z)=qM at*;generalize qP (sI Y)=qY at*;simp only[go_sem,T6,aeU,e6,e7,e9,E,Jj,v,A,y,x,Bk,B,Lw,b6,b7,Q,aM,D,vE,dJ.ps,CT,cE T (JT n9),XD,nv,cE pn XT,akU,EV,nY,b_ R,w1];exact⟨aS,aS,rfl⟩
 have ht:decide (gV M=gV Y)=false:=by rw[<-UX N];exact ab O m J H
 rw[ht]at R;generalize qP (sI M)=qM at*;generalize qP (sI Y)=qY at*;simp only[go_sem,T6,e6,e7,e9,E,Jj,v,A,y,x,Bk,B,Lw,b6,b7,Q,aM,D,vE,dJ.ps,CT,cE T (JT n9),XD,nv,cE pn XT,akU,EV,nY,b_ R,w1];omega
theorem aAU{k a b c f:Int}{l o:Bool}{sg:Int}(m:aL S 7 [eU F Y,jL k a b c l o sg] (mQ F X))(j:aL S 11 [aI k] (jr f))(pb:aL S 28 [eU F X,eU F Y,aI f] (.tup [Dq z,.agg [.p (.int .i64 F),.p (om (cX Z))],.one (.p (.int .i64 0))])):aL S 10 [eU F Y,jL k a b c l o sg] (.tup [Dq z,.one (.p (.int .i64 0))]):=by have h:S.lone 640064128:=ah;have n:=uh (cX X);have N:=uh (cX Z);have pb:aL S 28 [.agg [.p (.int .i64 F),.p (.sl (cX X))],.agg [.p (.int .i64 F),.p (.sl (cX Y))],aI f] (.tup [Dq z,.agg [.p (.int .i64 F),.p (om (cX Z))],.one (.p (.int .i64 0))]):=pb;refine cG az5 ?_;simp only[go_sem,amS,LP,cE m (JT h),VU,pG j,adD,n,oT pb aj9];first|done|exact⟨aS,rfl⟩
end
section
variable {F:Nat} {A X N Y Z:af} {m:dJ}
theorem aob(h:dk (F:Int) A=0):aq U.ay A%2=0:=by
 rcases GV h with rfl|g
 .rfl
 exact g.even
theorem aeJ(h:dk (F:Int) A=0)(e:eV A Y):gV A=gV Y:=an7 (aob h) e
theorem ajt(h:dk (F:Int) A=0):I (gV A)=I A:=by
 rcases GV h with rfl|g
 .rfl
 exact(apo g.even g.nor.2.1).1
theorem Es(h:dk (F:Int) A=0)(f:gi F A m=some X):dk (F:Int) X=0/\I X<=I A+4/\aL S 7 [eU F A,Cl m] (mQ F X):=by
 rcases akv h m with⟨L,H,j,u,n⟩|⟨H,_⟩
 .rw[f]at H;cases H;exact⟨j,u,n⟩
 rw[f]at H;cases H
theorem af2(u:dk (F:Int) A=0)(h:gi F A m=some X)(j:dk (F:Int) N=0)(v:gV N=gV X):∃M Z,M.k=H6 m.k/\gi F N M=some Z/\gV Z=gV A:=by
 have H:=(Es u h).1;obtain⟨O,B,y,f,E⟩:=art u h;have D:=(Es H f).1;have L:=ajt j;have x:=ajt H;rw[v]at L;rcases GV H with rfl|cM
 .have:N=[]:=Eh (by rw[<-L,x];rfl);subst this;exact⟨O,B,y,f,aeJ D E⟩
 rcases GV j with rfl|se
 .exact absurd (Eh (by rw[<-x,L];rfl)) cM.ne
 obtain⟨z,Y,k2,n,Q⟩:=au7 cM se v.symm f;exact⟨z,Y,k2.trans y,n,aeJ (Es j n).1 (Q.trans E)⟩
theorem aiO(D:yG)(j:dk (F:Int) N=0)(L:dk (F:Int) Y=0){k:Nat}(y:k<10){f:dJ}{n:af}(A:f.k=((k+1:Nat):Int))(E:gi F N f=some n)(B:gV n=gV Y):∃z Z,z.k=((k+1:Nat):Int)/\gi F N z=some Z/\gV Z=gV Y/\aL S 28 [eU F N,eU F Y,aI ((k+1:Nat):Int)] (.tup [Dq z,.agg [.p (.int .i64 F),.p (om (cX Z))],.one (.p (.int .i64 0))]):=by
 obtain⟨h,ba⟩:=axV j y;have x:=ba.all f A (by rw[E];rfl);have u:Ic F N Y f:=by rw[UX E,B];simp
 cases hf:h.find? (Ic F N Y)with
 |none=>exact absurd u (B6.1 hf f x)
 |some z=>
  have v:=AW hf;cases H:gi F N z with
  |none=>rw[aBH H]at v;cases v
  |some Z=>rw[UX H]at v;exact⟨z,Z,ba.kd z (CU hf),H,Dp v,au2 D L (λm M O=>(Es j O).1) ba hf H⟩
end
section
attribute [local go_sem ↓] F9 EX
theorem am2(h:gi F L m=some X):∃k:Nat,k<10/\m.k=((k+1:Nat):Int)/\ ∃j:Nat,j<10/\H6 m.k=((j+1:Nat):Int):=by
 have H:fC F L m.k m.a m.b m.c m.l m.o m.s:=by
  unfold gi at h;by_cases f:L=[]
  .subst f;rw[aD rfl]at h;split at h
   .assumption
   cases h
  rw[aC f]at h;split at h
  .assumption
  cases h
 have Q:m.k=1\/m.k=2\/m.k=3\/m.k=4\/m.k=5\/m.k=6\/m.k=7\/m.k=8\/m.k=9\/m.k=10:=by refine Decidable.byContradiction λn=>?_;unfold fC at H;rw[aC J,aC J,aC J,aC J,aC J,aC J]at H;cases H
 rcases Q with e|e|e|e|e|e|e|e|e|e<;>rw[e]
 .exact⟨0,J,rfl,1,J,rfl⟩
 .exact⟨1,J,rfl,0,J,rfl⟩
 .exact⟨2,J,rfl,2,J,rfl⟩
 .exact⟨3,J,rfl,4,J,rfl⟩
 .exact⟨4,J,rfl,3,J,rfl⟩
 .exact⟨5,J,rfl,6,J,rfl⟩
 .exact⟨6,J,rfl,5,J,rfl⟩
 .exact⟨7,J,rfl,7,J,rfl⟩
 .exact⟨8,J,rfl,9,J,rfl⟩
 exact⟨9,J,rfl,8,J,rfl⟩
theorem XF{F:Nat}:∀ {h:fM}{j L:af},dk (F:Int) j=0->od F j h=some L->∃f:v8,I f=I h+1/\f[0]?=some j/\f[I h]?=some L/\(∀A∈f,dk (F:Int) A=0)/\ ∀(k:Nat) (m:dJ),h[k]?=some m->∃A X,f[k]?=some A/\f[k+1]?=some X/\gi F A m=some X
 |[],j,L,n,x=>by cases x;exact⟨[j],rfl,rfl,rfl,λA H=>by rw[mj.1 H];exact n,λk m u=>by simp at u⟩
 |m::h,j,L,n,x=>by
  unfold od at x;cases v:gi F j m with
  |none=>rw[v]at x;cases x
  |some X=>
   rw[v]at x;obtain⟨f,c1,y,c3,c4,B⟩:=XF (Es n v).1 x;refine⟨j::f,by simp[c1],rfl,by simpa using c3,λA H=>?_,λk M u=>?_⟩
   .rcases c7.1 H with rfl|H
    .exact n
    exact c4 A H
   rcases k with _|k
   .cases u;exact⟨j,X,rfl,by simpa using y,v⟩
   obtain⟨A,Y,E,z,D⟩:=B k M (by simpa using u);exact⟨A,Y,by simpa using E,by simpa using z,D⟩
def SW(F:Nat)(f:v8)(v:dI):Prop:=∀(j:Nat) (A:af),j<I v->f[j]?=some A->∃x,v[j]?=some [.int .i64 F,x]/\x.norm=gC A
theorem SW.snoc{f:v8}(h:SW F f v)(z:f[I v]?=some X):SW F f (v++[[.int .i64 F,.sl (cX X)]]):=λj A n H=>by
 by_cases m:j<I v
 .obtain⟨x,y,u⟩:=h j A m H;exact⟨x,by rw[s8 m];exact y,u⟩
 have:j=I v:=by simp at n;omega
 subst this;rw[z]at H;cases H;exact⟨.sl (cX X),aE,rfl⟩
section
variable {F:Nat} {j L:af} {h:fM}
theorem asR(dF:yG)(h0:dk (F:Int) j=0)(hp:od F j h=some L)(hm:I h<=1000):∃r,(∃D Z,I D=I h/\od F L D=some Z/\gV Z=gV j/\dk (F:Int) Z=0/\r=.tup [.one (cU iG 7 (cO D)),.one (.p (.int .i64 0))])/\aL S 14 [eU F j,.one (.p (Gq h))] r:=by
 obtain⟨cs,c1,c2,c3,c4,c5⟩:=XF h0 hp;have pc:=Wt F j (by have:=Ds h0;omega);rw[h0]at pc;have kQ:S.lone 896512448:=ah;have fj:I (cO h)=I h:=oI h;refine AQ rfl azX (ju rfl) ?_;simp only[go_sem,ai3,RG,gr pc];refine dt (λk u blk=>u 1=.one (.p (.sl (cO h)))/\u 25=.one (.p (.sl (cO h)))/\u 26=aI (I h)/\u 27=aI k/\ ∃id v,(id=896256064\/id=896704192)/\I v=k+1/\SW F cs v/\bh id E4 2 v (u 7) blk) 0 (I h) (bZ _) ?_ ?_
 .simp only[go_sem];refine⟨rfl,_,[[.int .i64 F,gC j]],.inl rfl,rfl,λaX A hj H=>?_,.inr ⟨aE,_,rfl,rfl⟩⟩;have:aX=0:=by simpa using hj
  subst this;rw[c2]at H;cases H;exact⟨_,rfl,rfl⟩
 rintro k u blk hk ⟨M,mR,wK,wL,id,v,Q,dR,JB,gR⟩
 by_cases aw:k<I h
 .have aM:((k:Int)<(I h:Int)):=J;have w1:=cS (n:=k) J;obtain⟨m,zn⟩:=aP aw;have vE:=DG zn;obtain⟨A,X,H,hX,ha⟩:=c5 k m zn;obtain⟨x,hx,yr⟩:=JB k A J H;obtain⟨_,_,pa⟩:=Es (c4 A (a7 H)) ha;have az:aL S 7 [.agg [.p (.int .i64 F),.p (.sl (cX A))],.agg [.p (.int .i64 m.k),.p (.int .i64 m.a),.p (.int .i64 m.b),.p (.int .i64 m.c),.p (.bool m.l),.p (.bool m.o),.p (.int .i64 m.s)]] (mQ F X):=pa;have wm:IntKind.i64.wrap (((k+1:Nat):Int)-1)=(k:Int):=(nj (x:=((k+1:Nat):Int)-1) J J).trans J;have dz:k<k+1:=Rk k;have nv:=uh (cX X);have ar:cs[I v]?=some X:=by rw[dR];exact hX
  rcases gR with⟨e,_⟩|⟨aO,g,e7,E⟩
  .rw[e]at dR;cases dR
  rcases Q with rfl|rfl
  all_goals
   simp only[go_sem,V3,M,e7,mR,wK,wL,aw,aM,fj,vE,dJ.ps,E,dR,dz,hx,yr,wm,nv,LP,oT az (JT kQ)];refine⟨aS,?_⟩;refine re (j:=v) (B:=[[.int .i64 F,.sl (cX X)]]) (.inr ⟨aO,g,by rw[dR],by simp only[bG,Nat.reduceEqDiff,if_false];exact E⟩) (by simp only[hU,bG,if_true];rfl) (.inl rfl) (by rw[dR];simp only[fP,ga];omega) λc2 ao g1 O=>?_;simp only[go_sem,M,mR,wK,wL,w1];exact⟨aw,_,_,.inr rfl,by simp[dR],JB.snoc ar,g1⟩
 have Y:k=I h:=J;subst Y;obtain⟨xL,Gd,ad⟩:=JB (I h) L J c3;have dz:I h<I h+1:=Rk _;have wm:IntKind.i64.wrap (((I h:Nat):Int)-1)=(I h:Int)-1:=nj J J;rcases gR with⟨e,_⟩|⟨aO,g,e7,E⟩
 .rw[e]at dR;cases dR
 have f:¬id=896896320/\ ¬id=897153024/\ ¬id=897153088/\ ¬id=897344128/\ ¬id=897344192:=by rcases Q with rfl|rfl<;>decide
 simp only[go_sem,V3,al7,M,e7,mR,wK,wL,fF,fj,E,dR,dz,Gd,wm];refine dt (λk u blk=>u 1=.one (.p (.sl (cO h)))/\u 7=.one (.hsl id g 2 0 (I h+1))/\u 14=aI ((I h:Int)-1-(k:Int))/\blk id=(g,some (.arr E4 2 v))/\ ∃D N y g3,I D=k/\od F L D=some N/\dk (F:Int) N=0/\(∀A,cs[I h-k]?=some A->gV N=gV A)/\u 13=.one (.bR 896896320 g3 0)/\blk 896896320=(g3,some (.var [.p (.int .i64 F),.p y]))/\y.norm=gC N/\bh 897344192 iG 7 (cO D) (u 12) blk) 0 (I h) (bZ _) ?_ ?_
 .simp only[go_sem,f,E,e7,dR];refine⟨M,aE,[],L,xL,_,rfl,rfl,c4 L (a7 c3),λA H=>?_,rfl,rfl,ad,.inl ⟨rfl,rfl⟩⟩;rw[c3]at H;cases H;rfl
 clear E M e7 mR wK wL;rintro k u blk hk ⟨M,h7,uE,E,D,N,y,g3,BJ,Eb,DL,ab,By,Lw,hy,gu⟩
 by_cases aw:k<I h
 .have ag:((I h:Int)-1-(k:Int))=((I h-1-k:Nat):Int):=J;have w2:IntKind.i64.wrap (((I h-1-k:Nat):Int)-1)=(I h:Int)-1-((k+1:Nat):Int):=(nj J J).trans J;rw[ag]at uE;obtain⟨m,zn⟩:=aP (show I h-1-k<I h by omega);have vE:=DG zn;obtain⟨A,X,H,hX,ha⟩:=c5 _ m zn;have cA:=c4 A (a7 H);have ap:=ab X (by rw[show I h-k=I h-1-k+1 by omega];exact hX);obtain⟨kn,Y,ek,aF,Ze,L1⟩:=am2 ha;obtain⟨m1,Z1,q1,q2,q3⟩:=af2 cA ha DL ap;rw[L1]at q1;obtain⟨z,Z,p1,p2,p3,pb⟩:=aiO dF DL cA Ze q1 q2 q3;have po:=am0 Y;rw[<-ek]at po
  rw[<-L1]at pb;have hZ:=(Es DL p2).1;have av:aL S 28 [.agg [.p (.int .i64 F),.p (.sl (cX N))],.agg [.p (.int .i64 F),.p (.sl (cX A))],aI (H6 m.k)] (.tup [Dq z,.agg [.p (.int .i64 F),.p (om (cX Z))],.one (.p (.int .i64 0))]):=pb;obtain⟨x,hx,yr⟩:=JB _ A J H;have ny:I h-1-k<I h+1:=J;have am:I h-1-k<I h:=J;have mU:(0:Int)<=((I h-1-k:Nat):Int):=J
  generalize aH:I h-1-k=i at*;simp only[go_sem,Wn,M,h7,By,uE,E,Lw,f,fj,vE,dJ.ps,dR,ny,am,hx,yr,hy,mU,VU,pG po,adD,oT av aj9];refine⟨aS (by rcases Q with rfl|rfl<;>kernel_rfl),?_⟩;refine s_ (j:=cO D) (B:=[dJ.ps z]) (rd:=[897344128]) (gu.of_eq (by simp only[bG,Nat.reduceEqDiff,if_false])) (by simp only[hU,bG,if_true];rfl) (.inl rfl) (by rw[oI];simp only[fP,ga];omega) λc de r a0 hc O hr=>?_
  have R:=O 897153088 aa aa;have ac:=O 896896320 aa aa;have T:=O id f.2.2.2.2 f.2.2.2.2;simp only[go_sem,Lw,E,f]at R ac T;simp only[go_sem,M,h7,By,uE,R,ac,T,f,w2];refine⟨by rcases hr with⟨rfl,rfl⟩|⟨rfl,rfl⟩|⟨rfl,rfl⟩<;>kernel_rfl,aw,D++[z],Z,_,g3,by simp[BJ],(ack z Eb).trans p2,hZ,λB hB=>?_,rfl,rfl,uh _,?_⟩
  .rw[show I h-(k+1)=i by omega,H]at hB;cases hB;exact p3
  rw[K7];exact hc.of_eq (ct aa)
 have Y:k=I h:=J;subst Y;have mU:¬(0:Int)<=(I h:Int)-1-((I h:Nat):Int):=J;obtain⟨c',Jj⟩:∃c',u 12=.one c':=by rcases gu with⟨_,e⟩|⟨_,g4,e,_⟩<;>exact⟨_,e⟩
 rw[Jj]at gu;simp only[go_sem,Wn,ak2,M,h7,By,uE,Jj,mU];refine⟨_,⟨D,N,BJ,Eb,?_,DL,rfl⟩,uc gu⟩;exact ab j (by rw[xt];exact c2)
end
end
theorem aB8{n:Int}(m:n<=1000000):aL S 4 [eU f j,aI n] (fv (decide ((I j:Int)<=n)&&(dk f j==0))):=by
 by_cases h:(I j:Int)<=n
 .have pc:=ajj f j J;have H:decide ((I j:Int)<=n)=true:=tV h;rw[H];generalize dk f j=e at*;refine cG c4 ?_;simp only[go_sem,i4,H,h,agf,gr pc,bne,ai,aB];all_goals(first|done|exact aS|exact⟨aS,rfl⟩|rfl)
 have H:decide ((I j:Int)<=n)=false:=vg h;rw[H];refine cG c4 ?_;simp only[go_sem,i4,H,h,bne,ai,aB];all_goals(first|done|exact aS|exact⟨aS,rfl⟩|rfl)
section
variable {F:Nat} {j A:af}
def Vt:cL:=(kinds 10).map λn:Nat=>(n:Int)
theorem avq{ok:dJ->Bool}{j:Int->fM}{f:cL}(h:m∈zc ok j f n):ok m:=by
 unfold zc at h;obtain⟨k,_,h⟩:=pK.1 h;unfold FC at h;split at h
 .exact(r4.1 h).2
 cases h
theorem amd{ok:dJ->Bool}{j:Int->fM}{f:cL}:∀ {n:Nat},(∀k,k<n->I (j ((k+1:Nat):Int))<=200000000)->I (zc ok j f n)<=n*200000000
 |0,_=>by simp[zc]
 |n+1,h=>by rw[Ro,gb];have u:=amd (ok:=ok) (f:=f) λk H=>h k (Nat.lt_succ_of_lt H);have m:=acR (ok:=ok) (n:=f) (h n (Rk n));omega
theorem aAR(D:dk (F:Int) A=0):∃h:fM,(I h<=2000000000/\ ∀m∈h,(gi F A m).isSome)/\aL S 19 [eU F A] (.tup [.one (cU iG 7 (cO h)),.one (.p (.int .i64 0))]):=by
 rcases GV D with rfl|g
 .have B:=ajL D;refine⟨H5 F,⟨by rw[akV];omega,λm v=>?_⟩,aj2 (by rw[afH];exact ans B)⟩;obtain⟨i,u,rfl⟩:=ch.1 v;have u:=gA.1 u;have X:fC F [] 2 0 i 0 false false 0:=C5.2 ⟨0,i,0,.inr ⟨rfl,rfl⟩,Nat.le_of_lt_succ u,bZ _,rfl,rfl,rfl,rfl,rfl,rfl⟩;show(if fC F [] 2 0 (i:Int) 0 false false 0=true then some (nq (i:Int).toNat)else none).isSome=true;rw[aD X];rfl
 obtain⟨f,bd⟩:=acO g g.pos;obtain⟨E,p⟩:=ayN (ok:=okB F A) (h:=f) (n:=Vt) (wv:=.sl (fJ Vt)) (λk x m _=>by
  have j:=aat g m.k m.a m.b m.c m.l m.o m.s;rw[Xb g];rcases Z5 g m with⟨e,z,y,H⟩|⟨M,y,H⟩
  .rw[H]at j;rw[y];exact .inl ⟨e,z,rfl,j⟩
  rw[H]at j;rw[y];exact .inr ⟨M,rfl,j⟩) (λk x=>⟨bd.len k x,bd.pev k x⟩) rfl aa
 exact⟨zc (okB F A) f Vt 10,⟨by have:=amd (ok:=okB F A) (f:=Vt) (n:=10) bd.len;omega,λm v=>by rw[<-Xb g];exact avq v⟩,aj2 (ane (abm g) rfl p)⟩
def Il(m:dJ)(is:Bool):RV:=.tup [.agg (m.ps.map .p),.one (.p (.bool is))]
theorem anl(DU:I h<=2000000000)(pr:aL S 19 [eU f j] (.tup [.one (cU iG 7 (cO h)),.one (.p (.int .i64 0))]))(n:Int):
  ∃m is,(is=true->m∈h)/\aL S 6 [eU f j,aI n] (Il m is):=by
 have lo:S.lone 384064064=false:=ah;have Y:(((0:Nat):Int)==0):=rfl;by_cases Q:h=[]
 .refine⟨⟨0,0,0,0,false,false,0⟩,false,λR=>(by cases R),?_⟩;unfold Il;refine cG c6 ?_;simp only[go_sem,Pg,Rz];refine M0 pr lo (L3 _) rfl λc D v H=>?_;have B:=H 384000000 aa;have u:=H 384000064 aa;simp only[go_sem]at B u;subst Q;rcases v with⟨e,E⟩|⟨x,_⟩
  .cases E;simp only[go_sem,B,u,Y];rfl
  exact absurd rfl x
 have x:(cO h)≠[]:=λe=>Q (N3.1 e);have F:I (cO h)=I h:=oI h;have X:0<I h:=gy.2 Q;have z:((I h:Int)==0)=false:=mM.2 J;by_cases Z:n<0
 .refine⟨⟨0,0,0,0,false,false,0⟩,false,λR=>(by cases R),?_⟩;unfold Il;refine cG c6 ?_;simp only[go_sem,Pg,Rz];refine M0 pr lo (L3 _) rfl λc D v H=>?_;have B:=H 384000000 aa;have u:=H 384000064 aa;simp only[go_sem]at B u;rcases v with⟨e,_⟩|⟨_,N,E,M⟩
  .exact absurd e x
  cases E;rw[F];simp only[go_sem,B,u,M,z,Z];rfl
 by_cases A:((I j:Int)>30)
 .refine⟨⟨0,0,0,0,false,false,0⟩,false,λR=>(by cases R),?_⟩;unfold Il;refine cG c6 ?_;simp only[go_sem,Pg,Rz];refine M0 pr lo (L3 _) rfl λc D v H=>?_;have B:=H 384000000 aa;have u:=H 384000064 aa;simp only[go_sem]at B u;rcases v with⟨e,_⟩|⟨_,N,E,M⟩
  .exact absurd e x
  cases E;rw[F];simp only[go_sem,B,u,M,z,Z,A];rfl
 have L:n.toNat%I h<I h:=cT _ X;obtain⟨m,O⟩:=aP L;have jU:=DG O;have T:n.tmod (I h:Int)=((n.toNat%I h:Nat):Int):=by obtain⟨k,rfl⟩:=ns (show 0<=n by omega);rw[ah9 J,js];rfl
 have y:¬((I h:Int)=0):=J;refine⟨m,true,λ_=>a7 O,?_⟩;unfold Il;refine cG c6 ?_;simp only[go_sem,Pg,Rz];refine M0 pr lo (L3 _) rfl λc D v H=>?_;have B:=H 384000000 aa;have u:=H 384000064 aa;simp only[go_sem]at B u;rcases v with⟨e,_⟩|⟨_,N,E,M⟩
 .exact absurd e x
 cases E;rw[F];simp only[go_sem,B,u,M,z,Z,A,y,T,L,jU,dJ.ps];rfl
end
section
attribute [local go_sem ↓] F9 EX
theorem ag6{blk:aJ}{id g T z s:Nat}{r:RV}{m:V}(H:blk id=(g,some (.arr T z v))\/blk id=(g,some (.sL T z v)))(f:lk blk s r=(m,[])):∃u,fR blk [id] s r=some (m,u)/\(app u blk id=(g,some (.arr T z v))\/app u blk id=(g,some (.sL T z v)))/\ ∀i,i≠id->app u blk i=blk i:=by
 unfold fR;by_cases h:r.alone
 .exact⟨[],by rw[aD (.inr h),f],H,λ_ _=>rfl⟩
 rw[aC (by simp[h]),f];rcases H with H|H
 .exact⟨[(id,(g,some (.sL T z v)))],by simp[tJ,tY,xI,H],.inr (by simp[app,bG]),λi j=>by simp[app,bG,j]⟩
 exact⟨[],by simp[tJ,tY,xI,H],.inr H,λ_ _=>rfl⟩
theorem atS{S:Sys}{al:cF}{Q:iw}{blk:aJ}{os:fV}{d:eT}{p:AT}(h:∀b,b=blk->kE S al p d os Q u b):kE S al p d os Q u blk:=h _ rfl
theorem VJ{blk:aJ}{s:Nat}{r:RV}{v:V}(h:lk blk s r=(v,[])):fR blk [] s r=some (v,[]):=by unfold fR;rw[aD (.inl rfl),h]
section
variable {F:Nat} {j A:af} {h:fM}
theorem afi{r:RV}(h:Oj F A n r){s:Nat}(lo:S.lone s):∃x,x.norm=gC A/\ ∀blk,lk blk s (r.iA (S.lone s))=(.tup [.agg [.p (.int .i64 F),.p x],.one (.p (.int .i64 n)),.one (.p (.int .i64 0))],[]):=by
 rw[lo];rcases h with rfl|⟨rfl,rfl⟩
 .refine⟨om (cX A),uh _,λblk=>?_⟩;unfold cU om;by_cases e:cX A=[]
  .rw[aD e,aD e];rfl
  rw[aC e,aC e];rfl
 exact⟨.sl [],rfl,λblk=>rfl⟩
theorem azH{u:fM}{s:Nat}(lo:S.lone s)(blk:aJ):lk blk s ((RV.tup [.one (cU iG 7 (cO u)),.one (.p (.int .i64 0))]).iA (S.lone s))=(.tup [.one (.p (om (cO u))),.one (.p (.int .i64 0))],[]):=by
 rw[lo];unfold cU om;by_cases e:cO u=[]
 .rw[aD e,aD e];rfl
 rw[aC e,aC e];rfl
theorem aiQ(D:yG)(H:dk (F:Int) j=0)(A:I h<=1000)(u:od F j h=some L):∃r,Oj F L (I h) r/\aL S 13 [eU F j,.one (.p (Gq h))] r:=by
 obtain⟨r,y,p⟩:=as2 D (F:=F) (h:=j) (m:=h) (λL m _ E=>by
  rcases akv E m with u|⟨B,e,x,z⟩
  .exact .inl u
  exact .inr ⟨B,e,x,z⟩) H (by have:=Ds H;omega) A
 rcases y with⟨f,_⟩|⟨ba,n,_,v⟩
 .rw[u]at f;cases f
 rw[u]at n;cases n;exact⟨r,v,p⟩
theorem alU:∀ {h:fM}{j L:af},dk (F:Int) j=0->od F j h=some L->dk (F:Int) L=0:=λH f=>by obtain⟨m,_,_,c3,c4,_⟩:=XF H f;exact c4 _ (a7 c3)
theorem aga(hk:aL S 5 [] (fv true))(dF:yG)(N:dk (F:Int) j=0)(hp:od F j h=some A)(hm:I h<=6){blk:aJ}{g:Nat}(O:u 2=.one (.bR 192000000 1 0))(b2:blk 192000000=(1,some (.var (oi F j))))(e6:u 6=.one (.bR 192256064 g 0))(b6:blk 192256064=(g,some (.var [.p (.int .i64 F),.p y])))(hy:y.norm=gC A)(g5:bh 193088192 iG 7 (cO h) (u 5) blk):W S .all SQ (sW .all i3.results λao blk=>lM blk ao=some (fv true)) u blk:=by
 have hA:=alU N hp;have nQ:=Ds hA;obtain⟨r1,ac,n⟩:=aiQ dF N J hp;obtain⟨x1,pB,wU⟩:=afi ac (s:=193216128) ah;obtain⟨_,⟨f,Z,BJ,Eb,Y,hZ,rfl⟩,Q⟩:=asR dF N hp J;have mz:=azH (u:=f) (s:=193280128) ah;obtain⟨r3,X,m⟩:=aiQ dF hA J Eb;obtain⟨x3,MR,L⟩:=afi X (s:=193472128) ah;have pe:=afS (F:Int) A A J J;have ps:=aik hZ N;rw[tV Y]at ps;have M:I (cO h)=I h:=oI h;have H:I (cO f)=I f:=oI f;have nu:=uh (cO f);have BI:S.shared 5=false:=ah;rcases g5 with⟨Qt,E⟩|⟨aO,g',E,FP⟩
 .have h2:h=[]:=N3.1 Qt;subst h2;have h3:f=[]:=Eh BJ;subst h3;cases hp;cases Eb;have n:aL S 13 [.agg [.p (.int .i64 F),.p (.sl (cX j))],.one (.p (.sl []))] r1:=n;have m:aL S 13 [.agg [.p (.int .i64 F),.p (.sl (cX j))],.one (.p (.sl []))] r3:=m;have Q:aL S 14 [.agg [.p (.int .i64 F),.p (.sl (cX j))],.one (.p (.sl []))] _:=Q;have hq:om ([]:dI)=.nils:=rfl;simp only[go_sem,SQ,O,b2,E,e6,b6,aa5,cE n (VJ (wU _)),ahU,cE Q (VJ (mz _)),pB,hy,hq,aaH,b_ pe,cE m (VJ (L _)),MR,abU,b_ ps,BI,b_ hk,i3]
 have l8:List.take (I h) (cO h)=cO h:=f_ J;obtain⟨u1,k1,x,n1⟩:=ag6 (.inl FP) (wU blk);have D:=(n1 192000000 aa).trans b2;have ad:=(n1 192256064 aa).trans b6;simp only[go_sem,SQ,O,b2,E,FP,M,l8,aa5];refine(cE n k1).2 ?_;generalize app u1 blk=de at*;have Zm:cO f≠[]:=λe=>by rw[e]at H;rw[<-BJ,<-H]at M;exact aO (Eh M)
 have ag:om (cO f)=.sl (cO f):=aC Zm;rcases x with x|x
 all_goals
  simp only[go_sem,O,D,E,x,M,l8,ahU];refine atS λb B=>?_;obtain⟨u2,k2,f2,R⟩:=ag6 (blk:=b) (id:=193088192) (g:=g') (T:=iG) (z:=7) (v:=cO h) (by rw[B];simp only[bG,Nat.reduceEqDiff,if_false];first|exact .inl x|exact .inr x) (mz b);refine(cE Q k2).2 ?_;have T:=(R 192000000 aa).trans (show b _=(1,some (.var (oi F j))) by rw[B];simp only[bG,Nat.reduceEqDiff,if_false];exact D);have am:=(R 192256064 aa).trans (show b _=(g,some (.var [.p (.int .i64 F),.p y])) by rw[B];simp only[bG,Nat.reduceEqDiff,if_false];exact ad)
  have ab:=(R 193216448 aa).trans (show b _=((de 193216448).1+1,some (.var [.p (.int .i64 F),.p x1])) by rw[B];simp only[bG,if_true]);clear f2 R k2 B;generalize app u2 b=bK at*;simp only[go_sem,O,E,e6,T,am,ab,ag,M,H,BJ,nu,pB,hy,aaH,b_ pe,aa5,cE m (VJ (L _)),MR,abU,b_ ps,BI,b_ hk,i3]
end
end
section
attribute [local go_sem ↓] F9 EX
section
variable {F:Nat} {f:Int} {j A:af} {h:fM}
theorem aeK{blk:aJ}{s:Nat}{is:Bool}{l:Bool}:fR blk [] s ((Il m is).iA l)=some (.tup [jL m.k m.a m.b m.c m.l m.o m.s,.one (.p (.bool is))],[]):=by cases l<;>rfl
theorem azB(h:aL S 5 [] (fv true))(ps:aL S 4 [eU f j,aI 20] (fv false)):aL S 3 [eU f j,.one (.p (.sl (fJ B)))] (fv true):=by have m:S.shared 5=false:=ah;refine cG c3 ?_;simp only[go_sem,i3,Cz,b_ ps,m,b_ h,ai,aB]
theorem aBq(h:aL S 5 [] (fv true))(ps:aL S 4 [eU f j,aI 20] (fv true))(hl:6<I B):aL S 3 [eU f j,.one (.p (.sl (fJ B)))] (fv true):=by have m:S.shared 5=false:=ah;have n:((6:Int)<(I B:Int)):=J;have Q:I (fJ B)=I B:=aE;refine cG c3 ?_;simp only[go_sem,i3,Cz,b_ ps,Q,n,gt_iff_lt,m,b_ h,ai,aB]
theorem avo(hk:aL S 5 [] (fv true))(dF:yG)(h0:dk (F:Int) j=0)(ps:aL S 4 [eU F j,aI 20] (fv true))(hl:I B<=6):aL S 3 [eU F j,.one (.p (.sl (fJ B)))] (fv true):=by
 have jW:¬((6:Int)<(I B:Int)):=J;have T:I (fJ B)=I B:=aE;have kQ:S.lone 192512320:=ah;have n9:S.lone 192640128:=ah;have ab:S.lone 192896128:=ah;refine cG c3 ?_;simp only[go_sem,i3,Cz,b_ ps,T,jW,gt_iff_lt];refine dt (λk u blk=>u 1=.one (.p (.sl (fJ B)))/\u 2=.one (.bR 192000000 1 0)/\u 6=.one (.bR 192256064 1 0)/\u 7=aI k/\blk 192000000=(1,some (.var (oi F j)))/\ ∃h A y,I h<=k/\od F j h=some A/\blk 192256064=(1,some (.var [.p (.int .i64 F),.p y]))/\y.norm=gC A/\bh 193088192 iG 7 (cO h) (u 5) blk) 0 (I B) (bZ _) ?_ ?_
 .simp only[go_sem];exact⟨rfl,[],j,gC j,cJ _,rfl,rfl,rfl,.inl ⟨rfl,rfl⟩⟩
 rintro k u blk rV ⟨Y,e2,N,e7,R,h,A,y,zn,Eb,L,hy,g5⟩
 by_cases aw:k<I B
 .have aM:((k:Int)<(I B:Int)):=J;have w1:=cS (n:=k) J;have O:=alU h0 Eb;obtain⟨Re,⟨ad,eE⟩,M⟩:=aAR O;obtain⟨n,hn⟩:=aP aw;have MC:(fJ B)[k]?=some [.int .i64 n]:=by rw[fz,hn];rfl
  obtain⟨m,is,mX,pp⟩:=anl ad M n;have x:aL S 6 [.agg [.p (.int .i64 F),.p (.sl (cX A))],aI n] (Il m is):=pp;cases is with
  |false=>
   simp only[go_sem,Vq,Y,N,e7,R,L,aw,aM,T,MC,hy,alX,oT x aeK];refine⟨aS,?_⟩;refine aga hk dF h0 Eb J (g:=1) (y:=y) ?_ ?_ ?_ ?_ hy ?_;all_goals simp only[go_sem,e2,N,R,L]
   exact g5.of_eq (by simp only[bG,Nat.reduceEqDiff,if_false])
  |true=>
   obtain⟨X,ha⟩:=Me.1 (eE m (mX rfl));obtain⟨H,_,pa⟩:=Es O ha;obtain⟨kn,CC,ek,av,Ze,L1⟩:=am2 ha;obtain⟨m1,Z1,q1,q2,q3⟩:=af2 O ha H rfl;rw[L1]at q1;obtain⟨z,Z,p1,p2,p3,pb⟩:=aiO dF H O Ze q1 q2 q3;have po:=am0 CC;rw[<-ek]at po;rw[<-L1]at pb;have qp:z.k=H6 m.k:=p1.trans L1.symm;obtain⟨hZ,_,pz⟩:=Es H p2;have pi:=aAU pa po pb;have lX:=Ds H;have Q:=Wt F X J;have D:=ajj F X J;rw[H]at Q D;have f:=aik hZ O;rw[tV p3]at f;have nX:=uh (cX X)
   have nZ:=uh (cX Z);have ar:aL S 7 [.agg [.p (.int .i64 F),.p (.sl (cX A))],.agg [.p (.int .i64 m.k),.p (.int .i64 m.a),.p (.int .i64 m.b),.p (.int .i64 m.c),.p (.bool m.l),.p (.bool m.o),.p (.int .i64 m.s)]] (mQ F X):=pa;have ac:aL S 10 [.agg [.p (.int .i64 F),.p (.sl (cX A))],.agg [.p (.int .i64 m.k),.p (.int .i64 m.a),.p (.int .i64 m.b),.p (.int .i64 m.c),.p (.bool m.l),.p (.bool m.o),.p (.int .i64 m.s)]] (.tup [Dq z,.one (.p (.int .i64 0))]):=pi
   have E:aL S 7 [.agg [.p (.int .i64 F),.p (.sl (cX X))],.agg [.p (.int .i64 z.k),.p (.int .i64 z.a),.p (.int .i64 z.b),.p (.int .i64 z.c),.p (.bool z.l),.p (.bool z.o),.p (.int .i64 z.s)]] (mQ F Z):=pz;have am:aL S 8 [.agg [.p (.int .i64 F),.p (.sl (cX X))]] (jr 0):=Q;have ag:aL S 9 [.agg [.p (.int .i64 F),.p (.sl (cX X))]] (jr 0):=D;have ap:aL S 12 [.agg [.p (.int .i64 F),.p (.sl (cX Z))],.agg [.p (.int .i64 F),.p (.sl (cX A))]] (fv true):=f;rw[qp]at E
   simp only[go_sem,Vq,Y,N,e7,R,L,aw,aM,T,MC,hy,alX,oT x aeK,LP,cE ar (JT n9),RG,gr am,agf,gr ag,aqg,cE ac arO,qp,cE E (JT ab),nX,nZ,VU,pG po,abU,fx ap];refine⟨aS,aS,?_⟩;refine re (j:=cO h) (B:=[dJ.ps m]) (g5.of_eq (by simp only[bG,Nat.reduceEqDiff,if_false])) (by simp only[hU,bG,if_true];rfl) (.inl rfl) (by rw[oI];simp only[fP,ga];omega) λc ao g1 hb=>?_;have q0:=hb 192000000 aa aa;have Ik:=hb 192256064 aa aa;have Gu:=hb 192640384 aa aa;simp only[go_sem,R,L]at q0 Ik Gu;simp only[go_sem,Y,e2,N,e7,q0,Ik,Gu,w1];refine⟨aw,h++[m],X,_,by simp;omega,(ack m Eb).trans ha,rfl,uh _,?_⟩;rw[K7];exact g1.of_eq (ct aa)
 have:k=I B:=J;subst this;simp only[go_sem,Vq,Y,e7,fF,T];refine aga hk dF h0 Eb J (g:=1) (y:=y) ?_ R ?_ L hy ?_;all_goals simp only[go_sem,e2,N]
 exact g5
theorem aB4(D:yG)(H:aL S 5 [] (fv true))(f:Int)(j:af)(B:cL):aL S 3 [eU f j,.one (.p (.sl (fJ B)))] (fv true):=by
 have ps:=aB8 (f:=f) (j:=j) (n:=20) aa;cases ae:(decide ((I j:Int)<=20)&&(dk f j==0))with
 |false=>rw[ae]at ps;exact azB H ps
 |true=>
  rw[ae]at ps;rw[cP,iJ,c8]at ae;obtain⟨_,h⟩:=ae;by_cases hl:I B<=6
  .obtain⟨F,rfl⟩:∃F:Nat,f=(F:Int):=by
    by_cases A:j=[]
    .subst A;unfold dk at h;rw[aC aa]at h;by_cases hf:f<0\/40<f
     .rw[aD hf]at h;cases h
     exact ns (show 0<=f by omega)
    obtain⟨F,e,_⟩:=Ci h A;exact⟨F,e⟩
   exact avo H D h ps hl
  exact aBq H ps J
end
end
theorem aAh:yG:=⟨1,ah⟩
end
end Go.Abs
namespace Go.Proofs.YtenindeoffokoaaGreatDoor.fnMoveSteps
open Go.Abs Go.ChangeShapes Go.WideShapes Go.ChangeAt Go.RowKit
theorem ajm {P : Program}{N n : Nat}{t : TypeId}{fs : Array Field}{p : dW} (H : P.underlying t = some (.struct fs)) (h : lz P N (n + 1) t p) :
    ∃j : dI, p = j.flatten ∧ I j = I fs.toList ∧ ∀(i : Nat) (f : Field) (x : dW), fs.toList[i]?= some f → j[i]?= some x → lz P N n f.type x := by
  simp only [lz, H]at h;exact h
theorem ayx {v : dI} (h :∀x ∈ v, ∃l : U, x = l.ps) :∃j : af, v = j.map U.ps := by
  induction v with
  | nil => exact⟨[], rfl⟩
  | cons e v f =>obtain⟨l, rfl⟩ := h e (by simp);obtain⟨j, rfl⟩ := f λx H => h x (by simp [H]);exact⟨l :: j, rfl⟩
theorem awP {N n : Nat}{p : dW} (h : lz S.P N (n + 1 + 1) 61 p) :∃l : U, p = l.ps := by
  obtain⟨f, rfl, hl, hp⟩ := ajm Tryz.underlying61 h;rcases f with _ | ⟨z, _ | ⟨v, _ | ⟨x, _ | ⟨j, _ | ⟨u, _ | ⟨m, _ | ⟨y, r⟩⟩⟩⟩⟩⟩⟩ <;> first
    | (simp at hl; done)
    | skip
  obtain⟨k, rfl, _⟩ := GR Tryz.underlying59 (hp 0 _ _ rfl rfl);obtain⟨g, rfl, _⟩ := GR Tryz.underlying3 (hp 1 _ _ rfl rfl);obtain⟨r, rfl, _⟩ := GR Tryz.underlying3 (hp 2 _ _ rfl rfl);obtain⟨i, rfl, _⟩ := GR Tryz.underlying3 (hp 3 _ _ rfl rfl);obtain⟨s, rfl, _⟩ := GR Tryz.underlying3 (hp 4 _ _ rfl rfl);obtain⟨o, rfl⟩ := arl Tryz.underlying4 (hp 5 _ _ rfl rfl);exact⟨⟨k, g, r, i, s, o⟩, rfl⟩
theorem aBB {N n : Nat}{p : dW} (h : lz S.P N (n + 1 + 1 + 1 + 1) 24 p) :∃(k : Int) (j : af), p = [.int .i64 k,.sl (j.map U.ps)] := by
  obtain⟨f, rfl, hl, hp⟩ := ajm Tryz.underlying24 h;rcases f with _ | ⟨z, _ | ⟨u, _ | ⟨y, r⟩⟩⟩ <;> first
    | (simp at hl; done)
    | skip
  obtain⟨k, rfl, _⟩ := GR Tryz.underlying3 (hp 0 _ _ rfl rfl);obtain⟨v, rfl, _, m⟩ := ad6 Tryz.underlying22 (hp 1 _ _ rfl rfl);obtain⟨j, rfl⟩ := ayx λx H => awP (m x H);exact⟨k, j, rfl⟩
theorem auf {N n : Nat}{p : dW} (h : lz S.P N (n + 1 + 1) 25 p) :∃l : cL, p = [.sl (l.map λi => [.int .i64 i])] := by
  obtain⟨v, rfl, H, f⟩ := ad6 Tryz.underlying25 h;clear h H
  suffices ∃l : cL, v = l.map λi => [.int .i64 i] by obtain⟨l, rfl⟩ := this; exact⟨l, rfl⟩
  induction v with
  | nil => exact⟨[], rfl⟩
  | cons e v m =>obtain⟨z, rfl, _⟩ := GR Tryz.underlying3 (f e (by simp));obtain⟨l, rfl⟩ := m λx j => f x (by simp [j]);exact⟨z :: l, rfl⟩
theorem ao7 (j : dI) (h : Rw S.P maxLen 4 Tryz.f3.params.toList j) : aL S 3 (Dt S.P Tryz.f3.params.toList j) (.one (.p (.bool true))) := by
  have hp : Tryz.f3.params.toList = [24, 25] := by rw [Tryz.params3]
  rw [hp]at h |-;rcases j with _ | ⟨A, _ | ⟨v, _ | ⟨x, z⟩⟩⟩
  · exact h.elim
  · exact h.2.elim
  · obtain⟨F, L, rfl⟩ := aBB (n := 0) h.1
    obtain⟨m, rfl⟩ := auf (n := 2) h.2.1;have u :∀(f : Int) (a : af), Dc S.P 24 [.int .i64 f,.sl (a.map U.ps)] = eU f a := λf a => aAM (P := S.P) Tryz.underlying24;have E :∀l : cL, Dc S.P 25 [.sl (l.map λi => [.int .i64 i])] =.one (.p (.sl (l.map λi => [.int .i64 i]))) := λl => aqr (P := S.P) Tryz.underlying25 (λfs h => by cases h);simp only [Dt, u, E];exact aB4 aAh asH F L m
  · exact h.2.2.elim
theorem aw5 : Tryz.prog.globalNamed Wi = some 0 := by kernel_rfl
theorem awF : (Tryz.prog.globals[0]?).map (·.type) = some 210 := by kernel_rfl
theorem arp : Tryz.prog.cellsOf 210 = 20 := by kernel_rfl
theorem awQ : Tryz.prog.cellsOf 180 = 1 := by kernel_rfl
theorem table {W : World} (h : laidMetH Tryz.prog Rows.moveStepsRow.laid W) : G W := by
  have f : laidMet Tryz.prog Rows.moveStepsRow.laid W := h;have H := f.tail.tail;have e : (Rows.laid_internal_strconv_uint64pow10 : DataW Unit) = Lib.tabData .u64 Lib.pow10Tab := by kernel_rfl
  rw [e]at H;exact Lib.tabIs_of_head (rest := []) aw5 awF Tryz.underlying210 Tryz.underlying180 awQ arp H
end Go.Proofs.YtenindeoffokoaaGreatDoor.fnMoveSteps
namespace Go.Proofs.YtenindeoffokoaaGreatDoor.fnMoveSteps
open Go.Abs Go.ChangeShapes Go.WideShapes Go.ChangeAt Go.RowKit
theorem own : ownKnob Tryz.prog.godebug = none := by kernel_rfl
theorem ayi (H : Type) (E : TypeId×Value → H) (W : World) (base : Nat) (A : Array Value) (D L : List (DataW H)) (B : List MemPlace)
    (m :∀(j : Nat) t v, Tryz.f3.params[j]?= some t → A[j]?= some v → Value.okWide Tryz.prog W .any base t v)
    (x : DataW.Whole E Tryz.prog Tryz.f3.params.toList Rows.moveStepsSpec.vars false W A.toList D L B) (F : laidMetH Tryz.prog Rows.moveStepsRow.laid W) :
    Calls Tryz.prog 3 A W λe M =>∃v, e =.returned v ∧ Rows.moveStepsSpec.post E Tryz.prog Tryz.f3 false true false false W A v M := by
  have u :∀t ∈ Tryz.f3.params.toList, lO S.P 4 t = true := by
    rw [Tryz.params3];intro t y;have e : t = 24 ∨ t = 25 := by simpa using y
    have z : lO S.P 4 24 = true := by kernel_rfl
    have k1 : lO S.P 4 25 = true := by kernel_rfl
    rcases e with e | e
    · exact e ▸ z
    · exact e ▸ k1
  have f :∀d ∈ D, u6 maxLen d := by obtain⟨p, q, N, _⟩ := x;exact(amT u N).1
  exact asp S_ok (λw h => aqw h) (fn := Tryz.f3) (s := Rows.moveStepsSpec) rfl
    (λH D n => by
      rw [Tryz.params3]at n
      match D, n with
      | [O, Q], _ => rfl) (Z := 4) (by kernel_rfl) Tryz.underlying4 u ao7 m x (table F) f

noncomputable def arA (d : DataW Unit) : Array Value :=
  match d with
  | .agg l => (l.map fun
    | .lit (.int k z) => Value.int k z
    | _ => undef).toArray
  | _ => #[]
noncomputable def acA (d : DataW Unit) : Obj → Obj
  | .cells _ t frozen =>.cells (arA d) t frozen
  | o => o
noncomputable def ab0 (os : Os) : World :={ World.holding Tryz.prog os ⟨#[], #[], []⟩with heap := (((World.holding Tryz.prog os ⟨#[], #[], []⟩).heap.modify 2 (acA Rows.laid_math_bits_deBruijn32tab)).modify 3 (acA Rows.laid_math_bits_deBruijn64tab)).modify 0 (acA Rows.laid_internal_strconv_uint64pow10) }
theorem aBu (os : Os) : laidMet Tryz.prog Rows.moveStepsRow.laid ((ab0 os).forCall (λ_ _ => 0) ⟨#[], #[Value.agg #[.int .i64 0,.slice none 0 0],.slice none 0 0], []⟩).memory :=laidMet_of_run' 8 (by kernel_rfl) (by kernel_rfl)
theorem apD (os : Os) {H : Type} (E : TypeId×Value → H) :∃places, DataW.whole E Tryz.prog ((ab0 os).forCall (λ_ _ => 0) ⟨#[], #[Value.agg #[.int .i64 0,.slice none 0 0],.slice none 0 0], []⟩).memory Tryz.f3.params.toList Rows.moveStepsSpec.vars false #[Value.agg #[.int .i64 0,.slice none 0 0],.slice none 0 0].toList 8 = some ([.agg [.lit (.int .i64 0),.nil],.nil], [], places) :=
  ⟨[], by kernel_rfl⟩

theorem axx (os : Os) (f : os.Started) (H : Type) (E : TypeId×Value → H) (F : Stop.Interp) :
    ReturnsInHanded {} Tryz.checked os 3 .any ((OpenSpec.ofChange Rows.moveStepsSpec).preRow E Tryz.prog Tryz.f3 Rows.moveStepsRow.domain false Rows.moveStepsRow.laid) (((OpenSpec.ofChange Rows.moveStepsSpec).at F).post E Tryz.prog Tryz.f3 false true false false) := by
  obtain⟨places, j⟩ := apD os E;refine returnsInHanded_of_row (C := Tryz.checked) (s := (OpenSpec.ofChange Rows.moveStepsSpec)) own f (by kernel_rfl) Tryz.func3
    (witness_row_at (enc := E) (C := Tryz.checked) false (ab0 os) #[Value.agg #[.int .i64 0,.slice none 0 0],.slice none 0 0] rfl (by kernel_rfl) (by kernel_rfl) (by kernel_rfl)
      (OpenSpec.preRow_of_cond 8 j (by kernel_rfl) (λk n => by cases n) (by kernel_rfl) (aBu os))) ?_
  intro W base A D u B h m _ _ _ v _ _;exact ayi H E W base A D u B h m v
end Go.Proofs.YtenindeoffokoaaGreatDoor.fnMoveSteps
namespace Go.Proofs.YtenindeoffokoaaGreatDoor.fnMoveSteps
open Go.Abs Go.ChangeShapes Go.WideShapes Go.ChangeAt Go.RowKit
theorem arT : Rows.MoveStepsSaid :=
  OpenClaim.holds_of_cond 3 Tryz.f3 rfl rfl rfl rfl rfl rfl rfl ⟨rfl, rfl, rfl, rfl, rfl⟩ rfl rfl rfl rfl rfl (by kernel_rfl) Tryz.func3 closed
    (of_decide_eq_true (by kernel_rfl)) (by unfold Func.isWrapper; first | (rw [if_pos (by decide +kernel)]; kernel_rfl) | (rw [if_neg (by decide +kernel)]; exact⟨rfl, rfl⟩))
    (λos f H E _ F => by rw [OpenClaim.pre_eq_preRow]; exact axx os f H E F)

theorem atJ (f : FuncId) (fn : Func) (hf : Tryz.pinned.checked.prog.funcNamed Rows.moveStepsRow.func = some f) (hfn : Tryz.pinned.checked.prog.funcs[f]?= some fn) :
    false = Tryz.pinned.checked.prog.looks [] ∧ ∀(j : Nat) t, fn.params[j]?= some t → Tryz.pinned.checked.prog.wantsStandIn t = false := by
  obtain rfl : f = 3 := Option.some.inj ((show Tryz.prog.funcNamed Rows.moveStepsRow.func = some 3 by kernel_rfl).symm.trans hf) |>.symm
  obtain rfl : fn = Tryz.f3 := (Option.some.inj (Tryz.func3.symm.trans hfn)).symm;refine⟨by kernel_rfl, ?_⟩
  · intro j t h
    rw [Tryz.params3]at h;have e : t = 24 ∨ t = 25 := by simpa using Array.mem_of_getElem? h
    have m : Tryz.prog.wantsStandIn 24 = false := by kernel_rfl
    have k1 : Tryz.prog.wantsStandIn 25 = false := by kernel_rfl
    rcases e with e | e
    · exact e ▸ m
    · exact e ▸ k1

theorem atw : Rows.moveStepsRow.wfByText (OpenSpec.ofChange Rows.moveStepsSpec) = true := by kernel_rfl
theorem axM : Tryz.pinned.checked.prog.mainIs = some ((true, "df743518983ddcc13985401e11abd997815f89b144807294dcba15a621e62b97").1, (true, "df743518983ddcc13985401e11abd997815f89b144807294dcba15a621e62b97").2.toList) := by kernel_rfl
theorem card : Rows.MoveStepsCardSaid :=Claim7.holds_tied_plain_at .later [] _ _ _ _ arT (λ_ h => by cases h) atw (λ_ h => by cases h) moveSteps_row_tie rfl ⟨rfl, rfl⟩ axM rfl atJ goes
end Go.Proofs.YtenindeoffokoaaGreatDoor.fnMoveSteps
