/-
  MoveForgets: for every code and any two numbers the call returns true and the arguments read as they did. It holds for every input that the row speaks of; the tables that the row lists hold what the text lays.
-/
import Derived.Test.YtgjjncbeombnbaaGreatDoorWs
import Derived.Test.YtgjjncbeombnbaaGreatDoorTie
import Derived.Deep.DeepHandedRow
import Derived.Deep.DeepLaidRun
import Derived.Stop.LaidErr
import Derived.Test.YtgjjncbeombnbaaGreatDoorSb
import Derived.Test.YtgjjncbeombnbaaGreatDoorTa
import Derived.Test.YtgjjncbeombnbaaGreatDoorFa
import Derived.Test.YtgjjncbeombnbaaGreatDoorGa
set_option linter.all false
open List renaming length->I
set_option maxRecDepth 100000
set_option maxHeartbeats 16000000
namespace Go.Abs
variable{j M L X:af}{x:U}{n y z:Nat}{m:dG}{f h:Int}{u:fO}{v:dh}
section
variable{F:Nat}
theorem agD{l:aU}{a b:Nat}(z:a<I l)(u:b<I l)(D:a≠b):∃r1 R,I r1=(b+I l-a)%I l/\l.drop (a+1)++l.take (a+1)=r1++R/\ ∀x y,dp (x++r1++y++R) (if a<b then ft (ft l y b) x a else ft (ft l x a) y b):=by
 have f:∀ {a b:Nat},a<b->b<I l->∃A B a7,l=A++B++a7/\A≠[]/\B≠[]/\I A=a+1/\I B=b-a:=λ{a b} D u=>by
  have n:I (l.take (a+1))=a+1:=by rw[jw];omega
  have v:I ((l.drop (a+1)).take (b-a))=b-a:=by rw[jw,pS];omega
  refine⟨l.take (a+1),(l.drop (a+1)).take (b-a),l.drop (b+1),?_,?_,?_,n,v⟩
  .have F:l.drop (b+1)=(l.drop (a+1)).drop (b-a):=by rw[MV];congr 1;omega
   rw[F,kr,jC,jC]
  .intro h;rw[h]at n;have:I ([]:aU)=0:=rfl;omega
  intro h;rw[h]at v;have:I ([]:aU)=0:=rfl;omega
 have fin:∀ {A B a7:aU},A≠[]->B≠[]->∀p q,ft (ft (A++B++a7) q (I (A++B)-1)) p (I A-1)=A++p++B++q++a7:=λ{A B a7} H j p q=>by rw[GC (A++B) a7 q (by simp[H]),show A++B++q++a7=A++(B++q++a7) by simp,GC A _ p H];simp
 rcases Hs D with h|h
 .obtain⟨A,B,a7,e,H,j,E,m⟩:=f h u;have hl:I l=a+1+(b-a)+I a7:=by rw[e,fU,fU,E,m]
  refine⟨B,a7++A,?_,?_,λx y=>?_⟩
  .rw[m,show b+I l-a=(b-a)+I l by omega,mT,eN J]
  .rw[<-E,e,kr,PH,Hf,kr]
  rw[an h,e,show a=I A-1 by omega,show b=I (A++B)-1 by rw[fU];omega,fin H j];exact⟨x++B++y++a7,A,aH,aH⟩
 obtain⟨A,B,a7,e,H,j,E,m⟩:=f h z;have hl:I l=b+1+(a-b)+I a7:=by rw[e,fU,fU,E,m]
 refine⟨a7++A,B,?_,?_,λx y=>?_⟩
 .rw[fU,E,eN J];omega
 .rw[show a+1=I (A++B) by rw[fU];omega,e,PH,Hf,kr]
 rw[ai J,e,show b=I A-1 by omega,show a=I (A++B)-1 by rw[fU];omega,fin H j];exact⟨x++a7,A++y++B,aH,aH⟩
section
variable {F:Nat} {L M:af} {P Q:aU} {r:Bool} {s t:Nat->Nat}
theorem atS(g:a_ F L){a b:Nat}(A:a<I L)(z:b<I L){l o:Bool}(h:tj F L a b l o=some P):∃(j f:Bool) (sg:Int),l=(j==f)/\sg=(if(o==j)=true then(1:Int)else -1)/\dD L (if(j==f)=true then 2*a else 2*a+1)=dD L (if j=true then 2*b else 2*b+1)/\P=if a<b then ft (ft (aA L) (l8 (au U.aq L/2) sg o f) b) (ow (au U.aq L/2) sg o) a else ft (ft (aA L) (ow (au U.aq L/2) sg o) a) (l8 (au U.aq L/2) sg o f) b:=by
 have E:∀x y:Nat,((x:Int)==(y:Int))->x=y:=λx y h=>by have:=eq_of_beq h;omega
 have m:∀f other:Bool,(f->dD L (if l=true then 2*a else 2*a+1)=dD L (if l=true then 2*b else 2*b+1))->(other->dD L (if l=true then 2*a else 2*a+1)=dD L (if l=true then 2*b+1 else 2*b))->sA L a b l o f other=some P->∃(j f:Bool) (sg:Int),l=(j==f)/\sg=(if(o==j)=true then(1:Int)else -1)/\dD L (if(j==f)=true then 2*a else 2*a+1)=dD L (if j=true then 2*b else 2*b+1)/\P=if a<b then ft (ft (aA L) (l8 (au U.aq L/2) sg o f) b) (ow (au U.aq L/2) sg o) a else ft (ft (aA L) (ow (au U.aq L/2) sg o) a) (l8 (au U.aq L/2) sg o f) b:=λf other n H h=>by
  unfold sA at h;split at h
  .cases h
  rename_i v;refine⟨(f==l),f,_,by cases f<;>cases l<;>rfl,rfl,?_,(ld h).symm⟩;cases f with
  |true=>have:=n rfl;cases l<;>exact this
  |false=>
   have u:other:=by
    cases other
    .exact absurd rfl v
    rfl
   have:=H u;cases l<;>exact this
 unfold tj at h;cases l
 .rw[ai aa,rW g J,rW g J,rW g J]at h;exact m _ _ (λn=>(E _ _ n).symm) (λH=>(E _ _ H).symm) h
 rw[an rfl,rW g J,rW g J,rW g J]at h;exact m _ _ (λn=>(E _ _ n).symm) (λH=>(E _ _ H).symm) h
theorem cM.anp(i:cM F L M r s t){a b:Nat}(n:a<I L)(m:b<I L)(D:a≠b):(c_ (I L) r s b+I L-c_ (I L) r s a)%I L=if r=true then I L-(b+I L-a)%I L else(b+I L-a)%I L:=by
 have x:0<I L:=J;have A:(b+I L-a)%I L<I L:=cJ _ x;have B:(b+I L-a)%I L≠0:=λe=>by
  rcases Hs D with h|h
  .rw[show b+I L-a=(b-a)+I L by omega,mT,eN J]at e;omega
  rw[eN J]at e;omega
 have ae:(a+(b+I L-a)%I L)%I L=b:=by rw[F7,show a+(b+I L-a)=b+I L by omega,mT,eN m]
 have v:=i.AP n;rcases i.ends n with⟨j,E,_⟩|⟨j,E,_⟩
 .have Q:c_ (I L) r s b=s b:=by
   rcases i.ends m with⟨_,u,_⟩|⟨f,_⟩
   .exact u
   rw[j]at f;cases f
  have H:=i.Tg n (k:=(b+I L-a)%I L) J;rw[ae]at H;rw[Q,E];rw[E]at v;generalize(b+I L-a)%I L=k at*;simp only[j,gJ,if_false]at H |-;rw[H,An (a:=s a+k) J,An (by split<;>omega)];split<;>split<;>omega
 have Q:c_ (I L) r s b=s (nx L b):=by
  rcases i.ends m with⟨f,_⟩|⟨_,u,_⟩
  .rw[j]at f;cases f
  exact u
 have y:nx L a<I L:=cJ _ x;have H:=i.Tg y (k:=(b+I L-a)%I L) J;have z:(nx L a+(b+I L-a)%I L)%I L=nx L b:=by show((a+1)%I L+_)%I L=(b+1)%I L;rw[vT,show a+1+(b+I L-a)%I L=(a+(b+I L-a)%I L)+1 by omega,<-vT,ae]
 rw[z]at H;rw[Q,E];rw[E]at v;generalize(b+I L-a)%I L=k at*;simp only[j,if_true]at H |-;rw[H,An (a:=s (nx L a)+I L-k) J,An (by split<;>omega)];split<;>split<;>omega
theorem cM.k7(i:cM F L M r s t){a b:Nat}(E:a<I L)(O:b<I L)(dm:a≠b){l o:Bool}(h:tj F L a b l o=some P)(vX:dM (F:Int) (cL P)=0):∃(a' b':Nat) (l' o':Bool) (Q:aU),a'<I M/\b'<I M/\a'≠b'/\tj F M a' b' l' o'=some Q/\jo (cL Q) (cL P):=by
 have f_:=WN i.g E O dm h;obtain⟨Y,mY,zJ,_,_,rM⟩:=i.SZ;obtain⟨j,f,sg,hl,KG,zO,hP⟩:=atS i.g E O h;have B:c_ (I L) r s a<I M:=by rw[i.len];exact i.AP E
 have D:c_ (I L) r s b<I M:=by rw[i.len];exact i.AP O
 have aN:c_ (I L) r s a≠c_ (I L) r s b:=λe=>dm (by rw[<-i.QQ E,<-i.QQ O,e]);have lh:=i.ahd (by unfold nD;split<;>omega) (by unfold nD;split<;>omega) zO;have d1:=i.dmE E (!(j==f));have d2:=i.dmE O (!j);have z1:∀(c:Bool) (u v:Nat),(if(!c)=true then v else u)=if c=true then u else v:=λc u v=>by cases c<;>rfl
 rw[z1]at d1 d2;rw[d1,d2]at lh;have z2:∀(c:Bool) (u v:Nat),(if((!c)!=r)=true then v else u)=if(c !=r)=true then u else v:=λc u v=>by cases c<;>cases r<;>rfl
 rw[z2,z2,show((j==f)!=r)=((j !=r)==f) by cases j<;>cases f<;>cases r<;>rfl]at lh;have hQ:=awy i.g' B D (o:=o) (sg:=if(o==(j !=r))=true then(1:Int)else -1) rfl lh;refine⟨_,_,_,o,_,B,D,aN,hQ,?_⟩;have cQ:=WN i.g' B D aN hQ;obtain⟨r1,r2,k1,k2,aj⟩:=agD (l:=aA L) (a:=a) (b:=b) (by rw[cZ];exact E) (by rw[cZ];exact O) dm;obtain⟨w1,w2,q1,R,afk⟩:=agD (l:=aA M) (a:=c_ (I L) r s a) (b:=c_ (I L) r s b) (by rw[cZ];exact B) (by rw[cZ];exact D) aN;rw[i.abw rM E,k2]at R;rw[cZ]at k1
 rw[cZ,i.len,i.anp E O dm,<-k1]at q1;have am:I r1+I r2=I L:=by rw[<-fU,<-k2,<- (Ct (aA L) (a+1)).len,cZ]
 have tP:=aj (ow (au U.aq L/2) sg o) (l8 (au U.aq L/2) sg o f);have T:=afk (ow (au U.aq M/2) (if(o==(j !=r))=true then(1:Int)else -1) o) (l8 (au U.aq M/2) (if(o==(j !=r))=true then(1:Int)else -1) o f);rw[<-hP]at tP;rw[i.BO]at T cQ |-;have ad:(if(o==(j !=r))=true then(1:Int)else -1)=if r=true then -sg else sg:=by rw[KG];cases o<;>cases j<;>cases r<;>rfl
 rw[ad]at T cQ |-;have ab:∀p∈r1++r2,p∈aA L:=λp hp=>by rw[<-k2]at hp;exact(Ct (aA L) (a+1)).perm.mem_iff.2 hp
 generalize hK:au U.aq L/2=aY at*;generalize(if c_ (I L) r s a<c_ (I L) r s b then ft (ft (aA M) (l8 aY (if r=true then -sg else sg) o f) (c_ (I L) r s b)) (ow aY (if r=true then -sg else sg) o) (c_ (I L) r s a)else ft (ft (aA M) (ow aY (if r=true then -sg else sg) o) (c_ (I L) r s a)) (l8 aY (if r=true then -sg else sg) o f) (c_ (I L) r s b))=Q at*
 let H:Int->Int:=λid=>if id=((aY+1:Nat):Int)then(if r=true then((aY+2:Nat):Int)else((aY+1:Nat):Int))else if id=((aY+2:Nat):Int)then(if r=true then((aY+1:Nat):Int)else((aY+2:Nat):Int))else Y id
 have n:H ((aY+1:Nat):Int)=if r=true then((aY+2:Nat):Int)else((aY+1:Nat):Int):=an rfl;have N:H ((aY+2:Nat):Int)=if r=true then((aY+1:Nat):Int)else((aY+2:Nat):Int):=by show(if _ then _ else if _ then _ else _)=_;rw[ai J,an rfl]
 have Nx:∀p∈aA L,p.l.aq->H p.l.id=Y p.l.id/\H p.l.id<=(aY:Int):=λp hp hc=>by
  have h1:=(RJ i.g hp hc).2;have h3:=(zJ p.l (ru hp) hc).2;rw[hK]at h1;have:H p.l.id=Y p.l.id:=by show(if _ then _ else if _ then _ else _)=_;rw[ai J,ai J]
  exact⟨this,by rw[this];exact h3⟩
 have Ny:∀p∈aA L,cO H p=cO Y p:=λp hp=>aih λhc=>(Nx p hp hc).1;have ac:∀w:aU,(∀p∈w,p∈aA L)->w.map (cO H)=w.map (cO Y):=λw hw=>kD λp hp=>Ny p (hw p hp);have Z:∀w:aU,(∀p∈w,p∈aA L)->(ep w).map (cO H)=(ep w).map (cO Y):=λw hw=>kD λp hp=>by unfold ep at hp;obtain⟨q,hq,rfl⟩:=cD.1 hp;rw[<-QY,<-QY,Ny q (hw q (yW.1 hq))]
 have m1:∀p∈r1,p∈aA L:=λp hp=>ab p (iR.2 (.inl hp));have m2:∀p∈r2,p∈aA L:=λp hp=>ab p (iR.2 (.inr hp));have vF:∀(m:Int),∀p∈ow aY m o,p.l.aq/\p.d=false/\(p.l.id=((aY+1:Nat):Int)\/p.l.id=((aY+2:Nat):Int)):=λm p hp=>by
  simp only[dt,gH,or_false]at hp;rcases hp with rfl|rfl
  .exact⟨rfl,rfl,.inl rfl⟩
  exact⟨rfl,rfl,.inr rfl⟩
 have vS:∀p∈l8 aY sg o f,p.l.aq/\p.d=false/\(p.l.id=((aY+1:Nat):Int)\/p.l.id=((aY+2:Nat):Int)):=λp hp=>by
  cases ag:f<;>rw[ag]at hp<;>simp only[l8,if_true,gJ,if_false,dt,gH,or_false]at hp<;>rcases hp with rfl|rfl
  .exact⟨rfl,rfl,.inl rfl⟩
  .exact⟨rfl,rfl,.inr rfl⟩
  .exact⟨rfl,rfl,.inr rfl⟩
  exact⟨rfl,rfl,.inl rfl⟩
 have yl:∀p∈P,(p.l.aq/\p.d=false/\(p.l.id=((aY+1:Nat):Int)\/p.l.id=((aY+2:Nat):Int)))\/p∈aA L:=λp hp=>by
  have:=tP.perm.mem_iff.2 hp;rcases iR.1 this with h|h
  .rcases iR.1 h with h|h
   .rcases iR.1 h with h|h
    .exact .inl (vF _ p h)
    exact .inr (m1 p h)
   exact .inl (vS p h)
  exact .inr (m2 p h)
 have A:∀k m ov,cO H (nR aY k m ov)=⟨⟨2,0,0,H ((aY+k:Nat):Int),m,ov⟩,false⟩:=λk m ov=>rfl;have X:∀k m ov,gL (nR aY k m ov)=nR aY k m ov:=λk m ov=>rfl;have ak:∀x y:aK,ep [x,y]=[gL y,gL x]:=λx y=>rfl;refine Ay.jo ⟨r,H,?_,?_⟩ f_ cQ vX λp hp dA=>?_
 .intro x hx y hy kx ky e;obtain⟨p,hp,rfl⟩:=cD.1 hx;obtain⟨q,hq,rfl⟩:=cD.1 hy;have cp:p.l.aq:=by unfold U.aq;rw[kx];rfl
  have cq:q.l.aq:=by unfold U.aq;rw[ky];rfl
  have new:∀z:Int,(z=((aY+1:Nat):Int)\/z=((aY+2:Nat):Int))->(aY:Int)<H z:=λz hz=>by
   rcases hz with rfl|rfl
   .rw[n];split<;>omega
   rw[N];split<;>omega
  rcases yl p hp with⟨_,_,e1⟩|eo<;>rcases yl q hq with⟨_,_,e2⟩|mw
  .rcases e1 with e1|e1<;>rcases e2 with e2|e2<;>rw[e1,e2]at e |-
   .rw[n,N]at e;exfalso;cases r<;>simp at e<;>omega
   rw[n,N]at e;exfalso;cases r<;>simp at e<;>omega
  .exfalso;have:=new _ e1;have:=(Nx q mw cq).2;omega
  .exfalso;have:=new _ e2;have:=(Nx p eo cp).2;omega
  rw[(Nx p eo cp).1,(Nx q mw cq).1]at e;exact mY _ (ru eo) _ (ru mw) kx ky e
 .cases r with
  |false=>
   simp only[gJ,if_false]at T q1 R n N |-;rw[fE]at R;obtain⟨u1,u2⟩:=List.append_inj R.symm (by rw[bG,q1]);rw[u1,u2,<-ac _ m1,<-ac _ m2]at T;refine dp.trans (tP.map (cO H)).symm ?_;rw[fE,fE,fE];have f1:(ow aY sg o).map (cO H)=ow aY sg o:=by show [cO H _,cO H _]=_;rw[A,A,n,N]
   have f2:(l8 aY sg o f).map (cO H)=l8 aY sg o f:=by
    cases f
    .show [cO H _,cO H _]=_;rw[A,A,n,N];rfl
    show [cO H _,cO H _]=_;rw[A,A,n,N];rfl
   rw[f1,f2];exact T
  |true=>
   simp only[if_true]at T q1 R n N |-;rw[Mh,fE]at R;obtain⟨u1,u2⟩:=List.append_inj R.symm (by rw[bG,Gc,q1];omega);rw[u1,u2,<-Z _ m1,<-Z _ m2]at T;refine dp.trans (tP.ep.map (cO H)).symm (dp.trans ?_ T);rw[Mh,Mh,Mh,fE,fE,fE];have f1:(ep (ow aY sg o)).map (cO H)=ow aY (-sg) o:=by show [cO H (gL _),cO H (gL _)]=[nR aY 1 (-sg) o,nR aY 2 (- -sg) o];rw[X,X,A,A,n,N,Int.neg_neg]
   have f2:(ep (l8 aY sg o f)).map (cO H)=l8 aY (-sg) o f:=by
    cases f
    .show [cO H (gL _),cO H (gL _)]=[_,_];rw[X,X,A,A,n,N,Int.neg_neg]
    show [cO H (gL _),cO H (gL _)]=[_,_];rw[X,X,A,A,n,N,Int.neg_neg]
   rw[f1,f2];exact⟨(ep r2).map (cO H)++l8 aY (-sg) o f++(ep r1).map (cO H),ow aY (-sg) o,aH,aH⟩
 rcases yl p hp with⟨_,hd,_⟩|eo
 .exact hd
 exact Bp eo dA
end
theorem arU:((List.range 41).all λF=>(List.range (F+1)).all λq=>dM (F:Int) (pD q)==0):=ah
theorem ax5{g:Nat}(f:F<=40)(H:g<=F):dM (F:Int) (pD g)=0:=by have h:=mB.1 arU F (fA.2 J);have h:=mB.1 h g (fA.2 J);exact cW.1 h
theorem ae2(h:dM (F:Int) []=0):F<=40:=by
 unfold dM at h;rw[ai aa]at h;by_cases hf:(F:Int)<0\/40<(F:Int)
 .rw[an hf]at h;cases h
 omega
theorem akG(h:dM (F:Int) j=0)(m:dG):
  (∃L,iP F j m=some L/\dM (F:Int) L=0/\I L<=I j+4/\aI S 7 [fc F j,DK m] (mz F L))\/(iP F j m=none/\ ∃e,e≠0/\aI S 7 [fc F j,DK m] (oI e)):=by
 by_cases A:j=[]
 .subst A;have z:=ae2 h;have f:=axh (F:=F) z m.k m.a m.b m.c m.l m.o m.s;unfold Nn at f;unfold iP;rw[an rfl];by_cases n:eZ F [] m.k m.a m.b m.c m.l m.o m.s
  .rw[an n]at f |-;obtain⟨O,_,_,e,N,_⟩:=V8 n;exact .inl ⟨_,rfl,ax5 z J,aH,f⟩
  rw[ai n]at f |-;exact .inr ⟨rfl,2,aa,f⟩
 obtain⟨G,e,g⟩:=E4 h A;have:F=G:=J;subst this;have f:=azS g m.k m.a m.b m.c m.l m.o m.s;unfold iP;rw[ai A];rcases Z3 g m.k m.a m.b m.c m.l m.o m.s with⟨e,y,H⟩|⟨M,H,B,x,L,v,rfl⟩
 .rw[H]at f;refine .inr ⟨?_,e,y,f⟩;unfold qG at H;by_cases n:eZ F j m.k m.a m.b m.c m.l m.o m.s
  .rw[an n]at H |-;cases D:mg F j m.k m.a.toNat m.b.toNat m.c.toNat m.l m.o m.s with
   |none=>rfl
   |some M=>
    rw[D]at H;dsimp only;by_cases u:(400:Int)<(I j:Int)+(gK m.k).1\/(100:Int)<((au U.aq j/2:Nat):Int)+(gK m.k).2
    .rw[an u]
    have E:sH F j m.k (some M)=mz F (cL M):=ai u;rw[E]at H;exact absurd H (ahi y)
  rw[ai n]
 rw[H]at f;refine .inl ⟨cL L,?_,B,?_,f⟩
 .rw[an x,v];dsimp only;unfold qG at H;rw[an x,v]at H;by_cases u:(400:Int)<(I j:Int)+(gK m.k).1\/(100:Int)<((au U.aq j/2:Nat):Int)+(gK m.k).2
  .have E:sH F j m.k (some L)=oI 7:=an u;rw[E]at H;exact absurd H.symm (ahi aa)
  rw[ai u]
 have:=Z9 v;rw[acr];omega
theorem L1{blk:aG}{s:Nat}(lo:S.lone s):fR blk [] s ((mz F M).ib (S.lone s))=some (.tup [.agg [.p (.int .i64 F),.p (ti (dQ M))],.one (.p (.int .i64 0))],[]):=by
 rw[lo];unfold mz cP ti;by_cases h:dQ M=[]
 .rw[an h,an h];rfl
 rw[ai h,ai h];rfl
theorem aaM{blk:aG}{s:Nat}{x y:PV}{l:Bool}:fR blk [] s ((RV.agg [.p x,.p y]).ib l)=some (.agg [.p x,.p y],[]):=by cases l<;>rfl
theorem EZ(h:dM (F:Int) L=0):L=[]\/a_ F L:=by
 by_cases A:L=[]
 .exact .inl A
 obtain⟨G,e,g⟩:=E4 h A;have:F=G:=J;subst this;exact .inr g
theorem P7(h:dM (F:Int) L=0):I L<=400:=by
 rcases EZ h with rfl|g
 .exact bN _
 exact g.len
theorem ag5(h:dM (F:Int) j=0):aI S 28 [fc F j] (.agg [.p (.int .i64 F),.p (ti (dQ (lM j)))]):=by
 have n:=P7 h;have f:=azP (F:=F) (f:=j) J;have m:Bn j=lM j:=by
  rcases EZ h with rfl|g
  .rfl
  exact atQ g
 rwa[m]at f
theorem ahD(j:af):I (lM j)<=I j:=by
 unfold lM;cases h:Pk j with
 |none=>exact bN _
 |some z=>have:=TJ (adp h);show I z<=_;omega
theorem agJ{Y:af}(h:dM (F:Int) X=0)(H:dM (F:Int) Y=0):aI S 12 [fc F X,fc F Y] (eh (decide (lM X=lM Y))):=by have j:=ag5 h;have m:=ag5 H;have x:=ahD X;have u:=ahD Y;have y:=P7 h;have v:=P7 H;have f:=amy (F:Int) (lM X) (lM Y) J J;have n:=AQ (dQ (lM X));have N:=AQ (dQ (lM Y));have f:aI S 27 [.agg [.p (.int .i64 F),.p (.sl (dQ (lM X)))],.agg [.p (.int .i64 F),.p (.sl (dQ (lM Y)))]] (eh (decide (lM X=lM Y))):=f;generalize decide (lM X=lM Y)=r at*;refine bR Is ?_;simp only[go_sem,aaS,alG,pX j aaM,pX m aaM,n,N,am8,ss f];first|done|exact aS|exact⟨aS,rfl⟩|trace_state
section
variable {F:Nat} {A X N Y Z:af} {m:dG}
theorem acX(h:dM (F:Int) A=0)(f:iP F A m=some X):dM (F:Int) X=0/\I X<=I A+4/\aI S 7 [fc F A,DK m] (mz F X):=by
 rcases akG h m with⟨L,H,j,u,n⟩|⟨H,_⟩
 .rw[f]at H;cases H;exact⟨j,u,n⟩
 rw[f]at H;cases H
end
section
variable {F:Nat} {j:af} {f:Nat}
def tu(f n:Nat)(L:af)(k:Nat):af:=(L.take k).map (dI f n)++L.drop k
theorem asQ(f n:Nat)(L:af){k:Nat}(h:k<=I L):I (tu f n L k)=I L:=by unfold tu;rw[fU,bG,jw,pS];omega
theorem Vc{k:Nat}(h:L[k]?=some x):(tu f n L k)[k]?=some x:=by have hl:=(bd.1 h).1;unfold tu;rw[o_ (by rw[bG,jw];omega),bG,jw,C0,v7 J,xf,uX,h]
theorem alK{k:Nat}(h:L[k]?=some x):(tu f n L k).set k (dI f n x)=tu f n L (k+1):=by
 obtain⟨hl,e⟩:=bd.1 h;have j:L.drop k=x::L.drop (k+1):=by rw[<-e,uA]
 have H:I ((L.take k).map (dI f n))=k:=by rw[bG,jw];omega
 have m:L.take (k+1)=L.take k++[x]:=by rw[<-e,List.take_append_getElem]
 unfold tu;rw[m,fE,j,Mi _ _ J,H,xf,SY,kr];rfl
theorem aa7{k:Nat}(h:L[k]?=some x):L.set k x=L:=by obtain⟨H,e⟩:=bd.1 h;rw[<-e,Se]
theorem aq7(g:a_ F j)(hf:1<=f)(hF:f<=F):aI S 8 [fc F j,aE f] (mz (F-1) (cG f j)):=by
 have hl:=g.len;have A9:=g.fing;have pr:=KV F j J;rw[Gj g.chk,ai g.ne,js]at pr;have z0:((0:Int)!=0)=false:=rfl;have h1:¬((f:Int)<1):=J;have h2:¬((f:Int)>(F:Int)):=J;have jI:¬((F:Int)<(f:Int)):=J;have hn:aJ j (f-1)<=I j:=tH _ _;have wY:=Ey (h:=j) (F:=F) (G:=f-1) J;have Ki:=iY wY;have w0:=Af (a:=f) hf J;have wF:=Af (a:=F) J J;refine bR IJ ?_;simp only[go_sem,Tf,J3,dJ pr jg,z0,h1,h2,aiz];refine nQ (azO g.ne J) ah (.inl rfl) λcc lO gc iw=>?_;have m:=iw 512000000 aa;have B:=iw 512000064 aa;rcases gc with⟨e,_⟩|⟨_,Z,e,hC⟩
 .exact absurd (by simpa using e) g.ne
 cases e;rw[bG];simp only[go_sem]at m B;simp only[go_sem];refine df (λk A blk=>A 1=aE f/\A 2=.one (.bh 512000000 1 0)/\A 4=.one (.bh 512000064 1 0)/\A 6=.one (.p (sR F j))/\A 8=.one (.hsl 512384320 Z 6 0 (I j))/\A 35=.one (.hsl 512384320 Z 6 0 (I j))/\A 36=aE (I j)/\A 37=aE k/\blk 512000000=(1,some (.var (lR F j)))/\blk 512000064=(1,some (.var [.p (.int .i64 0),.p .nils]))/\
  blk 512384320=(Z,some (.arr p_ 6 (dQ (tu f (aJ j (f-1)) j k))))) 0 (I j) (bN _) ?_ ?_
 .simp only[go_sem,m,B];first|exact hC|exact⟨rfl,hC⟩|exact⟨rfl,rfl,hC⟩
 rintro k A blk hk ⟨e1,z,Q,Y,D,E,M,R,m,B,u⟩
 by_cases y:k<I j
 .have X:((k:Int)<(I j:Int)):=J;obtain⟨x,O⟩:=aM y;have Wv:k<I (tu f (aJ j (f-1)) j k):=by rw[asQ _ _ _ hk];exact y
  have v:=jh (Vc (f:=f) (n:=aJ j (f-1)) O);have h:=alK (f:=f) (n:=aJ j (f-1)) O;have T:=cE (n:=k) J;cases L:(x.kind==1)with
  |false=>
   have N:(x.kind !=1):=by rw[bne,L];rfl
   have e0:(tu f (aJ j (f-1)) j k).set k x=tu f (aJ j (f-1)) j k:=aa7 (Vc O);rw[EO L,e0]at h;rw[h]at u v Wv;simp only[go_sem,F9,e1,z,Q,Y,D,E,M,R,m,B,u,y,X,v,U.ps,N,T];first|done|trace_state
  |true=>
   have N:(x.kind !=1)=false:=by rw[bne,L];rfl
   obtain⟨g0,g1,r0,r1⟩:=g.ok.ax.eO x (aX O) L;by_cases hg:x.gate<(f:Int)
   .have e0:(tu f (aJ j (f-1)) j k).set k x=tu f (aJ j (f-1)) j k:=aa7 (Vc O);rw[am5 hg,e0]at h;rw[h]at u v Wv;simp only[go_sem,F9,e1,z,Q,Y,D,E,M,R,m,B,u,y,X,v,U.ps,N,hg,T];first|done|trace_state
   have ac:aJ j x.gate.toNat<=I j:=tH _ _;have w2:IntKind.i64.wrap (x.gate-1)=x.gate-1:=oL J J;have HC:dI f (aJ j (f-1)) x=⟨x.kind,x.gate-1,if x.gate=(f:Int)then x.ao+(aJ j (f-1):Int)else x.ao,x.id,x.sign,x.over⟩:=an ⟨L,J⟩;rw[HC]at h;by_cases H:x.gate=(f:Int)
   .have w3:IntKind.i64.wrap (x.ao+(aJ j (f-1):Int))=x.ao+(aJ j (f-1):Int):=oL J J;rw[an H,H]at h;rw[H]at w2;have D0:¬((f:Int)<(f:Int)):=J;have vU:∀e,((dQ (tu f (aJ j (f-1)) j k)).set k e)[k]?=some e:=λe=>TR (by rw[bG];exact Wv);simp only[go_sem,F9,e1,z,Q,Y,D,E,M,R,m,B,u,y,X,v,U.ps,N,D0,H,vU,Ki,w0,T,w3];refine⟨aS,?_⟩;rw[Qs,show((f-1:Nat):Int)=(f:Int)-1 by omega,<-h,<-adU];rfl
   have B6:(x.gate==(f:Int))=false:=mE.2 H;rw[ai H]at h;simp only[go_sem,F9,e1,z,Q,Y,D,E,M,R,m,B,u,y,X,v,U.ps,N,hg,B6,T,w2];rw[<-h,<-adU];rfl
 have:k=I j:=J;subst this;have ab:tu f (aJ j (f-1)) j (I j)=cG f j:=by unfold tu;rw[jz,KT,i_]
 rw[ab]at u;simp only[go_sem,F9,Vn,z,Q,D,M,R,m,B,ff,wF];exact Mz (s1:=512384320) (.inr ⟨λe=>g.ne (by simpa using e),Z,by rw[bG,bG],by simp only[ba,Nat.reduceEqDiff,if_false];exact u⟩)
end
section
attribute [local go_sem ↓] Gr E8
theorem alX(h:iP F L m=some X):∃k:Nat,k<10/\m.k=((k+1:Nat):Int)/\ ∃j:Nat,j<10/\asX m.k=((j+1:Nat):Int):=by
 have H:eZ F L m.k m.a m.b m.c m.l m.o m.s:=by
  unfold iP at h;by_cases f:L=[]
  .subst f;rw[an rfl]at h;split at h
   .assumption
   cases h
  rw[ai f]at h;split at h
  .assumption
  cases h
 have u:m.k=1\/m.k=2\/m.k=3\/m.k=4\/m.k=5\/m.k=6\/m.k=7\/m.k=8\/m.k=9\/m.k=10:=by refine Decidable.byContradiction λn=>?_;unfold eZ at H;rw[ai J,ai J,ai J,ai J,ai J,ai J]at H;cases H
 rcases u with e|e|e|e|e|e|e|e|e|e<;>rw[e]
 .exact⟨0,J,rfl,1,J,rfl⟩
 .exact⟨1,J,rfl,0,J,rfl⟩
 .exact⟨2,J,rfl,2,J,rfl⟩
 .exact⟨3,J,rfl,4,J,rfl⟩
 .exact⟨4,J,rfl,3,J,rfl⟩
 .exact⟨5,J,rfl,6,J,rfl⟩
 .exact⟨6,J,rfl,5,J,rfl⟩
 .exact⟨7,J,rfl,7,J,rfl⟩
 .exact⟨8,J,rfl,9,J,rfl⟩
 exact⟨9,J,rfl,8,J,rfl⟩
end
theorem anx{n:Int}(m:n<=1000000):aI S 4 [fc f j,aE n] (eh (decide ((I j:Int)<=n)&&(dM f j==0))):=by
 by_cases h:(I j:Int)<=n
 .have pc:=azX f j J;have H:decide ((I j:Int)<=n)=true:=xq h;rw[H];generalize dM f j=e at*;refine bR c4 ?_;simp only[go_sem,i4,h,avX,hI pc];all_goals(first|done|exact aS|exact⟨aS,rfl⟩|rfl)
 have H:decide ((I j:Int)<=n)=false:=zc h;rw[H];refine bR c4 ?_;simp only[go_sem,i4,h];all_goals(first|done|exact aS|exact⟨aS,rfl⟩|rfl)
section
variable {F:Nat} {j A:af}
def SE:bQ:=(kinds 10).map λn:Nat=>(n:Int)
theorem acZ{ok:dG->Bool}{j:Int->fO}{f:bQ}(h:m∈vL ok j f n):ok m:=by
 unfold vL at h;obtain⟨k,_,h⟩:=sY.1 h;unfold Bz at h;split at h
 .exact(pg.1 h).2
 cases h
theorem VS{ok:dG->Bool}{j:Int->fO}{f:bQ}:∀ {n:Nat},(∀k,k<n->I (j ((k+1:Nat):Int))<=200000000)->I (vL ok j f n)<=n*200000000
 |0,_=>by simp[vL]
 |n+1,h=>by rw[PN,fU];have u:=VS (ok:=ok) (f:=f) λk H=>h k (Nat.lt_succ_of_lt H);have m:=aeK (ok:=ok) (n:=f) (h n (Nat.lt_succ_self n));omega
theorem avl(h:dM (F:Int) A=0):∃u:fO,(I u<=2000000000/\ ∀m∈u,(iP F A m).isSome)/\aI S 18 [fc F A] (.tup [.one (cP im 7 (cY u)),.one (.p (.int .i64 0))]):=by
 rcases EZ h with rfl|g
 .have E:=ae2 h;refine⟨F5 F,⟨by rw[acA];omega,λm x=>?_⟩,adG (by rw[ael];exact anN E)⟩;obtain⟨i,v,rfl⟩:=cD.1 x;have v:=fA.1 v;have B:eZ F [] 2 0 i 0 false false 0:=Fh.2 ⟨0,i,0,.inr ⟨rfl,rfl⟩,Nat.le_of_lt_succ v,bN _,rfl,rfl,rfl,rfl,rfl,rfl⟩;show(if eZ F [] 2 0 (i:Int) 0 false false 0=true then some (pD (i:Int).toNat)else none).isSome=true;rw[an B];rfl
 obtain⟨f,a7⟩:=ahX g g.pos;obtain⟨L,p⟩:=ahT (ok:=okB F A) (h:=f) (n:=SE) (v:=.sl (dR SE)) (λk y m _=>by
  have j:=Y2 g m.k m.a m.b m.c m.l m.o m.s;rw[VZ g];rcases YL g m with⟨e,D,z,H⟩|⟨M,z,H⟩
  .rw[H]at j;rw[z];exact .inl ⟨e,D,rfl,j⟩
  rw[H]at j;rw[z];exact .inr ⟨M,rfl,j⟩) (λk y=>⟨a7.len k y,a7.pev k y⟩) rfl aa
 exact⟨vL (okB F A) f SE 10,⟨by have:=VS (ok:=okB F A) (f:=SE) (n:=10) a7.len;omega,λm x=>by rw[<-VZ g];exact acZ x⟩,adG (afp (X5 g) rfl p)⟩
def HY(m:dG)(is:Bool):RV:=.tup [.agg (m.ps.map .p),.one (.p (.bool is))]
theorem awK(Ef:I u<=2000000000)(pr:aI S 18 [fc f j] (.tup [.one (cP im 7 (cY u)),.one (.p (.int .i64 0))]))(n:Int):
  ∃m is,(is=true->m∈u)/\aI S 6 [fc f j,aE n] (HY m is):=by
 have lo:S.lone 384064064=false:=ah;have z0:(((0:Nat):Int)==0):=rfl;by_cases D:u=[]
 .refine⟨⟨0,0,0,0,false,false,0⟩,false,λh=>(by cases h),?_⟩;unfold HY;refine bR c6 ?_;simp only[go_sem,MQ,Qf];refine JN pr lo (NA _) rfl λc F x H=>?_;have v:=H 384000000 aa;have B:=H 384000064 aa;simp only[go_sem]at v B;subst D;rcases x with⟨e,E⟩|⟨y,_⟩
  .cases E;simp only[go_sem,B,z0];rfl
  exact absurd rfl y
 have y:(cY u)≠[]:=λe=>D (List.map_eq_nil_iff.1 e);have M:I (cY u)=I u:=sV u;have Z:0<I u:=gA.2 D;have Q:((I u:Int)==0)=false:=mE.2 J;by_cases L:n<0
 .refine⟨⟨0,0,0,0,false,false,0⟩,false,λh=>(by cases h),?_⟩;unfold HY;refine bR c6 ?_;simp only[go_sem,MQ,Qf];refine JN pr lo (NA _) rfl λc F x H=>?_;have v:=H 384000000 aa;have B:=H 384000064 aa;simp only[go_sem]at v B;rcases x with⟨e,_⟩|⟨_,O,E,N⟩
  .exact absurd e y
  cases E;rw[M];simp only[go_sem,B,Q,L];rfl
 by_cases A:((I j:Int)>30)
 .refine⟨⟨0,0,0,0,false,false,0⟩,false,λh=>(by cases h),?_⟩;unfold HY;refine bR c6 ?_;simp only[go_sem,MQ,Qf];refine JN pr lo (NA _) rfl λc F x H=>?_;have v:=H 384000000 aa;have B:=H 384000064 aa;simp only[go_sem]at v B;rcases x with⟨e,_⟩|⟨_,O,E,N⟩
  .exact absurd e y
  cases E;rw[M];simp only[go_sem,v,B,Q,L,A];rfl
 have T:n.toNat%I u<I u:=cJ _ Z;obtain⟨m,R⟩:=aM T;have X:=IY R;have Y:n.tmod (I u:Int)=((n.toNat%I u:Nat):Int):=by obtain⟨k,rfl⟩:=lB (show 0<=n by omega);rw[QO J,js];rfl
 have z:¬((I u:Int)=0):=J;refine⟨m,true,λ_=>aX R,?_⟩;unfold HY;refine bR c6 ?_;simp only[go_sem,MQ,Qf];refine JN pr lo (NA _) rfl λc F x H=>?_;have v:=H 384000000 aa;have B:=H 384000064 aa;simp only[go_sem]at v B;rcases x with⟨e,_⟩|⟨_,O,E,N⟩
 .exact absurd e y
 cases E;rw[M];simp only[go_sem,v,B,N,Q,L,A,z,Y,T,X,dG.ps];rfl
end
section
variable {F:Nat} {X Y Z:af}
theorem atB(h:dM (F:Int) X=0):∃f:Int->fO,∀k:Nat,k<10->JP F X ((k+1:Nat):Int) (f ((k+1:Nat):Int)):=by
 refine⟨λq=>if n:q.toNat-1<10 then Classical.choose (ZA h n)else [],λk u=>?_⟩;have m:∀j,(H:j<10)->j=k->JP F X ((k+1:Nat):Int) (Classical.choose (ZA h H)):=λj H e=>by subst e;exact Classical.choose_spec (ZA h H)
 have H:((k+1:Nat):Int).toNat-1<10:=J;show JP F X _ (if n:_ then _ else _);rw[dif_pos H];exact m _ H J
theorem aj0(h:dM (F:Int) X=0){k:Nat}(B:k<10){y:PV}(D:y.norm=.sl (dR [((k+1:Nat):Int)])):∃u:fO,(I u<=2000000000/\(∀m∈u,(iP F X m).isSome)/\ ∀m,m.k=((k+1:Nat):Int)->(iP F X m).isSome->m∈u)/\aI S 24 [fc F X,.one (.p y)] (.tup [.one (cP im 7 (cY u)),.one (.p (.int .i64 0))]):=by
 obtain⟨f,aY⟩:=atB h;obtain⟨L,p⟩:=ahT (f:=X) (ok:=λm=>(iP F X m).isSome) (h:=f) (n:=[((k+1:Nat):Int)]) (v:=.sl (dR [((k+1:Nat):Int)])) (λA v m H=>by
  rcases(aY A v).dos m H with⟨e,E,z,x⟩|⟨M,z,x⟩
  .exact .inl ⟨e,E,by rw[z];rfl,x⟩
  exact .inr ⟨M,by rw[z];rfl,x⟩) (λA v=>⟨(aY A v).len,(aY A v).cnd⟩) rfl (show 1<=1000000 by decide)
 refine⟨vL (λm=>(iP F X m).isSome) f [((k+1:Nat):Int)] 10,⟨?_,λm H=>acZ H,λm e H=>?_⟩,afp (aY 0 aa).opn D p⟩
 .have:=VS (ok:=λm=>(iP F X m).isSome) (f:=[((k+1:Nat):Int)]) (n:=10) λA v=>(aY A v).len;omega
 refine sY.2 ⟨k,fA.2 B,?_⟩;unfold Bz;rw[an aH];exact pg.2 ⟨(aY k B).all m e H,H⟩
theorem asa{j:Nat}{m:dG}(A:∀m∈u,(iP F X m).isSome)(H:u[j]?=some m):∃M,iP F X m=some M/\I8 F X Y m=decide (lM M=lM Y):=by obtain⟨M,h⟩:=K6.1 (A m (aX H));exact⟨M,h,ai5 h⟩
theorem auK{blk:aG}{id g s:Nat}{r:RV}{m:V}(f:blk id=(g,some (.arr y z v)))(H:kV blk s r=(m,[])):∃u,fR blk [id] s r=some (m,u)/\ ∀i,i≠id->app u blk i=blk i:=by
 unfold fR;by_cases h:r.alone
 .exact⟨[],by rw[an (.inr h),H],λ_ _=>rfl⟩
 rw[ai (by simp[h]),H];exact⟨[(id,(g,some (.sE y z v)))],by simp[sT,tL,xy,f],λi j=>by simp[app,ba,j]⟩
theorem akM{S:Sys}{al:bU}{Q:gX}{A:bj}{blk:aG}{os:fm}{d:dZ}{p:zr}(h:∀b,b=blk->jD S al p d os Q A b):jD S al p d os Q A blk:=h _ rfl
theorem alg{u:fO}{s:Nat}(lo:S.lone s)(blk:aG):kV blk s ((RV.tup [.one (cP im 7 (cY u)),.one (.p (.int .i64 0))]).ib (S.lone s))=(.tup [.one (.p (ti (cY u))),.one (.p (.int .i64 0))],[]):=by
 rw[lo];unfold cP ti;by_cases e:cY u=[]
 .rw[an e,an e];rfl
 rw[ai e,ai e];rfl
theorem aeW(hX:dM (F:Int) X=0)(hY:dM (F:Int) Y=0){k:Nat}(hk:k<10)(e1:m.k=((k+1:Nat):Int))(e2:iP F X m=some Z)(e3:lM Z=lM Y):aI S 10 [fc F X,aE ((k+1:Nat):Int),fc F Y] (eh true):=by
 obtain⟨u,⟨iN,aD,iS⟩,ps⟩:=aj0 hX hk (y:=.sl (dR [((k+1:Nat):Int)])) rfl;have ia:=iS m e1 (by rw[e2];rfl);have ht:I8 F X Y m:=by rw[ai5 e2,e3];simp
 cases hf:u.find? (I8 F X Y)with
 |none=>exact absurd ht (CR.1 hf m ia)
 |some m0=>
  obtain⟨j0,HJ,ab,R⟩:=ajd hf;have ac:=(bd.1 HJ).1;have nU:S.lone 640064192:=ah;have qt:S.lone 640320320:=ah;have h:I (cY u)=I u:=sV u;have aN:cY u≠[]:=λe=>by rw[e]at h;simp at h;omega
  have sQ:ti (cY u)=.sl (cY u):=ai aN;have ps:aI S 24 [.agg [.p (.int .i64 F),.p (.sl (dQ X))],.one (.p (.sl [[.int .i64 ((k+1:Nat):Int)]]))] _:=ps;refine bR axz ?_;simp only[go_sem,ajI,aat];refine akM λb B=>?_
  obtain⟨ag,k1,T⟩:=auK (blk:=b) (id:=640064128) (g:=1) (y:=27) (z:=1) (v:=[[.int .i64 ((k+1:Nat):Int)]]) (by rw[B];simp only[ba,Nat.reduceEqDiff,if_false,if_true];first|done|rfl) (alg (u:=u) (s:=640064192) nU b);refine(dJ ps k1).2 ?_;have b0:app ag b 640000000=(1,some (.var (lR F X))):=(T _ aa).trans (by rw[B];simp only[ba,Nat.reduceEqDiff,if_false,if_true]);have b1:app ag b 640000064=(1,some (.var (lR F Y))):=(T _ aa).trans (by rw[B];simp only[ba,Nat.reduceEqDiff,if_false,if_true]);clear T k1;generalize app ag b=cK at*
  simp only[go_sem,sQ];refine df (λj A blk=>j<=j0/\A 3=.one (.bh 640000000 1 0)/\A 5=.one (.bh 640000064 1 0)/\A 7=.one (.p (.sl (cY u)))/\A 8=aE 0/\A 9=aE j/\blk 640000000=(1,some (.var (lR F X)))/\blk 640000064=(1,some (.var (lR F Y)))) 0 (I u) (bN _) ?_ ?_
  .simp only[go_sem,b0,b1];first|done|rfl|exact⟨bN _,rfl⟩|trace_state
  rintro j A blk hj ⟨ad,E,e5,e7,e8,e9,b3,b5⟩
  have O:j<I u:=J;have aL:((j:Int)<(I u:Int)):=J;have w1:=cE (n:=j) J;obtain⟨f,H⟩:=aM O;have Ee:=IY H;obtain⟨M,hM,Q⟩:=asa (Y:=Y) aD H;obtain⟨N,_,pa⟩:=acX hX hM;have x:=agJ N hY;rw[<-Q]at x;have Db:=AQ (dQ M);have Pb:aI S 7 [.agg [.p (.int .i64 F),.p (.sl (dQ X))],.agg [.p (.int .i64 f.k),.p (.int .i64 f.a),.p (.int .i64 f.b),.p (.int .i64 f.c),.p (.bool f.l),.p (.bool f.o),.p (.int .i64 f.s)]] (mz F M):=pa;have L:aI S 12 [.agg [.p (.int .i64 F),.p (.sl (dQ M))],.agg [.p (.int .i64 F),.p (.sl (dQ Y))]] (eh (I8 F X Y f)):=x;by_cases D:j=j0
  .subst D;rw[HJ]at H;cases H;rw[ab]at L;simp only[go_sem,WU,E,e5,e7,e8,e9,b3,b5,aL,h,Ee,dG.ps,Ob,pX Pb (L1 qt),Db,YV,eU L];first|done|rfl|exact aS|trace_state
  rw[R j f J H]at L;simp only[go_sem,WU,E,e5,e7,e8,e9,b3,b5,O,aL,h,Ee,dG.ps,Ob,pX Pb (L1 qt),Db,YV,eU L,w1];first|exact⟨aS,J⟩|exact⟨O,J⟩|omega|trace_state
end
section
theorem aeG(w:bQ):((dR w).all λe=>e.all PV.scalar):=by simp[PV.scalar]
theorem acF(h:dM (F:Int) j=0)(x:F<=40)(hl:I j<=1000000):aI S 11 [fc F j] (.one (.own D3 1 (dR (oi F (lJ j))))):=by obtain⟨g1,f⟩:=aua h;have pw:=amN h hl;have n:=ar9 x g1 f;have N:S.lone 704064064=false:=ah;have Q:S.lone 704128192=false:=ah;refine bR avf ?_;simp only[go_sem,afS,arX];refine JN pw N (aeG _) rfl λc y m H=>?_;have B:=H 704000000 aa;simp only[go_sem]at B;obtain⟨rd,v,T⟩:=m.iC;simp only[go_sem,B,v,apc];refine amo n Q (aeG _) rfl λA f u z=>?_;simp only[go_sem];simp[lr,tq,oN,nE,l7,u,n9,vt,sX];exact fL aH
theorem avB{k:Int}(H:1<=k)(j:k<=10):aI S 9 [aE k] (eh (decide (k<9))):=by
 have f:aI S 23 [aE k] (eh true):=by have A:k≥1:=H;refine bR azA ?_;simp only[go_sem,acJ,A,j]
 refine bR ayE ?_;by_cases h:k<9
 .simp only[go_sem,i9,afC,eU f,h]
 simp only[go_sem,i9,afC,eU f,h]
attribute [local go_sem ↓] Gr E8
section
variable {F:Nat} {j X:af} {f:Nat}
def aiU(F:Nat)(M:af)(r:RV):Prop:=r=mz F M\/(M=[]/\r=.tup [.agg [.p (.int .i64 F),.p (.sl [])],.one (.p (.int .i64 0))])
theorem ac2{r:RV}(h:aiU F M r){s:Nat}(lo:S.lone s):∃x,x.norm=od M/\ ∀blk,fR blk [] s (r.ib (S.lone s))=some (.tup [.agg [.p (.int .i64 F),.p x],.one (.p (.int .i64 0))],[]):=by
 rcases h with rfl|⟨rfl,rfl⟩
 .exact⟨_,AQ (dQ M),λblk=>L1 lo⟩
 exact⟨.sl [],rfl,λblk=>by rw[lo];rfl⟩
theorem aug(D:Kp)(hf:1<=f)(u:f<=F)(h:F<=40):aI S 8 [fc F [],aE f] (.tup [.agg [.p (.int .i64 (F-1:Nat)),.p (.sl [])],.one (.p (.int .i64 0))]):=by
 have j:dM (F:Int) []=0:=by unfold dM;rw[ai aa,ai J,an rfl]
 have pr:=KV F [] aa;rw[Gj j,an rfl]at pr;have pr:aI S 21 [.agg [.p (.int .i64 F),.p (.sl [])]] _:=pr;have H:¬((f:Int)<1):=J;have m:¬((F:Int)<(f:Int)):=J;have n:=Af (a:=F) J J;have D:aI S 22 [.one (.p (.sl []))] (.one (.p (.sl []))):=D;refine bR IJ ?_;simp only[go_sem,Tf,J3,dJ pr jg,H,m,aiz,dJ D apm];refine mP ?_;simp only[go_sem,F9,Vn,(by decide:¬((0:Int)<((0:Nat):Int))),n];first|done|rfl|exact aS|trace_state
theorem ad7(D:Kp)(h:dM (F:Int) j=0)(hf:1<=f)(H:f<=F):∃r,aiU (F-1) (cG f j) r/\aI S 8 [fc F j,aE f] r:=by
 rcases EZ h with rfl|g
 .refine⟨_,.inr ⟨rfl,rfl⟩,aug D hf H ?_⟩;unfold dM at h;rw[ai aa]at h;by_cases m:(F:Int)<0\/40<(F:Int)
  .rw[an m]at h;cases h
  omega
 exact⟨_,.inl rfl,aq7 g hf H⟩
theorem ahp(h:dM (F:Int) j=0)(hf:1<=f)(m:f<=F):dM ((F-1:Nat):Int) (cG f j)=0:=by
 rcases EZ h with rfl|g
 .show dM ((F-1:Nat):Int) []=0;unfold dM at h |-;rw[ai aa]at h |-;by_cases H:(F:Int)<0\/40<(F:Int)
  .rw[an H]at h;cases h
  rw[ai (show¬(((F-1:Nat):Int)<0\/40<((F-1:Nat):Int)) by omega)];rfl
 exact(M_ g hf m).1
theorem ahN(hf:1<=f)(Y:f<=F){m:dG}(h:iP F [] m=some X):∃M,M.k=m.k/\iP (F-1) (cG f []) M=some (cG f X):=by
 obtain⟨k,a,b,c,l,o,sg⟩:=m;have H:=Zw (F:=F) (m:=⟨k,a,b,c,l,o,sg⟩) (by rw[h];rfl);simp only at H;have u:k=2:=by refine Decidable.byContradiction λu=>?_;unfold eZ nk at H;rw[ai u]at H;split at H<;>(try split at H)<;>(try split at H)<;>(try split at H)<;>(try split at H)<;>simp at H<;>omega
 subst u;obtain⟨D,B,A,R,O,T,rfl,rfl,rfl,rfl,rfl,rfl⟩:=Fh.1 H;have z:X=pD B:=by have v:(if eZ F [] 2 D B A false false 0=true then some (pD (B:Int).toNat)else none)=some X:=h;rw[an H]at v;exact(ld v).symm
 refine⟨⟨2,0,(if f<=B then B-1 else B:Nat),0,false,false,0⟩,rfl,?_⟩;have j:eZ (F-1) [] 2 0 ((if f<=B then B-1 else B:Nat):Int) 0 false false 0=true:=Fh.2 ⟨0,_,0,.inr ⟨rfl,rfl⟩,by split<;>omega,bN _,rfl,rfl,rfl,rfl,rfl,rfl⟩;show(if eZ (F-1) [] 2 0 ((if f<=B then B-1 else B:Nat):Int) 0 false false 0=true then some (pD ((if f<=B then B-1 else B:Nat):Int).toNat)else none)=some (cG f X);rw[an j,z,js];congr 1
 have one:∀r:Int,dI f (aJ (pD B) (f-1)) ⟨1,(B:Int),r,0,0,false⟩=⟨1,((if f<=B then B-1 else B:Nat):Int),r,0,0,false⟩:=λr=>by
  obtain⟨L,E,Q,y⟩:=g_ (f:=f) (n:=aJ (pD B) (f-1)) ⟨1,(B:Int),r,0,0,false⟩;refine IQ L ?_ ?_ E Q y
  .rw[qF rfl];show(if(f:Int)<=(B:Int)then(B:Int)-1 else(B:Int))=_;by_cases x:f<=B
   .rw[an (show(f:Int)<=(B:Int) by omega),an x];show(B:Int)-1=((B-1:Nat):Int);omega
   rw[ai (show¬(f:Int)<=(B:Int) by omega),ai x]
  rw[uw rfl];show(if(B:Int)=(f:Int)then r+_ else r)=r;split
  .rename_i e;have N:aJ (pD B) (f-1)=0:=by
    have:ir (f-1) ⟨1,(B:Int),1,0,0,false⟩=false/\ir (f-1) ⟨1,(B:Int),2,0,0,false⟩=false:=by unfold ir;have:((B:Int)==((f-1:Nat):Int))=false:=mE.2 J;rw[this];exact⟨rfl,rfl⟩
    show List.countP _ [_,_]=0;rw[CY,CY,this.1,this.2];rfl
   rw[N];omega
  rfl
 show pD _=[dI f _ _,dI f _ _];rw[one,one]
theorem aag(n:dM (F:Int) j=0)(hf:1<=f)(H:f<=F){m:dG}(h:iP F j m=some X)(u:j≠[]-> ¬IW f j m):∃M,M.k=m.k/\iP (F-1) (cG f j) M=some (cG f X):=by
 rcases EZ n with rfl|g
 .exact ahN hf H h
 exact aod g hf H h (u g.ne)
theorem TO{blk:aG}{s:Nat}{is:Bool}{l:Bool}:fR blk [] s ((HY m is).ib l)=some (.tup [jM m.k m.a m.b m.c m.l m.o m.s,.one (.p (.bool is))],[]):=by cases l<;>rfl
theorem ajm{blk:aG}{s:Nat}(lo:S.lone s):fR blk [] s ((RV.one (.own y z v)).ib (S.lone s))=some (.one (.p (.sl v)),[]):=by rw[lo];rfl
theorem akb(H:aI S 5 [] (eh true)){g n:Int}(ps:aI S 4 [fc g j,aE 16] (eh false)):aI S 3 [fc g j,aE n,aE h] (eh true):=by have B:S.shared 5=false:=ah;refine bR c3 ?_;simp only[go_sem,i3,xz,eU ps,B,eU H]
theorem ayj(f:aI S 5 [] (eh true)){g n:Int}(ps:aI S 4 [fc g j,aE 16] (eh true))(u:h<1\/g<h):aI S 3 [fc g j,aE n,aE h] (eh true):=by
 have B:S.shared 5=false:=ah;refine bR c3 ?_;by_cases H:h<1
 .simp only[go_sem,i3,xz,eU ps,H,B,eU f]
 have m:g<h:=J;simp only[go_sem,i3,xz,eU ps,H,m,B,eU f]
theorem ay0(hk:aI S 5 [] (eh true))(dS:Kp)(D:dM (F:Int) j=0)(hf:1<=f)(L:f<=F)(n:Int)(ps:aI S 4 [fc F j,aE 16] (eh true)):aI S 3 [fc F j,aE n,aE f] (eh true):=by
 have Bh:S.shared 5=false:=ah;have h1:¬((f:Int)<1):=J;have h2:¬((F:Int)<(f:Int)):=J;obtain⟨OZ,⟨az,dT⟩,ad⟩:=avl D;obtain⟨m,is,uQ,pp⟩:=awK az ad n;have nU:S.lone 192384128:=ah;have qt:S.lone 192448128:=ah;have ar:S.lone 192512128:=ah;have aD:S.lone 192832064:=ah;have a1:S.lone 192832192:=ah;cases is with
 |false=>refine bR c3 ?_;simp only[go_sem,i3,xz,eU ps,h1,h2,Y8,dJ pp TO,Bh,eU hk]
 |true=>
  obtain⟨X,x⟩:=K6.1 (dT m (uQ rfl));obtain⟨hX,_,pa⟩:=acX D x;obtain⟨kn,Kw,ek,_⟩:=alX x;obtain⟨r1,o1,p1⟩:=ad7 dS D hf L;obtain⟨r2,o2,p2⟩:=ad7 dS hX hf L;obtain⟨x1,ni,l1⟩:=ac2 o1 qt;obtain⟨x2,uT,l2⟩:=ac2 o2 ar;have c1:=ahp D hf L;have c2:=ahp hX hf L;have nX:=AQ (dQ X);have pl:=avB (k:=m.k) J J;have Pb:aI S 7 [.agg [.p (.int .i64 F),.p (.sl (dQ j))],.agg [.p (.int .i64 m.k),.p (.int .i64 m.a),.p (.int .i64 m.b),.p (.int .i64 m.c),.p (.bool m.l),.p (.bool m.o),.p (.int .i64 m.s)]] (mz F X):=pa;have O:aI S 8 [.agg [.p (.int .i64 F),.p (.sl (dQ X))],aE f] r2:=p2;by_cases h9:m.k<9
  .obtain⟨m',k',a'⟩:=aag D hf L x λ_ Y=>by rcases Y with⟨e,_⟩|⟨e,_⟩<;>omega
   have Z:=aeW c1 c2 Kw (k'.trans ek) a' rfl;rw[<-ek]at Z;have M:aI S 10 [.agg [.p (.int .i64 (F-1:Nat)),.p (.sl (dQ (cG f j)))],aE m.k,.agg [.p (.int .i64 (F-1:Nat)),.p (.sl (dQ (cG f X)))]] (eh true):=Z;rw[xq h9]at pl;refine bR c3 ?_;simp only[go_sem,i3,xz,eU ps,h1,h2,Y8,dJ pp TO,Ob,dJ Pb (L1 nU),ab4,dJ p1 (l1 _),nX,dJ O (l2 _),adl,eU pl,ni,uT,abC,eU M,Bh,eU hk]
  rcases EZ D with rfl|g
  .obtain⟨m',k',a'⟩:=ahN hf L x;have hA:=Zw (F:=F) (m:=m) (by rw[x];rfl);exfalso;have a2:m.k=9\/m.k=10:=J;obtain⟨av,a0,_⟩:=(vq (by rcases a2 with e|e<;>simp[e])).1 hA;exact absurd a0 (nJ _)
  have N:=g.fing;obtain⟨q,hq,H,a3⟩:=awQ g x J;have H:=H f;rw[zc h9]at pl;have LD:=acF D N (by have:=g.len;omega);have lX:=P7 hX;have Ym:=acF hX N J;have aF:aI S 11 [.agg [.p (.int .i64 F),.p (.sl (dQ X))]] (.one (.own D3 1 (dR (oi F (lJ X))))):=Ym;have aZ:I (oi F (lJ j))=F:=by unfold oi;rw[bG,rY]
  have am:I (oi F (lJ X))=F:=by unfold oi;rw[bG,rY]
  have ak:I (dR (oi F (lJ j)))=F:=by rw[bG,aZ]
  have ac:I (dR (oi F (lJ X)))=F:=by rw[bG,am]
  generalize oi F (lJ j)=v at*;generalize oi F (lJ X)=w at*;refine bR c3 ?_;simp only[go_sem,i3,xz,eU ps,h1,h2,Y8,dJ pp TO,Ob,dJ Pb (L1 nU),ab4,dJ p1 (l1 _),nX,dJ O (l2 _),adl,eU pl,akh,pX LD (ajm aD),pX aF (ajm a1),ak,ac];refine⟨aS,?_⟩
  refine df (λk A blk=>A 2=aE f/\A 3=.one (.bh 192000000 1 0)/\A 7=.one (.bh 192192384 1 0)/\A 11=.one (.bh 192448384 1 0)/\A 13=.one (.bh 192512384 1 0)/\A 15=.one (.p (.sl (dR v)))/\A 16=.one (.p (.sl (dR w)))/\A 17=aE ((if q<k then q+1 else 0:Nat):Int)/\A 18=aE k/\blk 192000000=(1,some (.var (lR F j)))/\blk 192192384=(1,some (.var [.p (.int .i64 m.k),.p (.int .i64 m.a),.p (.int .i64 m.b),.p (.int .i64 m.c),.p (.bool m.l),.p (.bool m.o),.p (.int .i64 m.s)]))/\blk 192448384=(1,some (.var [.p (.int .i64 (F-1:Nat)),.p x1]))/\blk 192512384=(1,some (.var [.p (.int .i64 (F-1:Nat)),.p x2]))) 0 F (bN _) ?_ ?_
  .simp only[go_sem];first|done|exact⟨rfl,rfl⟩|rfl
  rintro k A blk ql ⟨e2,e3,e7,u,E,R,ag,Hg,JH,b0,b7,xS,B⟩
  by_cases aB:k<F
  .have aL:((k:Int)<(F:Int)):=J;have w1:=cE (n:=k) J;obtain⟨y,hy⟩:=aM (h:=v) (k:=k) J;obtain⟨z,hz⟩:=aM (h:=w) (k:=k) J;have Q:(dR v)[k]?=some [.int .i64 y]:=by rw[dy,hy];rfl
   have T:(dR w)[k]?=some [.int .i64 z]:=by rw[dy,hz];rfl
   have hw:=a3 k aB;rw[hy,hz,gW]at hw;by_cases Bg:k=q
   .have aN:(y !=z):=bne_iff_ne.2 λe=>hw.1 e Bg;have VA:(if q<k+1 then q+1 else 0)=k+1:=by rw[an J,Bg]
    simp only[go_sem,Nc,e2,e3,e7,u,E,R,ag,Hg,JH,b0,b7,xS,B,aB,aL,Q,T,aN,w1,VA];exact aS
   have ap:(y !=z)=false:=by rw[hw.2 Bg];exact bne_self_eq_false _
   have VA:(if q<k+1 then q+1 else 0)=if q<k then q+1 else 0:=by split<;>split<;>omega
   simp only[go_sem,Nc,e2,e3,e7,u,E,R,ag,Hg,JH,b0,b7,xS,B,aB,aL,Q,T,ap,w1,VA];exact aS
  have:k=F:=J;subst this;rw[an hq]at Hg;by_cases Y:q+1=f
  .have he:=atL g hf L x (H.2 Y);have ab:=agJ c1 c2;rw[he,xq rfl]at ab;rw[he]at uT;have Lq:aI S 12 [.agg [.p (.int .i64 (k-1:Nat)),.p (.sl (dQ (cG f j)))],.agg [.p (.int .i64 (k-1:Nat)),.p (.sl (dQ (cG f j)))]] (eh true):=ab;have e9:(((q+1:Nat):Int)==(f:Int)):=by rw[Y];exact CT _
   simp only[go_sem,Nc,WW,e2,e3,u,E,Hg,JH,b0,xS,B,ff,e9,ni,uT,YV,eU Lq,Bh,eU hk];first|done|trace_state
  obtain⟨m',k',a'⟩:=aag D hf L x λ_ h=>Y (H.1 h);have Z:=aeW c1 c2 Kw (k'.trans ek) a' rfl;rw[<-ek]at Z;have M:aI S 10 [.agg [.p (.int .i64 (k-1:Nat)),.p (.sl (dQ (cG f j)))],aE m.k,.agg [.p (.int .i64 (k-1:Nat)),.p (.sl (dQ (cG f X)))]] (eh true):=Z;have e9:(((q+1:Nat):Int)==(f:Int))=false:=mE.2 J;simp only[go_sem,Nc,WW,e2,e3,e7,u,E,Hg,JH,b0,b7,xS,B,ff,e9,ni,uT,abC,eU M,Bh,eU hk];first|done|trace_state
theorem aw4(D:Kp)(H:aI S 5 [] (eh true))(g:Int)(j:af)(n h:Int):aI S 3 [fc g j,aE n,aE h] (eh true):=by
 have ps:=anx (f:=g) (j:=j) (n:=16) aa;cases ae:(decide ((I j:Int)<=16)&&(dM g j==0))with
 |false=>rw[ae]at ps;exact akb H ps
 |true=>
  rw[ae]at ps;rw[cN,jn,cW]at ae;obtain⟨_,u⟩:=ae;by_cases m:h<1\/g<h
  .exact ayj H ps m
  obtain⟨f,rfl⟩:=lB (show 0<=h by omega);obtain⟨F,rfl⟩:=lB (show 0<=g by omega);exact ay0 H D u J J n ps
end
end
theorem awT:Kp:=⟨1,ah⟩
end
end Go.Abs
namespace Go.Proofs.YtgjjncbeombnbaaGreatDoor.fnMoveForgets
open Go.Abs Go.ChangeShapes Go.WideShapes Go.ChangeAt Go.RowKit
theorem aii {P : Program}{N n : Nat}{t : TypeId}{fs : Array Field}{p : dF} (H : P.underlying t = some (.struct fs)) (h : k8 P N (n + 1) t p) :
    ∃j : dh, p = j.flatten ∧ I j = I fs.toList ∧ ∀(i : Nat) (f : Field) (x : dF), fs.toList[i]?= some f → j[i]?= some x → k8 P N n f.type x := by
  simp only [k8, H]at h;exact h
theorem asL {v : dh} (h :∀x ∈ v, ∃l : U, x = l.ps) :∃j : af, v = j.map U.ps := by
  induction v with
  | nil => exact⟨[], rfl⟩
  | cons e v f =>obtain⟨l, rfl⟩ := h e (by simp);obtain⟨j, rfl⟩ := f λx H => h x (by simp [H]);exact⟨l :: j, rfl⟩
theorem anS {N n : Nat}{p : dF} (h : k8 S.P N (n + 1 + 1) 61 p) :∃l : U, p = l.ps := by
  obtain⟨f, rfl, hl, hp⟩ := aii Tryz.underlying61 h;rcases f with _ | ⟨z, _ | ⟨v, _ | ⟨x, _ | ⟨j, _ | ⟨u, _ | ⟨m, _ | ⟨y, r⟩⟩⟩⟩⟩⟩⟩ <;> first
    | (simp at hl; done)
    | skip
  obtain⟨k, rfl, _⟩ := Et Tryz.underlying59 (hp 0 _ _ rfl rfl);obtain⟨g, rfl, _⟩ := Et Tryz.underlying3 (hp 1 _ _ rfl rfl);obtain⟨r, rfl, _⟩ := Et Tryz.underlying3 (hp 2 _ _ rfl rfl);obtain⟨i, rfl, _⟩ := Et Tryz.underlying3 (hp 3 _ _ rfl rfl);obtain⟨s, rfl, _⟩ := Et Tryz.underlying3 (hp 4 _ _ rfl rfl);obtain⟨o, rfl⟩ := avK Tryz.underlying4 (hp 5 _ _ rfl rfl);exact⟨⟨k, g, r, i, s, o⟩, rfl⟩
theorem aj2 {N n : Nat}{p : dF} (h : k8 S.P N (n + 1 + 1 + 1 + 1) 24 p) :∃(k : Int) (j : af), p = [.int .i64 k,.sl (j.map U.ps)] := by
  obtain⟨f, rfl, hl, hp⟩ := aii Tryz.underlying24 h;rcases f with _ | ⟨z, _ | ⟨u, _ | ⟨y, r⟩⟩⟩ <;> first
    | (simp at hl; done)
    | skip
  obtain⟨k, rfl, _⟩ := Et Tryz.underlying3 (hp 0 _ _ rfl rfl);obtain⟨v, rfl, _, m⟩ := amO Tryz.underlying22 (hp 1 _ _ rfl rfl);obtain⟨j, rfl⟩ := asL λx H => anS (m x H);exact⟨k, j, rfl⟩
theorem amb (j : dh) (h : R9 S.P maxLen 4 Tryz.f3.params.toList j) : aI S 3 (BP S.P Tryz.f3.params.toList j) (.one (.p (.bool true))) := by
  have hp : Tryz.f3.params.toList = [24, 3, 3] := by rw [Tryz.params3]
  rw [hp]at h |-;rcases j with _ | ⟨A, _ | ⟨v, _ | ⟨y, _ | ⟨B, z⟩⟩⟩⟩
  · exact h.elim
  · exact h.2.elim
  · exact h.2.2.elim
  · obtain⟨F, L, rfl⟩ := aj2 (n := 0) h.1
    obtain⟨u, rfl, _⟩ := Et (n := 3) Tryz.underlying3 h.2.1;obtain⟨X, rfl, _⟩ := Et (n := 3) Tryz.underlying3 h.2.2.1;have m :∀(f : Int) (a : af), Cu S.P 24 [.int .i64 f,.sl (a.map U.ps)] = fc f a := λf a => akg (P := S.P) Tryz.underlying24;have E :∀x : Int, Cu S.P 3 [.int .i64 x] = aE x := λx => asG (P := S.P) Tryz.underlying3 (λfs h => by cases h);simp only [BP, m, E];exact aw4 awT art F L u X
  · exact h.2.2.2.elim
theorem aub : Tryz.prog.globalNamed TH = some 0 := by kernel_rfl
theorem aqv : (Tryz.prog.globals[0]?).map (·.type) = some 193 := by kernel_rfl
theorem alA : Tryz.prog.cellsOf 193 = 20 := by kernel_rfl
theorem asy : Tryz.prog.cellsOf 172 = 1 := by kernel_rfl
theorem table {W : World} (h : laidMetH Tryz.prog Rows.moveForgetsRow.laid W) : G W := by
  have f : laidMet Tryz.prog Rows.moveForgetsRow.laid W := h;have H := f.tail.tail;have e : (Rows.laid_internal_strconv_uint64pow10 : DataW Unit) = Lib.tabData .u64 Lib.pow10Tab := by kernel_rfl
  rw [e]at H;exact Lib.tabIs_of_head (rest := []) aub aqv Tryz.underlying193 Tryz.underlying172 asy alA H
end Go.Proofs.YtgjjncbeombnbaaGreatDoor.fnMoveForgets
namespace Go.Proofs.YtgjjncbeombnbaaGreatDoor.fnMoveForgets
open Go.Abs Go.ChangeShapes Go.WideShapes Go.ChangeAt Go.RowKit
theorem own : ownKnob Tryz.prog.godebug = none := by kernel_rfl
theorem anE (H : Type) (E : TypeId×Value → H) (W : World) (base : Nat) (A : Array Value) (D F : List (DataW H)) (B : List MemPlace)
    (f :∀(j : Nat) t v, Tryz.f3.params[j]?= some t → A[j]?= some v → Value.okWide Tryz.prog W .any base t v)
    (x : DataW.Whole E Tryz.prog Tryz.f3.params.toList Rows.moveForgetsSpec.vars false W A.toList D F B) (L : laidMetH Tryz.prog Rows.moveForgetsRow.laid W) :
    Calls Tryz.prog 3 A W λe N =>∃v, e =.returned v ∧ Rows.moveForgetsSpec.post E Tryz.prog Tryz.f3 false true false false W A v N := by
  have u :∀t ∈ Tryz.f3.params.toList, k_ S.P 4 t = true := by
    rw [Tryz.params3];intro t y;have e : t = 24 ∨ t = 3 := by simpa using y
    have z : k_ S.P 4 24 = true := by kernel_rfl
    have k1 : k_ S.P 4 3 = true := by kernel_rfl
    rcases e with e | e
    · exact e ▸ z
    · exact e ▸ k1
  have m :∀d ∈ D, tm maxLen d := by obtain⟨p, q, M, _⟩ := x;exact(afv u M).1
  exact akX S_ok (λw h => ao6 h) (fn := Tryz.f3) (s := Rows.moveForgetsSpec) rfl
    (λH D n => by
      rw [Tryz.params3]at n
      match D, n with
      | [R, Q, O], _ => rfl) (tb := 4) (by kernel_rfl) Tryz.underlying4 u amb f x (table L) m

noncomputable def asP (d : DataW Unit) : Array Value :=
  match d with
  | .agg l => (l.map fun
    | .lit (.int k z) => Value.int k z
    | _ => undef).toArray
  | _ => #[]
noncomputable def U6 (d : DataW Unit) : Obj → Obj
  | .cells _ t frozen =>.cells (asP d) t frozen
  | o => o
noncomputable def Xa (os : Os) : World :={ World.holding Tryz.prog os ⟨#[], #[], []⟩with heap := (((World.holding Tryz.prog os ⟨#[], #[], []⟩).heap.modify 2 (U6 Rows.laid_math_bits_deBruijn32tab)).modify 3 (U6 Rows.laid_math_bits_deBruijn64tab)).modify 0 (U6 Rows.laid_internal_strconv_uint64pow10) }
theorem apN (os : Os) : laidMet Tryz.prog Rows.moveForgetsRow.laid ((Xa os).forCall (λ_ _ => 0) ⟨#[], #[Value.agg #[.int .i64 0,.slice none 0 0],.int .i64 0,.int .i64 0], []⟩).memory :=laidMet_of_run' 8 (by kernel_rfl) (by kernel_rfl)
theorem amD (os : Os) {H : Type} (E : TypeId×Value → H) :∃places, DataW.whole E Tryz.prog ((Xa os).forCall (λ_ _ => 0) ⟨#[], #[Value.agg #[.int .i64 0,.slice none 0 0],.int .i64 0,.int .i64 0], []⟩).memory Tryz.f3.params.toList Rows.moveForgetsSpec.vars false #[Value.agg #[.int .i64 0,.slice none 0 0],.int .i64 0,.int .i64 0].toList 8 = some ([.agg [.lit (.int .i64 0),.nil],.lit (.int .i64 0),.lit (.int .i64 0)], [], places) :=
  ⟨[], by kernel_rfl⟩

theorem auC (os : Os) (f : os.Started) (H : Type) (E : TypeId×Value → H) (F : Stop.Interp) :
    ReturnsInHanded {} Tryz.checked os 3 .any ((OpenSpec.ofChange Rows.moveForgetsSpec).preRow E Tryz.prog Tryz.f3 Rows.moveForgetsRow.domain false Rows.moveForgetsRow.laid) (((OpenSpec.ofChange Rows.moveForgetsSpec).at F).post E Tryz.prog Tryz.f3 false true false false) := by
  obtain⟨places, j⟩ := amD os E;refine returnsInHanded_of_row (C := Tryz.checked) (s := (OpenSpec.ofChange Rows.moveForgetsSpec)) own f (by kernel_rfl) Tryz.func3
    (witness_row_at (enc := E) (C := Tryz.checked) false (Xa os) #[Value.agg #[.int .i64 0,.slice none 0 0],.int .i64 0,.int .i64 0] rfl (by kernel_rfl) (by kernel_rfl) (by kernel_rfl)
      (OpenSpec.preRow_of_cond 8 j (by kernel_rfl) (λk n => by cases n) (by kernel_rfl) (apN os))) ?_
  intro W base A D u B h m _ _ _ v _ _;exact anE H E W base A D u B h m v
end Go.Proofs.YtgjjncbeombnbaaGreatDoor.fnMoveForgets
namespace Go.Proofs.YtgjjncbeombnbaaGreatDoor.fnMoveForgets
open Go.Abs Go.ChangeShapes Go.WideShapes Go.ChangeAt Go.RowKit
theorem aoz : Rows.MoveForgetsSaid :=
  OpenClaim.holds_of_cond 3 Tryz.f3 rfl rfl rfl rfl rfl rfl rfl ⟨rfl, rfl, rfl, rfl, rfl⟩ rfl rfl rfl rfl rfl (by kernel_rfl) Tryz.func3 closed
    (of_decide_eq_true (by kernel_rfl)) (by unfold Func.isWrapper; first | (rw [if_pos (by decide +kernel)]; kernel_rfl) | (rw [if_neg (by decide +kernel)]; exact⟨rfl, rfl⟩))
    (λos f H E _ F => by rw [OpenClaim.pre_eq_preRow]; exact auC os f H E F)

theorem aqi (f : FuncId) (fn : Func) (hf : Tryz.pinned.checked.prog.funcNamed Rows.moveForgetsRow.func = some f) (hfn : Tryz.pinned.checked.prog.funcs[f]?= some fn) :
    false = Tryz.pinned.checked.prog.looks [] ∧ ∀(j : Nat) t, fn.params[j]?= some t → Tryz.pinned.checked.prog.wantsStandIn t = false := by
  obtain rfl : f = 3 := Option.some.inj ((show Tryz.prog.funcNamed Rows.moveForgetsRow.func = some 3 by kernel_rfl).symm.trans hf) |>.symm
  obtain rfl : fn = Tryz.f3 := (Option.some.inj (Tryz.func3.symm.trans hfn)).symm;refine⟨by kernel_rfl, ?_⟩
  · intro j t h
    rw [Tryz.params3]at h;have e : t = 24 ∨ t = 3 := by simpa using Array.mem_of_getElem? h
    have m : Tryz.prog.wantsStandIn 24 = false := by kernel_rfl
    have k1 : Tryz.prog.wantsStandIn 3 = false := by kernel_rfl
    rcases e with e | e
    · exact e ▸ m
    · exact e ▸ k1

theorem auP : Rows.moveForgetsRow.wfByText (OpenSpec.ofChange Rows.moveForgetsSpec) = true := by kernel_rfl
theorem auR : Tryz.pinned.checked.prog.mainIs = some ((true, "a5ca0bdc786954c91b5c507795030f3f6ab589347acda54b55c3b95a1d0b1bae").1, (true, "a5ca0bdc786954c91b5c507795030f3f6ab589347acda54b55c3b95a1d0b1bae").2.toList) := by kernel_rfl
theorem card : Rows.MoveForgetsCardSaid :=Claim7.holds_tied_plain_at .later [] _ _ _ _ aoz (λ_ h => by cases h) auP (λ_ h => by cases h) moveForgets_row_tie rfl ⟨rfl, rfl⟩ auR rfl aqi goes
end Go.Proofs.YtgjjncbeombnbaaGreatDoor.fnMoveForgets
