/- A part. -/
import Derived.Test.YtpfkjhlcoghioaaGreatDoorWd
set_option linter.all false
open List renaming length->I
set_option maxRecDepth 100000
set_option maxHeartbeats 16000000
namespace Go.Abs
variable{m y u j:Nat}{L:bK}{H E:Int}{f T B O N:Nat->Nat->Nat}{D:Nat->Nat}{h:U->U}
section
variable{A:ae}{F n v x:Nat}
def aE0(g:aU F A)(k:Nat)(b c:Int)(l o:Bool)(sg:Int)(O:k<I A)(hl:I A<=400)(jj:∀x∈A,IntKind.i64.wrap (x.ao-2)=x.ao-2):
  aC S 9 [c7 F A,c6 1 k b c l o sg] (pM F ((kr A [k,nx A k]).map (jx (aV A k).gate (if(aV A (nx A k)).ao<(aV A k).ao then(aV A (nx A k)).ao else(aV A k).ao) 2)) (kr (eR A) [k,nx A k])):=by
 have j:=Ay g;have u:=B4 (F:Int) A J;have R:S.lone 576064064=false:=ah;have T:S.lone 576128064=false:=ah;have B:S.lone 579136128=false:=ah;rw[oa (AK g)]at j;have N:=s3 g.ne (lL A);simp only[uM]at N;rw[N]at u;have E:=BB (F:=F) O J;have pw:=aen A (eR A) [k,nx A k] J (lL A) aG;have D:=Yo A (eR A) [k,nx A k] (lL A);have ad:=aeL A [k,nx A k];have Qh:∀y∈kr A [k,nx A k],y∈A:=λy h=>Vv h;have L:S.lone 576384512=false:=ah;have pb:=Kt (F:=F) O J;have M:S.lone 576320192=false:=ah
 have e1:aY [k,nx A k]=[[.int .i64 k],[.int .i64 ((k+1)%I A:Nat)]]:=rfl;rw[e1]at pw;generalize hL:kr A [k,nx A k]=W at*;generalize hD:kr (eR A) [k,nx A k]=V at*;generalize aV A k=X at*;generalize aV A (nx A k)=Y at*;by_cases v:W=[]
 .subst v;have hV:=yc.1 D;subst hV;rw[ad1]at pw;have f:aC S 36 [.agg [.p (.sl []),.p (.sl [])],c7 F A] (.agg [.p (.int .i64 F),.p .nils]):=ym (F:Int) A [] [] aG rfl;have Z:bY (kj [] [])=[]:=rfl;simp only[pM,ml,Z];rw[ab1];refine ba tc ?_;simp only[go_sem,i9,tQ,gN j R (.inl rfl)];simp only[go_sem,yS,gN u T (.inl rfl),lz,ri,vr,yf,jZ E,F1,gN pb M (.inr rfl),LY,xV pw L (.inr rfl),O0];refine⟨aK,?_⟩;refine aqN λcE H=>?_;have m:=H 576000000 aa;have n:=H 576000128 aa;have Q:=H 576128128 aa;simp only[go_sem]at m n Q;simp only[go_sem,m,n,Q,wX,ya,gN f B (.inr rfl)];try rfl
 rw[s3 v D]at pw;have cN:I (kj (W.map (jx X.gate (if Y.ao<X.ao then Y.ao else X.ao) 2)) V)=I W:=by rw[Cv,ct]
 have f:=ym (F:Int) A (W.map (jx X.gate (if Y.ao<X.ao then Y.ao else X.ao) 2)) V GE (by rw[ct];exact D);have jP:kj (W.map (jx X.gate (if Y.ao<X.ao then Y.ao else X.ao) 2)) V≠[]:=λe=>v (yc.1 (by rw[<-cN,e];rfl));simp only[pM];rw[oa (Ah jP)]at f |-;refine ba tc ?_;simp only[go_sem,i9,tQ,gN j R (.inl rfl)];simp only[go_sem,yS,gN u T (.inl rfl),lz,ri,vr,yf,jZ E,F1,gN pb M (.inr rfl),LY,xV pw L (.inr (CM _ _)),O0];refine⟨aK,?_⟩;refine aj4 aa J (λy hy=>jj y (Qh y hy)) d9 d9 λcE h1 H=>?_
 have m:=H 576000000 aa aa;have n:=H 576000128 aa aa;have Q:=H 576128128 aa aa;have z:=H 576384513 aa aa;simp only[go_sem]at m n Q z;generalize Qg:W.map (jx X.gate (if Y.ao<X.ao then Y.ao else X.ao) 2)=W2 at*;have tk:I W=I W2:=by rw[<-Qg,ct]
 simp only[go_sem,h1,tk,m,n,Q,z,lz,ri,wX,ya,gN f B (.inr (B6 _ _))];simp[iD,mM,kZ,kD,iN,bG,lg,oE,nq,lz]
def asS(g:aU F A)(k j:Nat)(c:Int)(l o:Bool)(sg:Int)(v:k<I A)(hj:j<I A)(hl:I A<=400)(M:∀x∈A,∀k:Nat,k<=4->IntKind.i64.wrap (x.id-(k:Int))=x.id-k):
  aC S 9 [c7 F A,c6 6 k j c l o sg] (pM F ((kr A [k,nx A k,j,nx A j]).map (ot [(aV A k).id,(aV A (nx A k)).id])) (kr (eR A) [k,nx A k,j,nx A j])):=by
 have m:=Ay g;have B:=B4 (F:Int) A J;have l1:S.lone 576064064=false:=ah;have l2:S.lone 576128064=false:=ah;have l4:S.lone 579136128=false:=ah;rw[oa (AK g)]at m;have R:=s3 g.ne (lL A);simp only[uM]at R;rw[R]at B;have N:=BB (F:=F) v J;have pw:=aen A (eR A) [k,nx A k,j,nx A j] J (lL A) aG;have z:=Yo A (eR A) [k,nx A k,j,nx A j] (lL A);have ad:=aeL A [k,nx A k,j,nx A j];have Qh:∀y∈kr A [k,nx A k,j,nx A j],y∈A:=λy h=>Vv h;have Z:S.lone 578112896=false:=ah;have pb:=Kt (F:=F) v J;have Hg:=BB (F:=F) hj J;have O:S.lone 578048192=false:=ah
 have e1:aY [k,nx A k,j,nx A j]=[[.int .i64 k],[.int .i64 ((k+1)%I A:Nat)],[.int .i64 j],[.int .i64 ((j+1)%I A:Nat)]]:=rfl;rw[e1]at pw;generalize hL:kr A [k,nx A k,j,nx A j]=W at*;generalize hD:kr (eR A) [k,nx A k,j,nx A j]=V at*;generalize aV A k=X at*;generalize aV A (nx A k)=Y at*;by_cases E:W=[]
 .subst E;have hV:V=[]:=yc.1 z;subst hV;rw[ad1]at pw;have f:aC S 36 [.agg [.p (.sl []),.p (.sl [])],c7 F A] (.agg [.p (.int .i64 F),.p .nils]):=ym (F:Int) A [] [] aG rfl;have e0:bY (kj [] [])=[]:=rfl;simp only[pM,ml,e0];rw[ab1];refine ba tc ?_;simp only[go_sem,i9,tQ,gN m l1 (.inl rfl)];simp only[go_sem,yS,gN B l2 (.inl rfl),lz,ri,vr,yf,jZ N,F1,gN pb O (.inr rfl),jZ Hg,LY,xV pw Z (.inr rfl),Vb];refine⟨aK,?_⟩;refine aiu (O:=[X.id,Y.id]) lc λcE H=>?_;have Q:=H 576000000 aa;have n:=H 576000128 aa;have u:=H 576128128 aa;simp only[go_sem]at Q n u;simp only[go_sem,Q,n,u,wX,ya,gN f l4 (.inr rfl)];try rfl
 rw[s3 E z]at pw;have cN:I (kj (W.map (ot [X.id,Y.id])) V)=I W:=by rw[Cv,ct]
 have f:=ym (F:Int) A (W.map (ot [X.id,Y.id])) V GE (by rw[ct];exact z);have jP:kj (W.map (ot [X.id,Y.id])) V≠[]:=λe=>E (yc.1 (by rw[<-cN,e];rfl));simp only[pM];rw[oa (Ah jP)]at f |-;refine ba tc ?_;simp only[go_sem,i9,tQ,gN m l1 (.inl rfl)];simp only[go_sem,yS,gN B l2 (.inl rfl),lz,ri,vr,yf,jZ N,F1,gN pb O (.inr rfl),jZ Hg,LY,xV pw Z (.inr (CM _ _)),Vb];refine⟨aK,?_⟩;refine anA (L:=W) (D:=V) (O:=[X.id,Y.id]) aa aa aa J aG (λy hy k v=>M y (Qh y hy) k (by simp at v;omega)) d9 d9 lc λcE h1 H=>?_
 have Q:=H 576000000 aa aa;have n:=H 576000128 aa aa;have u:=H 576128128 aa aa;have T:=H 578112897 aa aa;simp only[go_sem]at Q n u T;generalize Qg:W.map (ot [X.id,Y.id])=W2 at*;have tk:I W=I W2:=by rw[<-Qg,ct]
 simp only[go_sem,h1,tk,Q,n,u,T,lz,ri,wX,ya,gN f l4 (.inr (B6 _ _))];simp[iD,mM,kZ,kD,iN,bG,lg,oE,nq,lz]
def akm{Q:ib}{os:fx}{d:eF}{j:bP}{blk:aH}{f ez h u n:Nat}{L:ae}{D:dK}{g:Int}(N:f≠1728000000)(hl:I L<=1000000)(v:∀x∈L,IntKind.i64.wrap (x.ao-E)=x.ao-E)(M:blk f=(ez,some (.arr fO 6 (bY L))))(y:blk h=(u,some (.arr 4 1 (dx D))))(z:n=I L)(B:m=I D)
  (F:∀A,A f=(ez,some (.arr fO 6 (bY (L.map (jx g H E)))))->(∀i,i≠f->i≠1728000000->A i=blk i)->jC S .all os Q (dL j d (.tup [])) A):
  jW S .all (.sc 27 [zG f ez h u n m,ai g,ai H,ai E]) d os Q j blk:=by
 subst z B;exact aj4 N hl v M y F
def ax8(g:aU F A)(k:Nat)(b c:Int)(l o:Bool)(sg:Int){x:U}(H:A[k]?=some x)(hl:I A<=400)(jj:∀x∈A,IntKind.i64.wrap (x.ao - -1)=x.ao - -1)(B:IntKind.i64.wrap (x.gate+1)=x.gate+1):
  aC S 9 [c7 F A,c6 9 k b c l o sg] (pM F ((A.map (jx (x.gate+1) 0 (-1))).set k {jx (x.gate+1) 0 (-1) x with gate:=x.gate+1,ao:=1}) (eR A)):=by
 have Z:=(bN.1 H).1;have j:=Ay g;have M:=B4 (F:Int) A J;have l1:S.lone 576064064=false:=ah;have l2:S.lone 576128064=false:=ah;have l4:S.lone 579136128=false:=ah;rw[oa (AK g)]at j;have N:=s3 g.ne (lL A);simp only[uM]at N;rw[N]at M;have Y:=fW H;have x1:(A.map (jx (x.gate+1) 0 (-1)))[k]?=some (jx (x.gate+1) 0 (-1) x):=by rw[fX,H];rfl
 have R:I (A.map (jx (x.gate+1) 0 (-1)))=I A:=ct _;refine ba tc ?_;simp only[go_sem,i9,tQ,gN j l1 (.inl rfl)];simp only[go_sem,yS,gN M l2 (.inl rfl),lz,ri,Y,U.ps,B,O0];refine akm (L:=A) (D:=eR A) aa J jj d9 d9 rfl rfl λb1 Gp h=>?_;have Q:=h 576000000 aa aa;have O:=h 576000064 aa aa;have z:=h 576000128 aa aa;have v:=h 576128128 aa aa;have y:=h 576128065 aa aa;simp only[go_sem]at Q O z v y;generalize A.map (jx (x.gate+1) 0 (-1))=u at*;generalize jx (x.gate+1) 0 (-1) x=X at*;have Om:=fW x1;have di:k<I u:=J
 generalize T:u.set k {X with gate:=x.gate+1,ao:=1}=f at*;have sf:(bY u).set k [.int .i64 X.kind,.int .i64 (x.gate+1),.int .i64 1,.int .i64 X.id,.int .i64 X.sign,.bool X.over]=bY f:=by rw[<-T];exact F4 _ _ _ rfl
 have n:I f=I A:=by rw[<-T,oF];exact R
 have tk:List.take (I A) (bY f)=bY f:=by rw[<-n];exact lz f
 have m:=ym (F:Int) A f (eR A) J ((lL A).trans n.symm);have E:I (kj f (eR A))=I f:=Cv _ _;have jP:kj f (eR A)≠[]:=λe=>by rw[e]at E;simp only[fB]at E;omega
 simp only[pM];rw[oa (Ah jP)]at m |-;simp only[go_sem,Gp,Q,O,z,v,y,Om,Z,B,U.ps,qt,uL,QL,sf,tk,R,n,ri,wX,ya,gN m l4 (.inr (B6 _ _))];refine⟨aK,?_⟩;simp[iD,mM,kZ,kD,iN,bG,lg,oE,nq,lz]
def asR(g:aU F A)(k:Nat)(b c:Int)(l o:Bool)(sg:Int){x:U}{n:Int}(X:A[k]?=some x)(hl:I A<=400)(v:aC S 35 [c7 F A,ai (x.gate-1)] (fH n))(hn:IntKind.i64.wrap (n+1)=n+1)(sN:IntKind.i64.wrap (n+1-1)=n+1-1)(jj:∀x∈A,IntKind.i64.wrap (x.ao-1)=x.ao-1)(hg:IntKind.i64.wrap (x.gate-1)=x.gate-1):
  aC S 9 [c7 F A,c6 10 k b c l o sg] (pM F ((A.set k {x with gate:=x.gate-1,ao:=n+1}).map (jx x.gate 1 1)) (eR A)):=by
 have hk:=(bN.1 X).1;have m:=Ay g;have N:=B4 (F:Int) A J;have l1:S.lone 576064064=false:=ah;have l2:S.lone 576128064=false:=ah;have l4:S.lone 579136128=false:=ah;rw[oa (AK g)]at m;have O:=s3 g.ne (lL A);simp only[uM]at O;rw[O]at N;have Z:=fW X;generalize M:A.set k {x with gate:=x.gate-1,ao:=n+1}=j at*;have sf:(bY A).set k [.int .i64 x.kind,.int .i64 (x.gate-1),.int .i64 (n+1),.int .i64 x.id,.int .i64 x.sign,.bool x.over]=bY j:=by rw[<-M];exact F4 _ _ _ rfl
 have Q:I j=I A:=by rw[<-M,oF]
 have nQ:∀y∈j,IntKind.i64.wrap (y.ao-1)=y.ao-1:=by
  intro y T;rw[<-M]at T;rcases adj T with h|rfl
  .exact jj y h
  exact sN
 refine ba tc ?_;simp only[go_sem,i9,tQ,gN m l1 (.inl rfl)];simp only[go_sem,yS,gN N l2 (.inl rfl),ri,Z,U.ps,hk,hg,WL,jZ v,hn,qt,uL,QL,sf,O0];refine⟨aK,?_⟩;refine akm (L:=j) (D:=eR A) aa J nQ d9 d9 Q.symm rfl λb1 Gp H=>?_;have Y:=H 576000000 aa aa;have R:=H 576000128 aa aa;have B:=H 576128128 aa aa;have z:=H 576128065 aa aa;simp only[go_sem]at Y R B z;have CJ:I (j.map (jx x.gate 1 1))=I A:=by rw[ct];exact Q
 generalize j.map (jx x.gate 1 1)=f at*;have tk:List.take (I A) (bY f)=bY f:=by rw[<-CJ];exact lz f
 have u:=ym (F:Int) A f (eR A) J ((lL A).trans CJ.symm);have E:I (kj f (eR A))=I f:=Cv _ _;have jP:kj f (eR A)≠[]:=λe=>by rw[e]at E;simp only[fB]at E;omega
 simp only[pM];rw[oa (Ah jP)]at u |-;simp only[go_sem,Gp,Y,R,B,z,uL,tk,CJ,ri,wX,ya,gN u l4 (.inr (B6 _ _))];simp[iD,mM,kZ,kD,iN,bG,lg,oE,nq,lz]
def aoU{next:Nat->Nat}{n2 N:Nat}(m:B_ next n2 N){α:Type}{φ:Nat->α}(E:∀x,x<N->φ (next x)=φ x){R:aD}(O:∀x∈R,x<N)(L:(R.map φ).Nodup):I R<=I (eX next N):=by
 have Q:=CO next N;have M:∀x,x<N->∃(i:Nat) (w:aD),(eX next N)[i]?=some w/\x∈w/\BQ (eX next N) x=i:=λx n=>by obtain⟨w,Z,u⟩:=Fp.1 (Q.2 x n);obtain⟨i,H⟩:=gJ Z;exact⟨i,w,H,u,MA Q.1 H u⟩
 have f:∀a b,cM (λx y=>x<N/\y=next x) a b->φ a=φ b:=λa b h=>by
  induction h with
  |rel h=>rw[h.2,E _ h.1]
  |refl _=>rfl
  |symm _ ih=>exact ih.symm
  |trans _ _ D A=>exact D.trans A
 have mh:∀x,x<N->∀y,y<N->BQ (eX next N) x=BQ (eX next N) y->φ x=φ y:=λx n y F e=>by obtain⟨i,w,H,u,e1⟩:=M x n;obtain⟨j,v,T,B,X⟩:=M y F;rw[e1,X]at e;subst e;rw[H]at T;cases T;exact f x y (Uk m (λz Y=>.rel ⟨Y,rfl⟩) (a8 H) u B)
 have D:(R.map (BQ (eX next N))).Nodup:=by unfold List.Nodup at L |-;rw[BG]at L |-;refine L.imp_of_mem λ{x y} n F h e=>?_;exact h (mh x (O x n) y (O y F) e)
 have A:∀i∈R.map (BQ (eX next N)),i∈List.range (I (eX next N)):=λi H=>by grind
 have:=R5 _ _ D A;rwa[ct,xm]at this
def agd{R:Nat->Nat->Prop}{L:aD}(h:∀x,x<n->∃r∈L,cM R x r):bJ (cM R) n<=I L:=by
 have f:∀M:aD,M.Nodup->(∀x∈M,x<n/\rX (cM R) x)->∃N:aD,I N=I M/\N.Nodup/\ ∀r∈N,r∈L/\ ∃x∈M,cM R x r:=by
  intro M
  induction M with
  |nil=>intro _ _;exact⟨[],rfl,pW,aG⟩
  |cons a M F=>
   intro B j;obtain⟨Z,Q⟩:=qQ.1 B;obtain⟨N,m,u,v⟩:=F Q λx H=>j x mt;obtain⟨D,A⟩:=j a aG;obtain⟨r,y,e⟩:=h a D;refine⟨r::N,by simp[m],qQ.2 ⟨λT=>?_,u⟩,λq Y=>?_⟩
   .obtain⟨_,x,H,E⟩:=v r T;have X:=A x (e.trans E.symm);have e2:=(j x mt).2 a (E.trans e.symm)
    grind
   grind
 obtain⟨N,m,u,v⟩:=f _ (FN.filter _) λx H=>by obtain⟨O,z⟩:=rv.1 H;exact⟨fU.1 O,LR.1 z⟩
 unfold bJ;rw[Wn,<-m];exact R5 _ _ u λr y=>(v r y).1
def Tp(p:Nat->Nat)(x:Nat):∀i j,it p (i+j) x=it p i (it p j x):=by
 intro i j
 induction i with
 |zero=>rw[lh];rfl
 |succ i f=>rw[show i+1+j=(i+j)+1 by omega];show p _=p _;rw[f]
def au4{p:Nat->Nat}(h:it p m x=x):∀k,it p (k*m) x=x:=by
 intro k
 induction k with
 |zero=>rw[EF];rfl
 |succ k f=>rw[Nat.succ_mul,Tp,h,f]
def aD2{p:Nat->Nat}(h:uT n p){a b:Nat}(e:cM (iz n p) a b):a=b\/(a<n/\b<n/\ ∃k,it p k a=b):=by
 induction e with
 | @rel a b r=>obtain⟨H,rfl⟩:=r;exact .inr ⟨H,h.lt _ H,1,rfl⟩
 |refl _=>exact .inl rfl
 | @symm a b _ y=>
  rcases y with rfl|⟨H,u,k,f⟩
  .exact .inl rfl
  obtain⟨m,v⟩:=h.aff H;refine .inr ⟨u,H,k*m,?_⟩;rw[<-f,<-Tp,show k*m+k=k*(m+1) by rw[Nat.mul_succ]];exact au4 v k
 |trans _ _ i1 i2=>
  rcases i1 with rfl|⟨H,u,k,f⟩
  .exact i2
  rcases i2 with rfl|⟨_,z,j,x⟩
  .grind
  exact .inr ⟨H,z,j+k,by rw[Tp,f,x]⟩
theorem aCe{p:Nat->Nat}(h:uT n p){a b:Nat}(D:a≠b)(e:cM (iz n p) a b):¬cM (iz n (tr p (a,b))) a b:=by
 rcases aD2 h e with M|⟨A,B,O,Y⟩
 .exact absurd M D
 obtain⟨k,H,z⟩:=aqH (p:=λk=>it p k a=b) O Y;have v:1<=k:=by
  rcases Nat.eq_zero_or_pos k with rfl|h
  .exact absurd H D
  exact h
 have N:∀j,1<=j->j<=k->it p j a≠a:=λj u m E=>by
  rcases Nat.lt_or_eq_of_le m with c|rfl
  .have:it p (k-j) a=b:=by
    rw[<-H,show k=(k-j)+j by omega,Tp,E];congr 1;omega
   have:=z _ this;omega
  exact D (E.symm.trans H)
 have L:∀j,j<k->it p j a≠b:=λj u E=>by have:=z j E;omega
 intro Q;have inv:∀x y,iz n (tr p (a,b)) x y->(∃j,1<=j/\j<=k/\x=it p j a)=(∃j,1<=j/\j<=k/\y=it p j a):=by
  rintro x y ⟨F,rfl⟩
  apply propext;unfold tr;simp only;constructor
  .rintro ⟨j,u,m,rfl⟩
   rw[aE (N j u m)];by_cases c:it p j a=b
   .rw[aI c];exact⟨1,J,v,rfl⟩
   rw[aE c];refine⟨j+1,J,?_,rfl⟩;rcases Nat.lt_or_eq_of_le m with d|rfl
   .exact d
   exact absurd H c
  by_cases c:x=a
  .rw[aI c];rintro⟨j,u,m,E⟩
   exfalso;have:=h.inj _ _ B (h.KQ A (j-1)) aHW;by_cases d:j=1
   .subst d;exact D this.symm
   exact L (j-1) J this.symm
  rw[aE c];by_cases d:x=b
  .subst d;intro _;exact⟨k,v,cP _,H.symm⟩
  rw[aE d];rintro⟨j,u,m,E⟩
  have:=h.inj _ _ F (h.KQ A (j-1)) aHW;by_cases f:j=1
  .subst f;exact absurd this c
  exact⟨j-1,J,J,this⟩
 have:=Q.inv inv
 grind
def atb{p:Nat->Nat}(h:uT n p){a b:Nat}(H:a<n)(f:b<n)(D:a≠b):(bJ (cM (iz n (tr p (a,b)))) n+bJ (cM (iz n p)) n)%2=1:=by
 have one:∀x y,cM (uQ (iz n (tr p (a,b))) a b) x y↔cM (uQ (iz n p) a b) x y:=λx y=>by
  have h:=XU (p:=p) (S:=λ_ _=>False) H f (x:=x) (y:=y)
  grind
 have m:=NK one n;rcases Classical.em (cM (iz n p) a b)with c|c
 .grind [abU,aau,aCe]
 have j:=aau H f c;have u:=abU (alg h H f c) n;omega
def atO:∀(ts:pI) (p:Nat->Nat),uT n p->(∀t∈ts,t.1<n/\t.2<n/\t.1≠t.2)->(bJ (cM (iz n (ts.foldl tr p))) n+bJ (cM (iz n p)) n+I ts)%2=0:=by
 intro ts
 induction ts with
 |nil=>intro p _ _;simp only[ND,fB];omega
 |cons t ts m=>
  intro p hp j;obtain⟨a,b⟩:=t;obtain⟨f,H,D⟩:=j (a,b) aG
  replace f:a<n:=f
  replace H:b<n:=H
  replace D:a≠b:=D
  have E:=m _ (hp.tr f H) λt h=>j t ut;have u:=atb hp f H D;simp only[Ac,fF];omega
def nk(A:ae)(x:Nat):Nat:=aT A (eH x)
def xZ(k:Nat):pI:=(List.range k).map λe=>(2*e,2*e+1)
theorem aCG(q:Nat->Nat):∀k y,(xZ k).foldl tr q y=if y<2*k then q (eH y)else q y:=by
 intro k
 induction k with
 |zero=>intro y;rw[aE J];rfl
 |succ k f=>
  intro y;have e:xZ (k+1)=xZ k++[(2*k,2*k+1)]:=by unfold xZ;rw[mJ,iT];rfl
  rw[e,Bq,Ac,ND,LU]
  grind [s8,BT]
def cM.push{R j:Nat->Nat->Prop}{f:Nat->Nat}(h:∀a b,R a b->cM j (f a) (f b))(e:cM R x y):cM j (f x) (f y):=by
 induction e with
 |rel r=>exact h _ _ r
 |refl a=>exact .refl _
 |symm _ m=>exact m.symm
 |trans _ _ i1 i2=>exact i1.trans i2
section
variable {F:Nat} {A:ae}
def abR(ok:fY F A):uT (aX A) (nk A):=by
 have m:=nc ok;have H:∀y,y<aX A->eH y<aX A:=λy h=>by rw[FV A]at h |-;exact vi h
 refine⟨λy h=>m.lt _ (H y h),λx y f h e=>?_⟩;have:=m.inj _ _ (H x f) (H y h) e;rw[<-vz x,this,vz]
abbrev DD(ls:ae):Nat:=I ls+I (aA ls)
def alP(h:y<aX A):(xZ (DD A)).foldl tr (nk A) y=aT A y:=by grind [aCG,nk,vz]
def azP(x y:Nat):cM (iz (aX A) ((xZ (DD A)).foldl tr (nk A))) x y↔cM (iz (aX A) (aT A)) x y:=
 ⟨cM.mono λa b r=>by obtain⟨h,rfl⟩:=r;exact .rel ⟨h,alP h⟩,cM.mono λa b r=>by obtain⟨h,rfl⟩:=r;exact .rel ⟨h,(alP h).symm⟩⟩
def aoV{k:Nat}:∀t∈xZ k,t.1<2*k/\t.2<2*k/\t.1≠t.2:=by
 intro t h;obtain _:=c_.1 h
 grind
def aBv(ok:fY F A):bJ (cM (iz (aX A) (aT A))) (aX A)=fV A:=by
 obtain⟨E,m⟩:=CO (aT A) (aX A);have T:∀w∈eX (aT A) (aX A),w≠[]:=λw H=>by obtain⟨⟨d,t,e,_⟩,_⟩:=xR ok w H;rw[e];simp
 have h:I ((eX (aT A) (aX A)).map (·.headD 0))=fV A:=by rw[ct];rfl
 refine Z4 ?_ ?_
 .rw[<-h];refine agd λx j=>?_;obtain⟨w,H,v⟩:=Fp.1 (m x j);obtain⟨⟨d,t,e,_⟩,_⟩:=xR ok w H;refine⟨w.headD 0,c_.2 ⟨w,H,rfl⟩,?_⟩;exact Uk (nc ok) (λy n=>.rel ⟨n,rfl⟩) H v ii
 rw[<-h];refine Wm (f:=BQ (eX (aT A) (aX A))) ?_ (λx j=>?_) ?_
 .rintro a b ⟨D,rfl⟩
  obtain⟨u,z,B⟩:=Fp.1 (m a D);obtain⟨i,M⟩:=gJ z
  grind [MA,uB,nc]
 .obtain⟨w,H,rfl⟩:=c_.1 j;obtain⟨⟨d,t,e,L⟩,_⟩:=xR ok w H
  grind
 rw[al4 E T];exact FN
abbrev F8(ls:ae):Nat->Nat->Prop:=iz (aX ls) (nk ls)
def acT(H:v<I A)(g:Bool):dS (I A) v g<aX A:=by
 have h:=zi H (!g)
 grind [tX,vi,vz]
def afq(v:Nat)(g:Bool):nk A (dS (I A) v g)=aT A (jB (I A) v (!g)):=by unfold nk;rw[tX]
def aBn(ok:fY F A)(h:v<I A):cM (F8 A) (dS (I A) v true) (dS (I A) v false):=by
 obtain _:=aP h;have:nk A (nk A (dS (I A) v true))=dS (I A) v false:=by rw[afq];exact X6 ok h false
 rw[<-this];exact(cM.rel ⟨acT h true,rfl⟩).trans (.rel ⟨(abR ok).lt _ (acT h true),rfl⟩)
def TM(ok:fY F A)(H:v<I A)(g h:Bool):cM (F8 A) (dS (I A) v g) (dS (I A) v h):=by
 have e:=aBn ok H;cases g<;>cases h
 .exact .refl _
 .exact e.symm
 .exact e
 exact .refl _
theorem aFV(ok:fY F A){l:U}(hl:A[v]?=some l)(h:l.au):cM (F8 A) (dS (I A) v true) (dS (I A) (iV A v) true):=by
 obtain⟨n,m,H,j,u,f,M⟩:=qy ok.cr hl h;have:nk A (dS (I A) v true)=dS (I A) (iV A v) (false==(l.over==(l.sign==1))):=by rw[afq,yZ hl h];rfl
 exact(cM.rel ⟨acT ((bN.1 hl).1) true,this.symm⟩).trans (TM ok ((bN.1 H).1) _ _)
theorem aDZ(ok:fY F A){k:Nat}(H:k<I (aA A)):cM (F8 A) (2*I A+2*k) (dS (I A) ((aA A).getD k 0) true):=by
 obtain⟨l,h,f⟩:=z_ H;have:nk A (2*I A+2*k)=dS (I A) ((aA A).getD k 0) (dn A ((aA A).getD k 0)):=by unfold nk;rw[show 2*I A+2*k=2*(I A+k) by omega,s8,show 2*(I A+k)+1=2*I A+2*k+1 by omega,D3]
 exact aIH
theorem ax4(ok:fY F A){k:Nat}(H:k<I (aA A)):cM (F8 A) (2*I A+2*k+1) (dS (I A) ((aA A).getD ((k+1)%I (aA A)) 0) true):=by
 obtain⟨l,h,f⟩:=z_ (dB _ (show 0<I (aA A) by omega));have:nk A (2*I A+2*k+1)=dS (I A) ((aA A).getD ((k+1)%I (aA A)) 0) (!dn A ((aA A).getD ((k+1)%I (aA A)) 0)):=by unfold nk;rw[show 2*I A+2*k+1=2*(I A+k)+1 by omega,BT,show 2*(I A+k)=2*I A+2*k by omega,CE]
 exact aIH
def awh(ok:fY F A)(y:x<aX A):∃v,v<I A/\cM (F8 A) x (dS (I A) v true):=by
 by_cases c:x<2*I A
 .have m:=vi c;obtain⟨v,f,hv,e⟩:∃v f,v<I A/\eH x=jB (I A) v f:=⟨_,_,by
   split
   .exact dB _ J
   omega,IN m⟩
  have:x=dS (I A) v (!f):=by rw[<-aGd,<-e,vz]
  exact⟨v,hv,by rw[this];exact TM ok hv _ _⟩
 have u:aX A=2*I A+2*I (aA A):=rfl;have j:(x-2*I A)/2<I (aA A):=J;rcases rN x with h|h
 .obtain⟨l,H,n⟩:=z_ j;refine⟨_,(bN.1 H).1,?_⟩
  grind [aDZ]
 obtain⟨l,H,n⟩:=z_ (dB ((x-2*I A)/2+1) (show 0<I (aA A) by omega));refine⟨_,(bN.1 H).1,?_⟩
 grind [ax4]
def aGn(ok:fY F A):∃L:aD,I L=aq U.ay A+aq U.au A/2/\(∀j∈L,j<I A)/\(L.map (l7 A)).Nodup/\ ∀v,v<I A->∃j∈L,l7 A j=l7 A v:=by
 have u:=ok.cr;unfold oH at u;simp only[cF,cW]at u;obtain⟨L,R,D,z⟩:=aiw ok;refine⟨L,R,D,z,λv f=>?_⟩
 let E:jn:=(aA A).map (λi:Nat=>((0:Int),(i:Int)))++(gL A (I A)).map λid=>((1:Int),id)
 have Z:I E=aq U.ay A+aq U.au A/2:=by simp only[E,iM,ct,Ea,u.2]
 have B:∀v,v<I A->l7 A v∈E:=λv f=>by
  obtain⟨l,hl⟩:=aP f;unfold l7;rw[hl];rcases ok.kinds l (a8 hl)with hp|y
  .simp only[oV hp,iJ,if_false];exact Hw _ (c_.2 ⟨v,sX.2 ⟨l,hl,hp⟩,rfl⟩)
  simp only[y,if_true];refine vv _ (c_.2 ⟨l.id,?_,rfl⟩);exact(H4 (cP _)).2 ⟨v,l.over,f,by rw[Li hl y];simp⟩
 refine Classical.byContradiction λM=>?_;have m:l7 A v∉L.map (l7 A):=λh=>by obtain⟨j,n,e⟩:=c_.1 h;exact M ⟨j,n,e⟩
 have Q:∀(X Y:jn),X.Nodup->(∀x∈X,x∈Y)->I X<=I Y:=by
  intro X
  induction X with
  |nil=>intro Y _ _;exact bj _
  |cons a X T=>
   intro Y m af;obtain⟨O,N⟩:=qQ.1 m;have ha:=af a aG;have:=T (Y.erase a) N λx H=>(RN (by rintro rfl;exact O H)).2 (af x mt)
   grind
 have:=Q (l7 A v::L.map (l7 A)) E (qQ.2 ⟨m,z⟩) λx H=>by
  rcases dh.1 H with rfl|H
  .exact B v f
  obtain⟨j,n,rfl⟩:=c_.1 H;exact B j (D j n)
 grind
def aqY(ok:fY F A)(z:u<I A)(E:v<I A)(e:l7 A u=l7 A v):cM (F8 A) (dS (I A) v true) (dS (I A) u true):=by
 obtain⟨l,hl⟩:=aP z;obtain⟨m,H⟩:=aP E;unfold l7 at e;rw[hl,H]at e;cases f:l.au<;>cases h:m.au
 .simp only[f,h,iJ,if_false,nR,true_and]at e;have:u=v:=J;subst this;exact .refl _
 .simp[f,h]at e
 .simp[f,h]at e
 simp only[f,h,if_true,nR,true_and]at e;have j:=ok.cr;have hp:Jj A:=by unfold oH at j;simp at j;exact(IH.1 j.1.2).2
 by_cases n:u=v
 .subst n;exact .refl _
 obtain⟨O,w,x,D,y,wo,M⟩:=qy ok.cr H h;have:iV A v=u:=by
  refine Classical.byContradiction λB=>?_;have N:=(hp _ _ w l x hl D f (by rw[y,e]) B).1;have L:=(hp _ _ l m hl H f h e n).1
  grind
 grind [aFV]
def aFp(ok:fY F A):bJ (cM (F8 A)) (aX A)=aq U.ay A+aq U.au A/2:=by
 obtain⟨L,M,u,N,B⟩:=aGn ok;have h:I (L.map (2* ·))=aq U.ay A+aq U.au A/2:=by rw[ct,M]
 refine Z4 ?_ ?_
 .rw[<-h];refine agd λx n=>?_;obtain⟨v,z,e⟩:=awh ok n;obtain⟨j,H,E⟩:=B v z;exact⟨2*j,c_.2 ⟨j,H,rfl⟩,e.trans (aqY ok (u j H) z E)⟩
 rw[<-h];refine Wm (f:=λx=>l7 A (oc A (eH x))) ?_ (λx n=>?_) ?_
 .rintro a b ⟨D,rfl⟩
  exact(X7 ok ((λy m=>by rw[FV A]at m |-;exact vi m) a D)).1.symm
 .grind
 rw[kU];have:L.map ((λx=>l7 A (oc A (eH x))) ∘ (2* ·))=L.map (l7 A):=s7 λj H=>by
  have:=DW (u j H) false
  grind [s8,jB]
 rw[this];exact N
def azx(ok:fY F A):bJ (cM (AN (aX A) (nk A) (xZ (DD A)))) (aX A)<=1:=by
 refine anK λx j=>?_;obtain⟨b,H⟩:=aa9 (p:=λ_=>false) (λ_=>rfl) ok j;have:=(H 0 aa).push (j:=AN (aX A) (nk A) (xZ (DD A))) (f:=λy=>y/2) ?_
 .grind [je]
 intro u v r;rcases r with _|r
 .refine .rel (.inl ⟨J,?_⟩)
  grind [wy,nk,je]
 refine .rel (.inr ?_);obtain⟨e,h,m⟩:=qx.1 r;have n:(2*e,2*e+1)∈xZ _:=c_.2 ⟨e,h,rfl⟩
 grind [MQ,LH]
def aFW(ok:fY F A):fV A<=aq U.ay A+aq U.au A/2+2/\(fV A+(aq U.ay A+aq U.au A/2))%2=0:=by
 have E:=aot (xZ (DD A)) _ (abR ok) λt h=>by
  have:=aoV t h
  grind
 have j:=atO (xZ _) _ (abR ok) λt h=>by have:=aoV t h;rw[FV A];exact this
 have hl:I (xZ (DD A))=I A+I (aA A):=by simp[xZ]
 rw[NK azP,aBv ok,show bJ _ _=_ from aFp ok,hl]at E j;have m:=azx ok;have H:=Vm ok;have kG:=Ea (h:=A);have f:=ok.cr;unfold oH at f
 grind
end
structure eN where
 l:Nat
 r:Nat
 b:Bool
structure aR where
 p:aQ
 i:eN
 o:eN
abbrev f_:=List aR
abbrev aR.k(x:aR):U:=x.p.l
def jN:eN->f_->eN->Prop
 |s,[],t=>s=t
 |s,x::r,t=>x.i=s/\jN x.o r t
def Bj{s t:eN}{a b:f_}:jN s (a++b) t↔ ∃m,jN s a m/\jN m b t:=by
 induction a generalizing s with
 |nil=>exact⟨λh=>⟨s,rfl,h⟩,λ⟨m,f,H⟩=>by cases f;exact H⟩
 |cons x a j=>grind [jN]
def asj{s:eN}{a b:f_}(h:jN s (a++b) s):∃m,jN m (b++a) m:=by obtain⟨m,H,f⟩:=Bj.1 h;exact⟨m,Bj.2 ⟨s,f,H⟩⟩
structure xN (g:Bool) (i o j q:eN):Prop where
 a:if g then i.l=q.l else i.l=j.r
 b:if g then o.r=j.r else o.r=q.l
 c:if g then j.l=i.r else j.l=o.l
 d:if g then q.r=o.l else q.r=i.r
def c3 (l:U):Bool:=l.over==(l.sign==1)
structure A4 (x y:aR):Prop where
 ov:x.k.over= !y.k.over
 sg:x.k.sign=y.k.sign
 x4:xN (c3 x.k) x.i x.o y.i y.o
def A4.symm{x y:aR}(h:A4 x y):A4 y x:=by
 obtain⟨j,f,a,b,c,d⟩:=h;have e:c3 y.k= !c3 x.k:=aIy
 refine⟨by rw[j];simp,f.symm,?_⟩;rw[e];cases H:c3 x.k
 .rw[H]at a b c d;constructor<;>simp
  .exact c
  .exact d
  .exact a
  exact b
 rw[H]at a b c d;constructor<;>simp
 .exact c
 .exact d
 .exact a
 exact b
def mv(s:eN):eN:=⟨s.r,s.l,s.b⟩
def aR.up(x:aR):eN:=if x.p.d then x.i else mv x.o
def aR.lo(x:aR):eN:=if x.p.d then x.o else mv x.i
structure zR (F:Nat) (x:aR):Prop where
 bad:eK F x.k=false
 cb:x.k.au->x.i.b=x.o.b
 pb:x.k.ay->x.o.b=x.p.d/\x.i.b= !x.p.d
def pD (x y:aR):Prop:=x.k.au=true->y.k.au->x.k.id=y.k.id->A4 x y
def pD.symm{x y:aR}(h:pD x y):pD y x:=λa b c=>(h b a c.symm).symm
def Az (x y:aR):Prop:=x.k.ay=true->y.k.ay->x.k.gate=y.k.gate->x.k.ao≠y.k.ao
def Az.symm{x y:aR}(h:Az x y):Az y x:=λa b c d=>h b a c.symm d.symm
structure DJ (T B:Nat->Nat->Nat) (x:aR):Prop where
 wt:x.up.r=T x.k.gate.toNat (x.k.ao.toNat-1)
 et:x.up.l=T x.k.gate.toNat x.k.ao.toNat
 wb:x.lo.r=B x.k.gate.toNat (x.k.ao.toNat-1)
 eb:x.lo.l=B x.k.gate.toNat x.k.ao.toNat
abbrev aO(z:f_):ae:=z.map aR.k
structure iH (F:Nat) (z:f_) (T B:Nat->Nat->Nat) (S:aD):Prop where
 path:∃s,jN s z s
 ok:∀x∈z,zR F x
 cr:z.Pairwise pD
 ev:aq U.au (aO z)%2=0
 ids:∀x∈z,x.k.au->1<=x.k.id/\x.k.id<=((aq U.au (aO z)/2:Nat):Int)
 rk:z.Pairwise Az
 rr:∀x∈z,x.k.ay->1<=x.k.ao/\x.k.ao<=(aZ (aO z) x.k.gate.toNat:Int)
 pl:∀x∈z,x.k.ay->DJ T B x
 gt:∀g,g<F->T g (aZ (aO z) g)=T (g+1) 0/\B g (aZ (aO z) g)=B (g+1) 0
 gz:T F (aZ (aO z) F)=T 0 0/\B F (aZ (aO z) F)=B 0 0
 one:∃x∈z,x.k.ay
 nd:S.Nodup
 wit:∀s∈S,∃x∈z,s=x.o.l\/s=x.o.r
 num:aq U.ay (aO z)+aq U.au (aO z)/2+1<=I S
def jt(F:Nat)(l:bK):Prop:= ∃z T B S,z.map aR.p=l/\iH F z T B S
def wO{p:U->Bool}{z Z:f_}(h:z.Perm Z):aq p (aO z)=aq p (aO Z):=(h.map aR.k).countP_eq p
def iH.perm{z Z:f_}{S:aD}(c:iH F z T B S)(h:z.Perm Z)(hp:∃s,jN s Z s):iH F Z T B S:=by
 have f:∀ {x},x∈Z↔x∈z:=λ{x}=>h.symm.mem_iff;have e:∀p,aq p _=aq p _:=λp=>(wO h).symm;have E:∀g,aZ _ g=aZ _ g:=λg=>e _;refine⟨hp,λx H=>c.ok x (f.1 H),(h.pairwise_iff λ{x y}=>pD.symm).1 c.cr,by rw[e];exact c.ev,λx H=>by rw[e];exact c.ids x (f.1 H),(h.pairwise_iff λ{x y}=>Az.symm).1 c.rk,
  λx H=>by rw[E];exact c.rr x (f.1 H),λx H=>c.pl x (f.1 H),λg m=>by rw[E];exact c.gt g m,by rw[E];exact c.gz,?_,c.nd,λs af=>?_,by rw[e,e];exact c.num⟩
 .obtain⟨x,H,j⟩:=c.one;exact⟨x,f.2 H,j⟩
 obtain⟨x,H,j⟩:=c.wit s af;exact⟨x,f.2 H,j⟩
def iH.nk{a b:f_}{S:aD}(c:iH F (a++b) T B S):iH F (b++a) T B S:=by obtain⟨s,h⟩:=c.path;exact c.perm (Jm) (asj h)
def jt.nk{a b:bK}(c:jt F (a++b)):jt F (b++a):=by obtain⟨z,T,B,S,h,c⟩:=c;obtain⟨x,y,rfl,rfl,rfl⟩:=XO.1 h;exact⟨y++x,T,B,S,by rw[iT],c.nk⟩
def aHq:∀ {z:f_}{s t:eN},(∀x∈z,zR F x)->jN s z t->s.b=false->t.b->∃x∈z,x.k.ay/\x.p.d:=by
 intro z
 induction z with
 |nil=>intro s t _ h f H;cases h;rw[f]at H;cases H
 |cons x z u=>
  intro s t ok h f H;obtain⟨rfl,h⟩:=h;have O:=ok x aG;by_cases m:x.k.ay/\x.p.d
  .grind
  have n:x.o.b=false:=by
   rcases Dy O.bad with hp|j
   .rw[(O.pb hp).1]
    grind
   rw[<-O.cb j];exact f
  grind
def iH.down{z:f_}{S:aD}(c:iH F z T B S):∃x∈z,x.k.ay/\x.p.d:=by
 obtain⟨x,j,hp⟩:=c.one;cases f:x.p.d
 .obtain⟨a,b,rfl⟩:=List.append_of_mem j;obtain⟨s,h⟩:=(c.nk).path;obtain⟨rfl,h⟩:=h;obtain⟨E,m⟩:=(c.ok x aG).pb hp;rw[f]at E m;obtain⟨y,H,e⟩:=aHq (λy H=>c.ok y (by
   rcases iI.1 H with H|H
   .simp[H]
   simp[H])) h E m
  refine⟨y,?_,e⟩;rcases iI.1 H with H|H
  .simp[H]
  simp[H]
 exact⟨x,j,hp,f⟩
theorem Xd{l:bK}{f:Nat}(hf:f<=I l):tg l f (I l)=(l.drop f++l.take f).map aQ.l:=by
 apply qO;intro i;by_cases j:i<I l
 .have h:(tg l f (I l))[i]?=some (l.getD ((f+i)%I l) ⟨jJ,false⟩).l:=by
   simp[tg,j]
  rw[h,fX];by_cases H:f+i<I l
  .rw[yY fd,E3,fC H];simp[H]
  rw[uJ fd,sD];have m:(f+i)%I l=i-(I l-f):=by rw[Sg J,fC J];omega
  grind
 have h:I (tg l f (I l))=I l:=by simp[tg]
 rw[pS aIt,pS fd]
def jt.fin{l:bK}(c:jt F l):∃z T B S x r,z=x::r/\x.k.ay/\x.p.d/\aO z=ch l/\I z=I l/\iH F z T B S:=by
 obtain⟨z,T,B,S,h,c⟩:=c;subst h;obtain⟨x,v,hp,D⟩:=c.down;have E:∀y:aR,y.k.ay=(y.p.l.kind==1):=λy=>rfl;obtain⟨j,n⟩:=gJ v;have R:=(bN.1 n).1;obtain⟨f,hf⟩:∃f,sU (z.map aR.p)=some f:=by
  cases h:sU (z.map aR.p)with
  |some f=>exact⟨f,rfl⟩
  |none=>
   have:=Fw.1 h j (by simpa using R);rw[H_ (by rw[fX,n];rfl)]at this
   grind [Av]
 have H:=BK hf;have u:f<I z:=by
  have:=AP hf
  simpa using this
 obtain⟨y,m⟩:=bN.2 ⟨u,rfl⟩ |> λh=>(⟨_,h⟩:∃y,z[f]?=some y)
 rw[H_ (by rw[fX,m];rfl)]at H;unfold Av at H;rw[cF]at H;have A:z=z.take f++y::z.drop (f+1):=by obtain⟨hl,e⟩:=bN.1 m;rw[<-e,yK,mW]
 have Z:z.drop f=y::z.drop (f+1):=ii
 refine⟨y::z.drop (f+1)++z.take f,T,B,S,y,z.drop (f+1)++z.take f,rfl,H.1,H.2,?_,?_,?_⟩
 .unfold ch;rw[hf,mw,Xd In,<-Z];simp only[iT,uN,uC,kU];rfl
 .grind
 rw[A]at c;exact c.nk
def aE1(x:aq U.au A%2=0)(n:abg A)(hp:Jj A):oH A:=by
 rw[aa0 x (IH.2 ⟨n,hp⟩)];have Z:=Y2 A;have H:∀id∈gL A (I A),aq (qm id) A<=2:=λid _=>by grind [Vz,HB]
 have L:=ag6 _ H;have z:I (gL A (I A))<=aq U.au A/2:=by
  have B:∀id∈gL A (I A),1<=id/\id<=((aq U.au A/2:Nat):Int):=λid f=>by obtain⟨j,o,F,u⟩:=(H4 (cP _)).1 f;obtain⟨m,v,y,M,_⟩:=FG u;rw[<-M];exact n m (a8 v) y
  have:=R5 ((gL A (I A)).map Int.toNat) (List.range' 1 (aq U.au A/2)) ?_ ?_
  .grind
  .refine BG.2 (List.Pairwise.imp_of_mem (λ{a b} E D h e=>h ?_) (Vp A (I A)))
   grind
  grind
 grind
theorem Rr{s t:eN}{z:f_}{x:aR}(h:jN s z t)(H:z[0]?=some x):x.i=s:=by
 cases z with
 |nil=>cases H
 |cons y z=>cases H;exact h.1
def afE:∀ {z:f_}{s t:eN}{i:Nat}{x y:aR},jN s z t->z[i]?=some x->z[i+1]?=some y->x.o=y.i:=by
 intro z
 induction z with
 |nil=>intro s t i x y _ H;cases H
 |cons a z j=>
  intro s t i x y h H f;cases i with
  |zero=>cases H;exact(Rr h.2 f).symm
  |succ i=>exact j h.2 H f
theorem OM:∀ {z:f_}{s t:eN}{x:aR},jN s z t->z[I z-1]?=some x->x.o=t:=by
 intro z
 induction z with
 |nil=>intro s t x _ H;cases H
 |cons a z f=>
  intro s t x h H;cases z with
  |nil=>cases H;exact h.2
  |cons b z=>exact f h.2 H
def aoA{z:f_}{s:eN}{x y:aR}(h:jN s z s)(f:z[j]?=some x)(H:z[(j+1)%I z]?=some y):x.o=y.i:=by
 by_cases c:j+1<I z
 .rw[fC c]at H;exact afE h f H
 grind [yN,OM,Rr]
def AT{z:f_}{i:Nat}{x:aR}(h:z[i]?=some x):(aO z)[i]?=some x.k:=by rw[fX,h];rfl
def Fv{z:f_}{i:Nat}{l:U}(h:(aO z)[i]?=some l):∃x,z[i]?=some x/\x.k=l:=by grind
def Ok{z:f_}{s t:eN}(ok:∀x∈z,zR F x)(h:jN s z t)(af:s.b=false):∀i x,z[i]?=some x->x.i.b= !dn (aO z) i/\x.o.b= !dn (aO z) (i+1):=by
 have step:∀i x,z[i]?=some x->x.i.b=(!dn (aO z) i)->x.o.b= !dn _ _:=λi x H m=>by
  have O:=ok x (a8 H);rcases Dy O.bad with hp|f
  .rw[Gs (AT H) hp,FU,(O.pb hp).1];have:=(O.pb hp).2
   grind
  rw[Nw (AT H) (by
   cases hp:x.k.ay
   .rfl
   rw[oV hp]at f;cases f),<-m,O.cb f]
 intro i
 induction i with
 |zero=>
  intro x H;have:x.i.b= !dn (aO z) 0:=by rw[Rr h H,af];rfl
  grind
 |succ i n=>
  intro y j;obtain⟨x,H⟩:=aP (h:=z) (k:=i) ii;have e:=(n x H).2;rw[afE h H j]at e
  grind
def apr(hf:∀g,g<F->f g (aZ A g)=f (g+1) 0):∀(d g k g' j:Nat),g'=g+d->g'<=F->k<=aZ A g->j<=aZ A g'->dX A g+k=dX A g'+j->f g k=f g' j:=by
 intro d
 induction d with
 |zero=>simp_all
 |succ d n=>
  intro g k g' j e u m D h;have H:=Ai (h:=A) (show g+1<=g' by omega);have af:=qR A g
  grind
def MH(hf:∀g,g<F->f g (aZ A g)=f (g+1) 0){g k g' j:Nat}(n:g<=F)(m:g'<=F)(H:k<=aZ A g)(D:j<=aZ A g')(h:dX A g+k=dX A g'+j):f g k=f g' j:=by
 rcases Nat.le_total g g' with c|c
 .exact apr hf (g'-g) g k g' j J m H D h
 exact(apr hf (g-g') g' j g k J n D H h.symm).symm
def PL:aR:=⟨⟨jJ,false⟩,⟨0,0,false⟩,⟨0,0,false⟩⟩
def js(z:f_)(x:Nat):Nat:=
 if x<2*I z then(if x%2=0 then(z.getD (x/2) PL).o.l else(z.getD (x/2) PL).o.r)
 else if x%2=0 then(z.getD ((aA (aO z)).getD ((x-2*I z)/2) 0) PL).up.l else(z.getD ((aA (aO z)).getD ((x-2*I z)/2) 0) PL).lo.l
def akh{z:f_}{i:Nat}{x:aR}(h:z[i]?=some x):z.getD i PL=x:=by rw[dM,h];rfl
section
variable {F:Nat} {z:f_} {s:eN}
def Zc(h:jN s z s){x:aR}(H:z[v]?=some x)(g:Bool):js z (dS (I z) v g)=if g then x.o.l else x.i.r:=by
 have f:=(bN.1 H).1;cases g with
 |true=>
  show js z (2*v)=_;unfold js
  grind
 |false=>
  show js z (2*((v+I z-1)%I z)+1)=_;obtain⟨y,j⟩:=aP (h:=z) (dB (v+I z-1) (show 0<I z by omega));have e:=aoA h j (by rw[yW f];exact H);unfold js
  grind
def aDB(h:jN s z s){x:aR}(H:z[v]?=some x)(g:Bool):js z (jB (I z) v g)=if g then x.i.l else x.o.r:=by
 have f:=(bN.1 H).1;cases g with
 |false=>
  show js z (2*v+1)=_;unfold js
  grind
 |true=>
  show js z (2*((v+I z-1)%I z))=_;obtain⟨y,j⟩:=aP (h:=z) (dB (v+I z-1) (show 0<I z by omega));have e:=aoA h j (by rw[yW f];exact H);unfold js
  grind
def Xu{k:Nat}{x:aR}(h:(aA (aO z)).getD k 0=v)(H:z[v]?=some x):js z (2*I z+2*k)=x.up.l:=by
 unfold js
 grind
def YT{k:Nat}{x:aR}(h:(aA (aO z)).getD k 0=v)(H:z[v]?=some x):js z (2*I z+2*k+1)=x.lo.l:=by
 unfold js
 grind
def iH.K7{S:aD}(c:iH F z T B S){i:Nat}{x y:aR}(v:z[i]?=some x)(m:z[j]?=some y)(u:i≠j):pD x y/\Az x y:=by
 obtain⟨f,E⟩:=bN.1 v;obtain⟨H,n⟩:=bN.1 m;subst E n;rcases SD u with h|h
 .exact⟨KD.1 c.cr i j f H h,KD.1 c.rk i j f H h⟩
 exact⟨(KD.1 c.cr j i H f h).symm,(KD.1 c.rk j i H f h).symm⟩
def iH.fg{S:aD}(c:iH F z T B S){x:aR}(h:x∈z)(hp:x.k.ay):ub F (aO z) x.k:=by obtain⟨⟨⟨⟨g0,g1⟩,_⟩,_⟩,_⟩:=(nu hp).1 (c.ok x h).bad;obtain⟨r0,r1⟩:=c.rr x h hp;exact⟨g0,g1,r0,r1⟩
def iH.dg{S:aD}(c:iH F z T B S)(hl:I z<=1000000):fY F (aO z):=by
 refine⟨by rw[ct];exact hl,⟨λl hl hp=>?_,λi j l m n u pl v e=>?_⟩,aE1 c.ev (λl hl M=>?_) (λi j l m n u D E e f=>?_),λl hl=>?_⟩
 .obtain⟨x,h,rfl⟩:=c_.1 hl;exact c.fg h hp
 .obtain⟨x,h,rfl⟩:=Fv n;obtain⟨y,H,rfl⟩:=Fv u;refine Decidable.byContradiction λf=>?_;obtain⟨L,A⟩:=(C3 (c.fg (a8 h) pl) (c.fg (a8 H) v)).1 e;exact(c.K7 h H f).2 pl v L A
 .obtain⟨x,h,rfl⟩:=c_.1 hl;exact c.ids x h M
 .obtain⟨x,h,rfl⟩:=Fv n;obtain⟨y,H,rfl⟩:=Fv u;have:=(c.K7 h H f).1 D E e;refine⟨?_,this.sg⟩;rw[this.ov];cases y.k.over<;>simp
 obtain⟨x,h,rfl⟩:=c_.1 hl;exact Dy (c.ok x h).bad
def iH.xk{S:aD}(c:iH F z T B S):xk F (aO z):=λl hl hp=>by obtain⟨x,h,rfl⟩:=c_.1 hl;exact((nu hp).1 (c.ok x h).bad).1.1.1
def iH.Tw{S:aD}(c:iH F z T B S)(hl:I z<=1000000){k:Nat}{x y:aR}(E:(aA (aO z))[k]?=some u)(hv:(aA (aO z))[(k+1)%I (aA (aO z))]?=some v)(n:z[u]?=some x)(j:z[v]?=some y):x.up.l=y.up.r/\x.lo.l=y.lo.r:=by
 have ok:=c.dg hl;have hk:=(bN.1 E).1;obtain⟨l,N,O,Y⟩:=v_ ok.ax E;obtain⟨m,L,D,M⟩:=v_ ok.ax hv;rw[AT n]at N;cases N;rw[AT j]at L;cases L;have gx:=c.fg (a8 n) O;have R:=c.fg (a8 j) D;have A:=c.pl x (a8 n) O;have Q:=c.pl y (a8 j) D;obtain⟨x1,x2,x3,x4⟩:=gx;obtain⟨y1,y2,y3,y4⟩:=R;have h:∀f:Nat->Nat->Nat,(∀g,g<F->f g (aZ (aO z) g)=f (g+1) 0)->f F (aZ (aO z) F)=f 0 0->f x.k.gate.toNat x.k.ao.toNat=f y.k.gate.toNat (y.k.ao.toNat-1):=by
  intro f hf Z;unfold dN at Y M;by_cases X:k+1<I (aA (aO z))
  .rw[fC X]at M;exact MH hf J J J J J
  have hT:=CF c.xk;have af:=qR (aO z) F;have:k+1=I (aA (aO z)):=J;rw[this,yN]at M;rw[MH hf (g:=x.k.gate.toNat) (k:=x.k.ao.toNat) (g':=F) (j:=aZ (aO z) F) J (cP _) J (cP _) J,Z];exact MH hf (bj _) J (bj _) J (by show 0+0=_;omega)
 exact⟨by rw[A.et,Q.wt];exact h T (λg H=>(c.gt g H).1) c.gz.1,by rw[A.eb,Q.wb];exact h B (λg H=>(c.gt g H).2) c.gz.2⟩
def iH.walk{S:aD}(c:iH F z T B S)(hl:I z<=1000000)(h:jN s z s)(af:s.b=false)(hx:x<aX (aO z)):js z (aT (aO z) x)=js z x:=by
 have ok:=c.dg hl;have N:I (aO z)=I z:=ct ..;have hN:aX (aO z)=2*I z+2*I (aA (aO z)):=by unfold aX;rw[N]
 have iE:=Ok c.ok h af;by_cases c1:x<2*I z
 .obtain⟨v,E,hv,rfl⟩:∃v E,v<I z/\x=jB (I z) v E:=⟨_,_,by
   split
   .exact dB _ J
   omega,IN c1⟩
  obtain⟨e,H⟩:=aP (h:=z) hv;have f:=AT H;have oe:=c.ok e (a8 H);rw[aDB h H];rcases Dy oe.bad with hp|Z
  .have L:dn (aO z) v=e.p.d:=by
    have:=(iE v e H).1;rw[(oe.pb hp).2]at this;revert this;cases e.p.d<;>cases dn (aO z) v<;>simp
   obtain⟨a1,a2⟩:=F2 ok f hp;have t:=El f hp E;rw[N]at t;rw[t,L];by_cases O:(e.p.d==E)
   .rw[aI O,Xu a2 H];unfold aR.up;have:=eq_of_beq O;subst this;cases e.p.d<;>rfl
   rw[aE O];have D:=dB ((aA (aO z)).idxOf v+I (aA (aO z))-1) (show 0<I (aA (aO z)) by omega);obtain⟨u,n⟩:=aP D;obtain⟨l,u1,u2⟩:=sX.1 (a8 n);obtain⟨y,j,rfl⟩:=Fv u1;have KC:(aA (aO z))[(aA (aO z)).idxOf v]?=some v:=by obtain⟨q,hq⟩:=aP a1;rw[dM,hq]at a2;rw[hq];exact congrArg some a2
   have:=(c.Tw hl n (by rw[yW a1];exact KC) j H).2;rw[YT (by rw[dM,n];rfl) j,this];unfold aR.lo;revert O;cases e.p.d<;>cases E<;>simp[mv]
  obtain⟨b1,m,D,mc,mi,mo,ms⟩:=qy ok.cr f Z;obtain⟨y,j,rfl⟩:=Fv D;have aN:v≠iV (aO z) v:=by intro ee;rw[<-ee,f]at D;have:=mQ D;rw[<-this]at mo;revert mo;cases e.k.over<;>simp
  obtain⟨_,_,X,xb,xc,xd⟩:=(c.K7 H j aN).1 Z mc mi.symm;have t:=yZ f Z E;rw[N]at t;rw[t,Zc h j];unfold c3 at X xb;cases hg:(e.k.over==(e.k.sign==1))<;>rw[hg]at X xb<;>simp only[iJ,if_false,if_true]at X xb<;>cases E<;>simp_all
 have hk:(x-2*I z)/2<I (aA (aO z)):=J;obtain⟨u,n⟩:=aP hk;obtain⟨l,u1,u2⟩:=sX.1 (a8 n);obtain⟨e,H,rfl⟩:=Fv u1;have R:(aA (aO z)).getD ((x-2*I z)/2) 0=u:=by rw[dM,n];rfl
 rcases rN x with yJ|yJ
 .have M:x=2*I z+2*((x-2*I z)/2):=J;have D:=dB ((x-2*I z)/2+1) (show 0<I (aA (aO z)) by omega);obtain⟨w,hw⟩:=aP D;obtain⟨l,w1,w2⟩:=sX.1 (a8 hw);obtain⟨y,j,rfl⟩:=Fv w1;have Y:(aA (aO z)).getD (((x-2*I z)/2+1)%I (aA (aO z))) 0=w:=by rw[dM,hw];rfl
  have Q:=c.ok y (a8 j);have L:dn (aO z) w=y.p.d:=by have:=(iE w y j).1;rw[(Q.pb w2).2]at this;revert this;cases y.p.d<;>cases dn (aO z) w<;>simp
  have t:=CE (u:=aO z) ((x-2*I z)/2);rw[N,<-M]at t;rw[t,Y,Zc h j,L];have a:=(c.Tw hl n hw H j).1;have r:=Xu R H;rw[<-M]at r;rw[r,a];unfold aR.up;cases y.p.d<;>simp[mv]
 have M:x=2*I z+2*((x-2*I z)/2)+1:=J;have Q:=c.ok e (a8 H);have L:dn (aO z) u=e.p.d:=by have:=(iE u e H).1;rw[(Q.pb u2).2]at this;revert this;cases e.p.d<;>cases dn (aO z) u<;>simp
 have t:=D3 (u:=aO z) ((x-2*I z)/2);rw[N,<-M]at t;rw[t,R,Zc h H,L];have r:=YT R H;rw[<-M]at r;rw[r];unfold aR.lo;cases e.p.d<;>simp[mv]
def iH.check{S:aD}(c:iH F z T B S){x:aR}{r:f_}(D:z=x::r)(hp:x.k.ay)(n:x.p.d)(hl:I z<=400)(fA:aq U.au (aO z)<=200)(hF:F<=40):fP F (aO z)=0:=by
 have ok:=c.dg J;have m:I (aO z)=I z:=ct ..;obtain⟨s,h⟩:=c.path;have R:z[0]?=some x:=by rw[D];rfl
 have af:s.b=false:=by rw[<-Rr h R,((c.ok x (a8 R)).pb hp).2,n];rfl
 have kO:0<I z:=by rw[D];simp
 have X:=Ok c.ok h af;have eM:aq U.ay (aO z)%2=0:=by
  obtain⟨y,H⟩:=aP (h:=z) (k:=I z-1) J;have:=(X _ y H).2;rw[OM h H,af,show I z-1+1=I (aO z) by rw[m];omega]at this;unfold dn at this;rw[lN]at this
  simpa using this
 have Z:fV (aO z)=aq U.ay (aO z)+aq U.au (aO z)/2+2:=by
  obtain⟨b1,b2⟩:=aFW ok;have u:∀a∈S,∃d,js z d=a/\d<2*I z:=λa ha=>by
   obtain⟨y,H,e⟩:=c.wit a ha;obtain⟨j,v⟩:=gJ H;have rQ:=(bN.1 v).1;rcases e with e|e
   .exact⟨2*j,by unfold js;rw[aI J,aI J,show 2*j/2=j by omega,akh v,e],J⟩
   exact⟨2*j+1,by unfold js;rw[aI J,aE J,show(2*j+1)/2=j by omega,akh v,e],J⟩
  obtain⟨M,E,N⟩:=ab9 (P:=λa d=>js z d=a/\d<2*I z) (f:=js z) (λa d h=>h.1) u;have hN:aX (aO z)=2*I z+2*I (aA (aO z)):=by unfold aX;rw[m]
  have:=aoU (nc ok) (φ:=js z) (λy H=>c.walk J h af H) (R:=M) (λd n=>by obtain⟨_,_,h⟩:=N d n;omega) (by rw[E];exact c.nd)
  have hM:I M=I S:=by rw[<-E,ct]
  have L:=c.num;have:I M<=fV (aO z):=this;omega
 have aN:aO z≠[]:=by intro e;rw[e]at m;simp at m;omega
 unfold fP;rw[aE (by rw[m];omega),aE J,aE aN,aI];unfold oI;have Q:=(Ji c.xk).2 ⟨ok.ax.fg,ok.ax.inj⟩;have Y:(aO z).any (eK F)=false:=HI.2 λl hl=>by obtain⟨y,H,rfl⟩:=c_.1 hl;rw[(c.ok y H).bad];decide
 rw[AT R,QQ.2 ⟨Y,Q,ok.cr⟩,Z,eM];have O:(x.k.kind==1):=hp;simp only[O,y8,Bu]
def jt.check{l:bK}(c:jt F l)(hl:I l<=400)(y:aq U.au (l.map aQ.l)<=200)(n:F<=40):fP F (ch l)=0:=by
 obtain⟨w,T,B,S,x,r,u,hp,m,j,H,cz⟩:=c.fin;have v:aq U.au (aO w)=aq U.au (l.map aQ.l):=by
  rw[j];have hf:(sU l).getD 0<=I l:=by
   cases h:sU l with
   |none=>exact bj _
   |some f=>
    have:=AP h
    grind
  unfold ch;rw[Xd hf];show List.countP _ _=List.countP _ _;rw[iT,uW,Nat.add_comm,<-uW,<-iT,mW]
 rw[<-j];exact cz.check u hp m J J n
end
def gy(A:ae)(x:Nat):Nat:=BQ (eX (aT A) (aX A)) x
def kX(A:ae)(i:Nat):eN:=⟨gy A (2*i),gy A (2*i+1),!dn A (i+1)⟩
def eQ(A:ae)(i:Nat):aR:=⟨⟨A.getD i jJ,ep A i⟩,kX A ((i+I A-1)%I A),kX A i⟩
def fj (A:ae):f_:=(List.range (I A)).map (eQ A)
def fI (A:ae)(g k:Nat):Nat:=gy A (2*I A+2*((dX A g+k+I (aA A)-1)%I (aA A)))
def ft (A:ae)(g k:Nat):Nat:=gy A (2*I A+2*((dX A g+k+I (aA A)-1)%I (aA A))+1)
def vH(A:ae):(fj A).map aR.p=aJ A:=by unfold fj aJ;rw[kU];rfl
def jG(A:ae):aO (fj A)=A:=by
 have h:aO (fj A)=(aJ A).map aQ.l:=by rw[<-vH,kU];rfl
 rw[h];apply qO;intro i;rw[fX];by_cases H:i<I A
 .obtain⟨l,hl⟩:=aP H;rw[gX hl,hl];rfl
 rw[pS Nm,pS J];rfl
def BS(A:ae):I (fj A)=I A:=by simp[fj]
def BO{i:Nat}(h:i<I A):(fj A)[i]?=some (eQ A i):=by simp[fj,h]
theorem fT{i:Nat}{l:U}(h:A[i]?=some l):(eQ A i).k=l:=by
 show A.getD i jJ=l
 grind
def alm(f:Nat->aR)(e:Nat->eN):∀k a,(∀i,a<=i->i<a+k->(f i).i=e i/\(f i).o=e (i+1))->jN (e a) ((List.range' a k).map f) (e (a+k)):=by
 intro k
 induction k with
 |zero=>intro a _;rfl
 |succ k j=>intro a h;obtain⟨m,H⟩:=h a (cP _) J;refine⟨m,?_⟩;rw[H,show a+(k+1)=a+1+k by omega];exact j _ λi u n=>h i J J
def Vq{R:aR->aR->Prop}{f:Nat->aR}(h:∀i j,i<n->j<n->i≠j->R (f i) (f j)):((List.range n).map f).Pairwise R:=BG.2 (List.Pairwise.imp_of_mem (λ{a b} H m D=>h a b (fU.1 H) (fU.1 m) D) (FN))
section
variable {F:Nat} {A:ae}
def I8(g:aU F A){i:Nat}{w:aD}(h:(eX (aT A) (aX A))[i]?=some w)(H:x∈w):gy A x=i:=MA (CO _ _).1 h H
def G_(g:aU F A)(j:x<aX A):∃w,(eX (aT A) (aX A))[gy A x]?=some w/\x∈w:=by obtain⟨u,f,h⟩:=Fp.1 ((CO _ _).2 x j);obtain⟨i,H⟩:=gJ f;rw[I8 g H h];exact⟨u,H,h⟩
def D_(g:aU F A)(H:x<aX A):gy A (aT A x)=gy A x:=by obtain⟨w,h,f⟩:=G_ g H;exact I8 g h (uB (nc g.ok) (a8 h) f)
def YG(g:aU F A)(h:v<I A)(f:Bool):gy A (jB (I A) v f)=if f then(eQ A v).i.l else(eQ A v).o.r:=by cases f<;>rfl
def Vo(f:Bool):gy A (dS (I A) v f)=if f then(eQ A v).o.l else(eQ A v).i.r:=by cases f<;>rfl
def ay1(g:aU F A):dn A (I A):=by unfold dn;have:=g.even;simp[this]
def Xv(g:aU F A){i:Nat}(H:i<I A):(eQ A i).i.b= !dn A i:=by
 show(!dn A _)=_;by_cases h:i=0
 .subst h;rw[lh,fC J,show I A-1+1=I A by omega,ay1 g];rfl
 rw[show i+I A-1=(i-1)+I A by omega,rn,fC J,show i-1+1=i by omega]
def Lk(h:v<I A)(f:Bool):jB (I A) v f<aX A:=by have:=zi h f;unfold aX;omega
def UZ(g:aU F A){l:U}(hl:A[v]?=some l)(hp:l.ay):(eQ A v).p.d=dn A v:=by show ep A v=_;simp[ep,hl,hp]
def Hz(g:aU F A){i:Nat}(H:i<I A):zR F (eQ A i):=by
 obtain⟨l,hl⟩:=aP H;have h:=fT hl;refine⟨by rw[h];exact g.bad l (a8 hl),λf=>?_,λhp=>?_⟩
 .rw[h]at f;rw[Xv g H];show _= !dn A _
  grind [Nw,oV]
 rw[h]at hp;rw[Xv g H,UZ g hl hp];refine⟨?_,rfl⟩;show(!dn A _)=_;rw[Gs hl hp,FU]
def Sc(g:aU F A){i:Nat}(v:i<I A)(x:j<I A)(N:i≠j):pD (eQ A i) (eQ A j):=by
 obtain⟨l,hl⟩:=aP v;obtain⟨m,H⟩:=aP x;intro y M e;rw[fT hl]at y e;rw[fT H]at M e;obtain⟨_,hp⟩:=g.ids;obtain⟨d1,D⟩:=hp i j l m hl H y M e N;obtain⟨L,w,z,R,B,wo,Z⟩:=qy g.ok.cr hl y;have h:iV A i=j:=by
  refine Classical.byContradiction λO=>?_;have Y:=(hp _ _ w m z H R M (by rw[B,e]) O).1
  grind
 refine⟨?_,by rw[fT hl,fT H];exact D,?_⟩
 .grind [fT]
 rw[fT hl];have n:=D_ g (Lk v true);have T:=D_ g (Lk v false);have f:=D_ g (Lk x true);have u:=D_ g (Lk x false);rw[yZ hl y,h,Vo,YG g v]at n T;rw[yZ H M,<-h,L,h,Vo,YG g x]at f u;have Q:(m.over==(m.sign==1))= !c3 l:=aIy
 rw[Q]at f u;have E:(l.over==(l.sign==1))=c3 l:=rfl;rw[E]at n T;cases X:c3 l<;>rw[X]at n T f u<;>simp at n T f u<;>constructor<;>simp[n,T,f,u]
def T6(g:aU F A){l:U}(hl:A[v]?=some l)(hp:l.ay):DJ (fI A) (ft A) (eQ A v):=by
 have m:=(bN.1 hl).1;have ok:=g.ok;obtain⟨g0,g1,r0,r1⟩:=ok.ax.fg l (a8 hl) hp;obtain⟨n,z⟩:=F2 ok hl hp;have B:dX A l.gate.toNat+l.ao.toNat=(aA A).idxOf v+1:=by rw[L4 ok.ax hl hp];unfold dN;omega
 have h:dX A l.gate.toNat+(l.ao.toNat-1)=(aA A).idxOf v:=J;have E:(dX A l.gate.toNat+l.ao.toNat+I (aA A)-1)%I (aA A)=(aA A).idxOf v:=by rw[B,show(aA A).idxOf v+1+I (aA A)-1=(aA A).idxOf v+I (aA A) by omega,rn,fC n]
 have H:=fT hl;have j:=UZ g hl hp;have N:∀k,k<I (aA A)->2*I A+2*k<aX A/\2*I A+2*k+1<aX A:=λk H=>by unfold aX;omega
 have u:=D_ g (Lk m (dn A v));have y:=D_ g (Lk m (!dn A v));have x:=D_ g (N _ n).2;have Q:=D_ g (N _ (dB ((aA A).idxOf v+I (aA A)-1) J)).1;rw[El hl hp,YG g m]at u y;rw[D3,z,Vo]at x;rw[CE,yW n,z,Vo]at Q;constructor
 .rw[H];unfold fI;rw[h];unfold aR.up;rw[j];cases f:dn A v<;>rw[f]at Q<;>exact Q
 .rw[H];unfold fI;rw[E];unfold aR.up;rw[j];cases f:dn A v<;>rw[f]at u<;>exact u.symm
 .rw[H];unfold ft;rw[h];unfold aR.lo;rw[j];cases f:dn A v<;>rw[f]at y<;>exact y.symm
 rw[H];unfold ft;rw[E];unfold aR.lo;rw[j];cases f:dn A v<;>rw[f]at x<;>exact x
def aU.cz(g:aU F A):iH F (fj A) (fI A) (ft A) (List.range (fV A)):=by
 have R:=iW.2 g.ne;have M:∀x∈fj A,∃i,i<I A/\x=eQ A i:=λx f=>by obtain⟨i,H,rfl⟩:=c_.1 f;exact⟨i,fU.1 H,rfl⟩
 have Y:=CF λl hl hp=>((nu hp).1 (g.bad l hl)).1.1.1;have af:=qR A F;have n:0<I (aA A):=by obtain⟨l,B,v⟩:=g.first;exact Xn (sX.2 ⟨l,B,v⟩)
 have y:=g.ok.cr;unfold oH at y;simp only[cF,cW]at y;refine⟨⟨kX A (I A-1),?_⟩,λx f=>?_,Vq λi j H L z=>Sc g H L z,by rw[jG];exact y.1.1,λx f O=>?_,Vq λi j H L z=>?_,λx f hp=>?_,λx f hp=>?_,
  λk X=>?_,?_,?_,FN,λs af=>?_,?_⟩
 .have:=alm (eQ A) (λi=>kX A ((i+I A-1)%I A)) (I A) 0 λi _ H=>⟨rfl,?_⟩
  .simp only[lh]at this;rwa[fC J,show I A+I A-1=(I A-1)+I A by omega,rn,fC J,<-aaY]at this
  show kX A i=kX A ((i+1+I A-1)%I A)
  grind [rn,fC]
 .obtain⟨i,H,rfl⟩:=M x f;exact Hz g H
 .obtain⟨i,H,rfl⟩:=M x f;obtain⟨l,hl⟩:=aP H;rw[fT hl]at O |-;rw[jG];exact g.ids.1 l (a8 hl) O
 .obtain⟨l,hl⟩:=aP H;obtain⟨m,n⟩:=aP L;intro pl u E D;rw[fT hl]at pl E D;rw[fT n]at u E D;exact z (g.ok.ax.inj i j l m hl n pl u ((C3 (g.ok.ax.fg l (a8 hl) pl) (g.ok.ax.fg m (a8 n) u)).2 ⟨E,D⟩))
 .obtain⟨i,H,rfl⟩:=M x f;obtain⟨l,hl⟩:=aP H;rw[fT hl]at hp |-;rw[jG];obtain⟨_,_,r0,r1⟩:=g.ok.ax.fg l (a8 hl) hp;exact⟨r0,r1⟩
 .obtain⟨i,H,rfl⟩:=M x f;obtain⟨l,hl⟩:=aP H;rw[fT hl]at hp;exact T6 g hl hp
 .rw[jG];unfold fI ft;rw[qR A k,Ab];exact⟨rfl,rfl⟩
 .rw[jG];unfold fI ft;have E:dX A F+aZ A F=I (aA A):=J;have Q:dX A 0=0:=rfl;rw[E,Q,lh,show(aA A).length+I (aA A)-1=(I (aA A)-1)+I (aA A) by omega,rn];exact⟨rfl,rfl⟩
 .obtain⟨l,B,v⟩:=g.first;exact⟨eQ A 0,a8 (BO R),by rw[fT B];exact v⟩
 .obtain⟨w,N⟩:=aP (fU.1 af);obtain⟨⟨d,t,e,T⟩,_⟩:=xR g.ok w (a8 N);have hp:gy A d=s:=I8 g N (by rw[e];simp);refine⟨eQ A (d/2),a8 (BO J),?_⟩;rcases rN d with h|h
  .refine .inl ?_;show s=gy A (2*(d/2));rw[show 2*(d/2)=d by omega,hp]
  refine .inr ?_;show s=gy A (2*(d/2)+1);rw[show 2*(d/2)+1=d by omega,hp]
 rw[jG,xm,g.nw];omega
end
structure kV (F:Nat) (z:f_) (T B:Nat->Nat->Nat):Prop where
 ok:∀x∈z,zR F x
 cr:z.Pairwise pD
 ev:aq U.au (aO z)%2=0
 ids:∀x∈z,x.k.au->1<=x.k.id/\x.k.id<=((aq U.au (aO z)/2:Nat):Int)
 rk:z.Pairwise Az
 rr:∀x∈z,x.k.ay->1<=x.k.ao/\x.k.ao<=(aZ (aO z) x.k.gate.toNat:Int)
 pl:∀x∈z,x.k.ay->DJ T B x
 gt:∀g,g<F->T g (aZ (aO z) g)=T (g+1) 0/\B g (aZ (aO z) g)=B (g+1) 0
 gz:T F (aZ (aO z) F)=T 0 0/\B F (aZ (aO z) F)=B 0 0
def eN.mp(D:Nat->Nat)(s:eN):eN:=⟨D s.l,D s.r,s.b⟩
def aR.mp(D:Nat->Nat)(h:U->U)(x:aR):aR:=⟨⟨h x.p.l,x.p.d⟩,x.i.mp D,x.o.mp D⟩
def xN.mp{g:Bool}{i o j q:eN}(h:xN g i o j q)(D:Nat->Nat):xN g (i.mp D) (o.mp D) (j.mp D) (q.mp D):=by obtain⟨a,b,c,d⟩:=h;cases g<;>simp at a b c d<;>constructor<;>simp[eN.mp,a,b,c,d]
def ajA(D:Nat->Nat)(h:U->U)(x:aR):(x.mp D h).up=x.up.mp D:=by unfold aR.up aR.mp;cases x.p.d<;>rfl
def akp(D:Nat->Nat)(h:U->U)(x:aR):(x.mp D h).lo=x.lo.mp D:=by unfold aR.lo aR.mp;cases x.p.d<;>rfl
def HJ:∀ {z:f_}{s t:eN},jN s z t->jN (s.mp D) (z.map (aR.mp D h)) (t.mp D):=by
 intro z
 induction z with
 |nil=>intro s t e;cases e;rfl
 |cons x z f=>intro s t e;obtain⟨rfl,e⟩:=e;exact⟨rfl,f e⟩
def aew{S L:aD}(H:S.Nodup):I S<=I (S.filter λs=> !L.contains s)+I L:=by
 have j:I S=I (S.filter λs=> !L.contains s)+I (S.filter λs=>L.contains s):=by
  have:=List.length_eq_countP_add_countP (λs=> !L.contains s) (l:=S);rw[Wn,Wn]at this
  grind
 have f:=R5 (S.filter λs=>L.contains s) L (H.filter _) λx h=>by simpa using(rv.1 h).2
 omega
structure Bd (h:U->U):Prop where
 kind:∀l,(h l).kind=l.kind
 over:∀l,(h l).over=l.over
 sign:∀l,(h l).sign=l.sign
def Bd.ay(s:Bd h)(l:U):(h l).ay=l.ay:=by unfold U.ay;rw[s.kind]
def Bd.au(s:Bd h)(l:U):(h l).au=l.au:=by unfold U.au;rw[s.kind]
def Bd.id:Bd id:=⟨λ_=>rfl,λ_=>rfl,λ_=>rfl⟩
section
variable {F:Nat} {X r M:f_} {T B O N:Nat->Nat->Nat} {S:aD} {D:Nat->Nat} {h:U->U}
def iH.q{z:f_}(c:iH F z T B S):kV F z T B:=⟨c.ok,c.cr,c.ev,c.ids,c.rk,c.rr,c.pl,c.gt,c.gz⟩
def kV.perm{z Z:f_}(c:kV F z T B)(f:z.Perm Z):kV F Z T B:=by
 have H:∀ {x},x∈Z↔x∈z:=λ{x}=>f.symm.mem_iff;have e:∀p,aq p _=aq p _:=λp=>(wO f).symm;have E:∀g,aZ _ g=aZ _ g:=λg=>e _;exact⟨λx h=>c.ok x (H.1 h),(f.pairwise_iff λ{x y}=>pD.symm).1 c.cr,by rw[e];exact c.ev,λx h=>by rw[e];exact c.ids x (H.1 h),(f.pairwise_iff λ{x y}=>Az.symm).1 c.rk,
  λx h=>by rw[E];exact c.rr x (H.1 h),λx h=>c.pl x (H.1 h),λg j=>by rw[E];exact c.gt g j,by rw[E];exact c.gz⟩
def zR.mp{x:aR}(o:zR F x)(s:Bd h)(H:eK F (h x.k)=false):zR F (x.mp D h):=by
 refine⟨H,λf=>?_,λhp=>?_⟩
 .exact o.cb (by rw[<-s.au];exact f)
 exact o.pb aIc
def kV.edit(q:kV F (X++r) T B)(s:Bd h)(hb:∀x∈r,eK F (h x.k)=false)
  (A:∀x∈r,∀y∈r,x.k.au->y.k.au->(h x.k).id=(h y.k).id->x.k.id=y.k.id)
  (jj:∀x∈r,∀y∈r,x.k.ay->y.k.ay->(h x.k).gate=(h y.k).gate->(h x.k).ao=(h y.k).ao->x.k.gate=y.k.gate/\x.k.ao=y.k.ao)
  (n1:∀x∈M,zR F x) (n2:M.Pairwise pD) (n3:M.Pairwise Az) (n4:∀x∈M,∀y∈r,pD x (y.mp D h)) (Y:∀x∈M,∀y∈r,Az x (y.mp D h))
  (ev:aq U.au (aO (M++r.map (aR.mp D h)))%2=0)
  (ids:∀x∈M,x.k.au->1<=x.k.id/\x.k.id<=((aq U.au (aO (M++r.map (aR.mp D h)))/2:Nat):Int))
  (E:∀x∈r,x.k.au->1<=(h x.k).id/\(h x.k).id<=((aq U.au (aO (M++r.map (aR.mp D h)))/2:Nat):Int))
  (rr:∀x∈M,x.k.ay->1<=x.k.ao/\x.k.ao<=(aZ (aO (M++r.map (aR.mp D h))) x.k.gate.toNat:Int))
  (R:∀x∈r,x.k.ay->1<=(h x.k).ao/\(h x.k).ao<=(aZ (aO (M++r.map (aR.mp D h))) (h x.k).gate.toNat:Int))
  (pl:∀x∈M,x.k.ay->DJ O N x)
  (Oa:∀x∈r,x.k.ay->(D (T x.k.gate.toNat (x.k.ao.toNat-1))=O (h x.k).gate.toNat ((h x.k).ao.toNat-1)/\D (B x.k.gate.toNat (x.k.ao.toNat-1))=N (h x.k).gate.toNat ((h x.k).ao.toNat-1))/\D (T x.k.gate.toNat x.k.ao.toNat)=O (h x.k).gate.toNat (h x.k).ao.toNat/\D (B x.k.gate.toNat x.k.ao.toNat)=N (h x.k).gate.toNat (h x.k).ao.toNat)
  (gt:∀g,g<F->O g (aZ (aO (M++r.map (aR.mp D h))) g)=O (g+1) 0/\N g (aZ (aO (M++r.map (aR.mp D h))) g)=N (g+1) 0)
  (gz:O F (aZ (aO (M++r.map (aR.mp D h))) F)=O 0 0/\N F (aZ (aO (M++r.map (aR.mp D h))) F)=N 0 0):kV F (M++r.map (aR.mp D h)) O N:=by
 have n:∀x∈M++r.map (aR.mp D h),x∈M\/ ∃y∈r,x=y.mp D h:=λx H=>by
  rcases iI.1 H with H|H
  .exact .inl H
  obtain⟨y,f,rfl⟩:=c_.1 H;exact .inr ⟨y,f,rfl⟩
 have u:∀y∈r,y∈X++r:=λy f=>vv _ f;refine⟨λx H=>?_,?_,ev,λx H j=>?_,?_,λx H hp=>?_,λx H hp=>?_,gt,gz⟩
 .rcases n x H with H|⟨y,f,rfl⟩
  .exact n1 x H
  exact(q.ok y (u y f)).mp s (hb y f)
 .refine BD.2 ⟨n2,BG.2 (((BD.1 q.cr).2.1).imp_of_mem λ{x y} H f z j m e=>?_),λx H y f=>?_⟩
  .have j:x.k.au:=by rw[<-s.au];exact j
   have m:y.k.au:=by rw[<-s.au];exact m
   obtain⟨h1,Z,h3⟩:=z j m (A x H y f j m e);refine⟨?_,?_,?_⟩
   .show(h x.k).over= !(h y.k).over;rw[s.over,s.over];exact h1
   .show(h x.k).sign=(h y.k).sign;rw[s.sign,s.sign];exact Z
   have:c3 (x.mp D h).k=c3 x.k:=by show((h x.k).over==((h x.k).sign==1))=_;rw[s.over,s.sign];rfl
   rw[this];exact h3.mp D
  obtain⟨w,v,rfl⟩:=c_.1 f;exact n4 x H w v
 .rcases n x H with H|⟨y,f,rfl⟩
  .exact ids x H j
  exact E y f (by rw[<-s.au];exact j)
 .refine BD.2 ⟨n3,BG.2 (((BD.1 q.rk).2.1).imp_of_mem λ{x y} H f z j m e1 e2=>?_),λx H y f=>?_⟩
  .have j:x.k.ay:=by rw[<-s.ay];exact j
   have m:y.k.ay:=by rw[<-s.ay];exact m
   obtain⟨f1,f2⟩:=jj x H y f j m e1 e2;exact z j m f1 f2
  obtain⟨w,v,rfl⟩:=c_.1 f;exact Y x H w v
 .rcases n x H with H|⟨y,f,rfl⟩
  .exact rr x H hp
  exact R y f aIc
 rcases n x H with H|⟨y,f,rfl⟩
 .exact pl x H hp
 have hp:y.k.ay:=aIc
 obtain⟨p1,p2,L,Q⟩:=q.pl y (u y f) hp;obtain⟨⟨a1,a2⟩,a3,a4⟩:=Oa y f hp;constructor
 .rw[ajA];show D y.up.r=_;rw[p1];exact a1
 .rw[ajA];show D y.up.l=_;rw[p2];exact a3
 .rw[akp];show D y.lo.r=_;rw[L];exact a2
 rw[akp];show D y.lo.l=_;rw[Q];exact a4
def kV.Ym{z:f_}{L n:aD}{V:Nat}(q:kV F (M++r.map (aR.mp D h)) O N)(E:S.Nodup)(wit:∀s∈S,∃x∈X++r,s=x.o.l\/s=x.o.r)
  (j:z.Perm (M++r.map (aR.mp D h))) (T:∃s,jN s z s) (one:∃x∈M++r.map (aR.mp D h),x.k.ay)
  (v:∀s∈S,s∉L->D s=s) (A:∀x∈X,∀s∈S,(s=x.o.l\/s=x.o.r)->s∉L->∃y∈M++r.map (aR.mp D h),s=y.o.l\/s=y.o.r)
  (hN:n.Nodup) (B:∀s∈n,s∉S) (u:∀s∈n,∃y∈M++r.map (aR.mp D h),s=y.o.l\/s=y.o.r)
  (Z:V<=I S) (num:aq U.ay (aO (M++r.map (aR.mp D h)))+aq U.au (aO (M++r.map (aR.mp D h)))/2+1+I L<=V+I n):iH F z O N (n++S.filter λs=> !L.contains s)/\V+I n<=I (n++S.filter λs=> !L.contains s)+I L:=by
 have Q:=q.perm j.symm;have Y:∀ {x},x∈z↔x∈M++r.map (aR.mp D h):=λ{x}=>j.mem_iff;refine⟨⟨T,Q.ok,Q.cr,Q.ev,Q.ids,Q.rk,Q.rr,Q.pl,Q.gt,Q.gz,?_,?_,λs af=>?_,?_⟩,by rw[iM];have:=aew (L:=L) E;omega⟩
 .grind
 .grind
 .have R:∃y∈M++r.map (aR.mp D h),s=y.o.l\/s=y.o.r:=by
   rcases iI.1 af with af|af
   .exact u s af
   obtain⟨m,f⟩:=rv.1 af;have f:s∉L:=by simpa using f
   obtain⟨x,H,e⟩:=wit s m;rcases iI.1 H with H|H
   .exact A x H s m e f
   refine⟨x.mp D h,vv _ (c_.2 ⟨x,H,rfl⟩),?_⟩;have hp:=v s m f;rcases e with e|e
   .left;show s=D x.o.l;rw[<-e,hp]
   right;show s=D x.o.r;rw[<-e,hp]
  grind
 have e:∀p,aq p (aO z)=aq p (aO (M++r.map (aR.mp D h))):=λp=>wO j;rw[e,e,iM];have:=aew (L:=L) E;omega
def kV.done{l:bK}{z:f_}{L n:aD}{V:Nat}(q:kV F (M++r.map (aR.mp D h)) O N)(E:S.Nodup)(wit:∀s∈S,∃x∈X++r,s=x.o.l\/s=x.o.r)
  (m:z.Perm (M++r.map (aR.mp D h))) (u:∃s,jN s z s) (hl:z.map aR.p=l) (one:∃x∈M++r.map (aR.mp D h),x.k.ay)
  (H:∀s∈S,s∉L->D s=s) (v:∀x∈X,∀s∈S,(s=x.o.l\/s=x.o.r)->s∉L->∃y∈M++r.map (aR.mp D h),s=y.o.l\/s=y.o.r)
  (A:n.Nodup) (f:∀s∈n,s∉S) (j:∀s∈n,∃y∈M++r.map (aR.mp D h),s=y.o.l\/s=y.o.r)
  (B:V<=I S) (num:aq U.ay (aO (M++r.map (aR.mp D h)))+aq U.au (aO (M++r.map (aR.mp D h)))/2+1+I L<=V+I n):jt F l:=by
 obtain⟨c,_⟩:=kV.Ym q E wit m u one H v A f j B num;exact⟨z,O,N,_,hl,c⟩
end
def arZ(x:aR):x.mp id id=x:=rfl
def DX(r:f_):r.map (aR.mp id id)=r:=by rw[show _=id from funext λx=>arZ x,List.map_id]
def qL(p:U->Bool)(a b:f_):aq p (aO (a++b))=aq p (aO a)+aq p (aO b):=by grind
def eY(p:U->Bool)(x:aR)(b:f_):aq p (aO (x::b))=(if p x.k then 1 else 0)+aq p (aO b):=by grind
def uz(p:U->Bool):aq p (aO [])=0:=rfl
def sy{p:U->Bool}(hp:∀l,p (h l)=p l)(r:f_):aq p (aO (r.map (aR.mp D h)))=aq p (aO r):=by
 induction r with
 |nil=>rfl
 |cons x r f=>rw[fq,eY,eY,f];show(if p (h x.k)then 1 else 0)+_=_;rw[hp]
def Bc{l:U}(g:Nat)(h:l.au):jw g l=false:=by grind [jw,oV]
theorem mq{l:U}(h:l.au):l.ay=false:=by
 cases hp:l.ay
 .rfl
 rw[oV hp]at h;cases h
def adY{x y:aR}(h:x.k.au=false):pD x y:=λH=>by rw[h]at H;cases H
def J6{x y:aR}(h:x.k.au):Az x y:=λhp=>by rw[mq h]at hp;cases hp
def aoY{α:Type}{z:List α}{a:Nat}(n:a<I z)(v:2<=I z):∃x y r,z.drop a++z.take a=x::y::r/\z[a]?=some x/\z[(a+1)%I z]?=some y:=by
 obtain⟨x,m⟩:=aP n;obtain⟨hl,e⟩:=bN.1 m;have u:z.drop a=x::z.drop (a+1):=by rw[<-e,yK]
 by_cases c:a+1<I z
 .obtain⟨y,H⟩:=aP c;obtain⟨F,L⟩:=bN.1 H
  grind [yK,fC]
 have ea:a+1=I z:=J;obtain⟨y,H⟩:=aP (h:=z) (k:=0) J;have D:z.drop (a+1)=[]:=List.drop_eq_nil_of_le J;have B:z.take a=y::(z.take a).drop 1:=by
  have j:(z.take a)[0]?=some y:=by rw[sB,aI J];exact H
  obtain⟨f,E⟩:=bN.1 j;have:=yK (h:=f);rw[E,Lx]at this;exact this.symm
 grind [yN]
section
variable {F:Nat} {A:ae}
def lK{l:U}(h:l.au):(if U.au l=true then 1 else 0)=1/\(if U.ay l=true then 1 else 0)=0:=by simp[h,mq h]
def vp{l:U}(h:l.ay):(if U.au l=true then 1 else 0)=0/\(if U.ay l=true then 1 else 0)=1:=by simp[h,oV h]
def Z6(g:aU F A){a:Nat}(ha:a<I A){sg:Int}{o:Bool}(af:sg=1\/sg= -1):jt F (u_ A a sg o):=by
 have c:=g.cz;have j:=jG A;obtain⟨s,hp⟩:=c.path;have T:fj A=(fj A).take (a+1)++(fj A).drop (a+1):=(mW ..).symm;rw[T]at hp;obtain⟨m,Z,oZ⟩:=Bj.1 hp
 let N:Int:=((aq U.au A/2+1:Nat):Int)
 let k:eN:=if o==(sg==1)then⟨m.r,fV A,m.b⟩else⟨fV A,m.l,m.b⟩
 let x:aR:=⟨⟨⟨2,0,0,N,sg,o⟩,false⟩,m,k⟩
 let y:aR:=⟨⟨⟨2,0,0,N,sg,!o⟩,false⟩,k,m⟩
 have Y:k.b=m.b:=by show(if _ then _ else _:eN).b=_;split<;>rfl
 have n:x.k.au:=rfl;have z:y.k.au:=rfl;have O:∀ov,eK F ⟨2,0,0,N,sg,ov⟩=false:=λov=>by simp[eK];simpa using(by rcases af with rfl|rfl<;>decide)
 have D:aq U.au (aO ([x,y]++(fj A).map (aR.mp id id)))=aq U.au A+2:=by rw[DX,qL,eY,eY,uz,j,(lK n).1,(lK z).1];omega
 have jR:aq U.ay (aO ([x,y]++(fj A).map (aR.mp id id)))=aq U.ay A:=by rw[DX,qL,eY,eY,uz,j,(lK n).2,(lK z).2];omega
 have M:∀q,aZ (aO ([x,y]++(fj A).map (aR.mp id id))) q=aZ A q:=λq=>by show aq _ _=aq _ _;rw[DX,qL,eY,eY,uz,j,Bc q n,Bc q z];simp
 have ev:=c.ev;rw[j]at ev;have GO:A4 x y:=by
  refine⟨by show o= !!o;simp,rfl,?_⟩;show xN (o==(sg==1)) m k k m;cases B:(o==(sg==1))
  .have:k=⟨fV A,m.l,m.b⟩:=by show(if _ then _ else _:eN)=_;rw[B];rfl
   rw[this];constructor<;>rfl
  have:k=⟨m.r,fV A,m.b⟩:=by show(if _ then _ else _:eN)=_;rw[B];rfl
  rw[this];constructor<;>rfl
 have Q:=λw H E=>by have:=c.ids w H E;rwa[j]at this
 have q:kV F ([x,y]++(fj A).map (aR.mp id id)) (fI A) (ft A):=by
  refine kV.edit (X:=[]) c.q Bd.id (λw H=>(c.ok w H).bad) (λ_ _ _ _ _ _ e=>e) (λ_ _ _ _ _ _ e f=>⟨e,f⟩) (λw H=>?_) ?_ ?_ (λu v w H=>?_) (λu v w H=>?_) (by rw[D];omega) (λw H E=>?_) (λw H E=>?_) (λw H hp=>?_) (λw H hp=>?_) (λw H hp=>?_) (λw H hp=>⟨⟨rfl,rfl⟩,rfl,rfl⟩) (λg' B=>?_) ?_
  .simp only[dh,e_,or_false]at H;rcases H with rfl|rfl
   .exact⟨O o,λ_=>Y.symm,λh=>by cases h⟩
   exact⟨O (!o),λ_=>Y,λh=>by cases h⟩
  .exact iR.2 ⟨λw H=>by simp only[dh,e_,or_false]at H;subst H;exactλ_ _ _=>GO,FE ..⟩
  .exact iR.2 ⟨λw H=>J6 n,FE ..⟩
  .intro R h2 e;have qD:=Q w H h2;simp only[dh,e_,or_false]at v;have:u.k.id=N:=by rcases v with rfl|rfl<;>rfl
   have e:u.k.id=w.k.id:=e;exfalso;omega
  .simp only[dh,e_,or_false]at v;rcases v with rfl|rfl
   .exact J6 n
   exact J6 z
  .rw[D];simp only[dh,e_,or_false]at H;have:w.k.id=N:=by rcases H with rfl|rfl<;>rfl
   omega
  .rw[D];have qD:=Q w H E;simp only[id];omega
  .simp only[dh,e_,or_false]at H;rcases H with rfl|rfl<;>cases hp
  .rw[M];have:=c.rr w H hp;rwa[j]at this
  .simp only[dh,e_,or_false]at H;rcases H with rfl|rfl<;>cases hp
  .have:=c.gt g' B;rw[j]at this;rw[M];exact this
  have:=c.gz;rw[j]at this;rw[M];exact this
 refine kV.done (X:=[]) (L:=[]) (n:=[fV A]) (z:=(fj A).take (a+1)++[x,y]++(fj A).drop (a+1)) q c.nd (λs af=>c.wit s af) ?_ ⟨s,?_⟩ ?_ ?_ (λ_ _ _=>rfl) (λx hx=>by cases hx) (qQ.2 ⟨e_,pW⟩) (λs af=>?_) (λs af=>?_) AC ?_
 .rw[DX];have R:((fj A).take (a+1)++[x,y]++(fj A).drop (a+1)).Perm ([x,y]++(fj A).take (a+1)++(fj A).drop (a+1)):=Wf _ Jm;rwa[k9 [x,y],<-T]at R
 .exact Bj.2 ⟨m,Bj.2 ⟨m,Z,rfl,rfl,rfl⟩,oZ⟩
 .rw[iT,iT,uC,uN,vH];rfl
 .obtain⟨w,H,e⟩:=c.one;rw[DX];exact⟨w,vv _ H,e⟩
 .simp only[dh,e_,or_false]at af;subst af;simp
 .simp only[dh,e_,or_false]at af;subst af;refine⟨x,aG,?_⟩;show fV A=k.l\/fV A=k.r;show fV A=(if _ then _ else _:eN).l\/fV A=(if _ then _ else _:eN).r;split
  .exact .inr rfl
  exact .inl rfl
 rw[D,jR];have:=g.nw;simp only[fB,fF];omega
end
def fN(ids:cT)(l:U):U:=if l.kind==2 then{l with id:=l.id-((ids.take (I ids)).countP (λi=>decide (i<l.id)):Nat)}else l
def An(ids:cT):Bd (fN ids):=by refine⟨λl=>?_,λl=>?_,λl=>?_⟩<;>unfold fN<;>split<;>rfl
def ad4(ids:cT)(p:aQ):kY ids p=⟨fN ids p.l,p.d⟩:=by unfold kY fN kW;split<;>rfl
def Dr{ids:cT}{l:U}(h:l.ay):fN ids l=l:=by
 unfold fN;have:=oV h;unfold U.au at this
 grind
def ajo{ids:cT}{l:U}(h:eK F l=false):eK F (fN ids l)=false:=by
 rcases Dy h with hp|H
 .rw[Dr hp];exact h
 rw[Lb H]at h;rw[Lb (by rw[(An ids).au];exact H)];unfold fN;split<;>exact h
def ai9(ids:cT)(g:Nat)(l:U):jw g (fN ids l)=jw g l:=by
 cases hp:l.ay
 .unfold jw;rw[(An ids).ay,hp];rfl
 rw[Dr hp]
theorem al1{ids:cT}{l:U}(h:l.au):(fN ids l).id=l.id-((ids.countP λi=>decide (i<l.id):Nat):Int):=by grind [fN,U.au]
def X2{l:bK}{drop:Nat->aQ->Bool}{d:aQ->Bool}(h:∀i p,drop i p=d p):mK l drop=l.filter λp=> !d p:=by
 have f:∀k,k<=I l->wE l drop k=(l.take k).filter λp=> !d p:=by
  intro k
  induction k with
  |zero=>intro _;rfl
  |succ k j=>
   intro H;obtain⟨p,hp⟩:=aP (h:=l) (k:=k) J;rw[jM,hp,yQ,<-j J]
   grind [Pp,GR]
 unfold mK
 grind
def Vi:∀ {z:f_}{s t:eN},jN s z t->z≠[]->∃w∈z,w.o=t:=by
 intro z
 induction z with
 |nil=>intro s t _ h;exact absurd rfl h
 |cons x z f=>
  intro s t h _;obtain⟨_,h⟩:=h;cases z with
  |nil=>cases h;exact⟨x,aG,rfl⟩
  |cons y z=>grind
section
variable {F:Nat} {A:ae}
def afp{x y:aR}{r:f_}(q:kV F (x::y::r) T B)(j:x.k.au)(n:y.k.au)(e:x.k.id=y.k.id):∀w∈r,w.k.au->w.k.id≠x.k.id:=by
 intro w h m E;obtain⟨f,v⟩:=iR.1 q.cr;obtain⟨u,_⟩:=iR.1 v;have a:=(f y aG j n e).ov;rw[(f w ut j m E.symm).ov]at a;rw[(u w h n m J).ov]at a
 grind
def St(g:aU F A){a:Nat}(j:a<I A):∃x y r s,(fj A).drop a++(fj A).take a=x::y::r/\(aJ A)[a]?=some x.p/\(aJ A)[nx A a]?=some y.p/\
  iH F (x::y::r) (fI A) (ft A) (List.range (fV A))/\jN s (x::y::r) s/\(aJ A).drop a++(aJ A).take a=(x::y::r).map aR.p/\(fj A)[a]?=some x/\(fj A)[nx A a]?=some y/\(x::y::r).Perm (fj A):=by
 have f:2<=I A:=by
  obtain _:=g.first;have:=g.even
  grind
 have hl:=BS A;obtain⟨x,y,r,e,H,h⟩:=aoY (z:=fj A) (a:=a) J J;rw[hl]at h;have c:iH F ((fj A).drop a++(fj A).take a) (fI A) (ft A) (List.range (fV A)):=by refine iH.nk ?_;rw[mW];exact g.cz
 rw[e]at c;obtain⟨s,af⟩:=c.path;refine⟨x,y,r,s,e,?_,?_,c,af,?_,H,h,?_⟩
 .rw[<-vH,fX,H];rfl
 .rw[<-vH,fX,h];rfl
 .rw[<-e,iT,uN,uC,vH]
 rw[<-e];exact Jm.trans aG
def af6{a:Nat}{d:aQ->Bool}{f:aQ->aQ}(c:jt F ((((aJ A).drop a++(aJ A).take a).filter d).map f)):jt F (((aJ A).filter d).map f):=by rw[yQ,iT]at c;have:=c.nk;rwa[<-iT,<-yQ,mW]at this
def Hb{l:U}:l.au=(l.kind==2):=rfl
def JE{α:Type}{l:List α}{p:α->Bool}(h:∀x∈l,p x):l.filter p=l:=WB.2 h
def acg(g:aU F A){a:Nat}(ha:a<I A)(h:wS A a=some L):jt F L:=by
 obtain⟨x,y,r,s,e,hx,hy,c,hp,tL,_,_,ji⟩:=St g ha;have q:=c.q;unfold wS at h;have e1:(aJ A).getD a ⟨jJ,false⟩=x.p:=by rw[dM,hx];rfl
 have Z:(aJ A).getD ((a+1)%I A) ⟨jJ,false⟩=y.p:=by rw[dM,hy];rfl
 simp only[e1,Z]at h;split at h
 case isFalse=>cases h
 rename_i O;simp only[cF,cW]at O;obtain⟨jm,j9,Y⟩:=O;have m:x.k.au:=by rw[Hb];simp[jm]
 have n:y.k.au:=by rw[Hb];simp[j9]
 have uj:=Y;cases h;have Ky:=afp q m n uj;obtain⟨jr,ir,yH⟩:=hp
 have ix:=(q.ok x aG).cb m;have iy:=(q.ok y aG).cb n;have B:=((iR.1 q.cr).1 y aG m n uj).x4;rw[jr,ir]at B;rw[jr]at ix;rw[ir]at iy;have R:y.o=s:=by
  obtain⟨k1,k2,k3,k4⟩:=B;have hb:y.o.b=s.b:=by rw[<-iy,<-ix]
  cases y with
  |mk yp yi yo=>
  cases yo with
  |mk l r b=>
  cases s with
  |mk sl sr sb=>
  cases hg:c3 x.k<;>rw[hg]at k1 k2 k3 k4<;>simp only[iJ,if_false,if_true]at k1 k2 k3 k4 hb<;>simp_all
 rw[R]at yH;have Zx:∃b,(s.r=b\/s.l=b)/\ ∀t,(t=x.o.l\/t=x.o.r)->t=s.l\/t=s.r\/t=(if c3 x.k then x.o.r else x.o.l):=by
  obtain⟨k1,k2,k3,k4⟩:=B;refine⟨s.r,.inl rfl,?_⟩
  grind [c3]
 obtain⟨_,_,Zx⟩:=Zx;have eM:=q.ev;have Dh:∀z:f_,aq U.au (aO (x::y::z))=aq U.au (aO z)+2:=λz=>by rw[eY,eY,(lK m).1,(lK n).1];omega
 have Ka:∀z:f_,aq U.ay (aO (x::y::z))=aq U.ay (aO z):=λz=>by rw[eY,eY,(lK m).2,(lK n).2];omega
 have A2:∀(z:f_) k,aZ (aO (x::y::z)) k=aZ (aO z) k:=λz k=>by show aq _ _=aq _ _;rw[eY,eY,Bc k m,Bc k n];simp
 have mC:aq U.au (aO (r.map (aR.mp id (fN [x.k.id]))))=aq U.au (aO r):=sy (λl=>(An _).au l) r;have mG:∀k,aZ (aO (r.map (aR.mp id (fN [x.k.id])))) k=aZ (aO r) k:=λk=>sy (λl=>ai9 _ k l) r;have f:∀w∈r,w.k.au->(fN [x.k.id] w.k).id=if x.k.id<w.k.id then w.k.id-1 else w.k.id:=λw H O=>by
  rw[al1 O];by_cases c:x.k.id<w.k.id
  .simp[c]
  simp[c]
 have M6:=λw H O=>by have:=q.ids w H O;rw[Dh]at this;omega
 have hr:r≠[]:=by
  obtain⟨w,H,T⟩:=c.one;rintro rfl
  simp only[dh,e_,or_false]at H;rcases H with rfl|rfl
  .rw[mq m]at T;cases T
  rw[mq n]at T;cases T
 have inr:∀w∈r,w∈x::y::r:=λw H=>by simp[H]
 have qn:kV F ([]++r.map (aR.mp id (fN [x.k.id]))) (fI A) (ft A):=by
  refine kV.edit (X:=[x,y]) q (An _) (λw H=>ajo (q.ok w (inr w H)).bad) (λu j v Q M cv e=>?_) (λu j v Q N pv e1 Z=>?_) (λ_ h=>by cases h) List.Pairwise.nil List.Pairwise.nil (λ_ h=>by cases h) (λ_ h=>by cases h) ?_ (λ_ h=>by cases h) (λu j M=>?_) (λ_ h=>by cases h) (λu j N=>?_) (λ_ h=>by cases h) (λu j N=>?_) (λk B=>?_) ?_
  .have h1:=Ky u j M;have h2:=Ky v Q cv;rw[f u j M,f v Q cv]at e;split at e<;>split at e<;>omega
  .rw[Dr N,Dr pv]at e1 Z;exact⟨e1,Z⟩
  .rw[gM,mC];rw[Dh]at eM;omega
  .rw[gM,mC,f u j M];have h1:=M6 u (inr u j) M;have h2:=Ky u j M;have h3:=M6 x aG m;split<;>omega
  .rw[gM,Dr N,mG,<-A2 r];exact q.rr u (inr u j) N
  .rw[Dr N];exact⟨⟨rfl,rfl⟩,rfl,rfl⟩
  .rw[gM,mG,<-A2 r];exact q.gt k B
  rw[gM,mG,<-A2 r];exact q.gz
 have Ia:jt F (r.map λw=>kY [x.k.id] w.p):=by
  refine kV.done (X:=[x,y]) (L:=[if c3 x.k then x.o.r else x.o.l]) (z:=r.map (aR.mp id (fN [x.k.id]))) qn c.nd (λt E=>c.wit t E) (LJ _) ⟨s,HJ (D:=id) yH⟩ ?_ ?_ (λ_ _ _=>rfl) (λw H t E ew hL=>?_) pW (λt E=>by cases E) (λt E=>by cases E) AC ?_
  .rw[kU];refine s7 λw _=>?_;rw[ad4];rfl
  .obtain⟨w,H,T⟩:=c.one;simp only[dh]at H;rcases H with rfl|rfl|H
   .rw[mq m]at T;cases T
   .rw[mq n]at T;cases T
   refine⟨w.mp id (fN [x.k.id]),?_,?_⟩
   .rw[gM];exact c_.2 ⟨w,H,rfl⟩
   show(fN [x.k.id] w.k).ay=true;rw[(An _).ay];exact T
  .obtain⟨v,Q,Nq⟩:=Vi yH hr;have ad:t=s.l\/t=s.r:=by
    simp only[dh,e_,or_false]at H hL;rcases H with rfl|rfl
    .rcases Zx t ew with h|h|h
     .exact .inl h
     .exact .inr h
     exact absurd h hL
    rw[R]at ew;exact ew
   refine⟨v.mp id (fN [x.k.id]),by rw[gM];exact c_.2 ⟨v,Q,rfl⟩,?_⟩;show t=id v.o.l\/t=id v.o.r;rw[Nq];exact ad
  rw[gM,mC,sy (λl=>(An _).ay l) r];have h1:=g.nw;have h2:aq U.au (aO (x::y::r))=aq U.au A:=aH9
  have h3:aq U.ay (aO (x::y::r))=aq U.ay A:=aH9
  rw[Dh]at h2;rw[Ka]at h3;simp only[fB,fF];omega
 show jt F ((mK (aJ A) (qH [x.k.id])).map (kY [x.k.id]));rw[X2 (drop:=qH [x.k.id]) λ_ _=>rfl];refine af6 (a:=a) ?_;rw[tL];have hf:((x::y::r).map aR.p).filter (λp=> !((p.l.kind==2)&&[x.k.id].contains p.l.id))=r.map aR.p:=by
  rw[fq,fq,Jq (by simp[jm]),Jq (by simp[j9,Y])];refine JE λp hp=>?_;obtain⟨w,H,rfl⟩:=c_.1 hp;cases B:(w.p.l.kind==2)
  .rfl
  have:=Ky w H B;simp[this]
 rw[hf,kU];exact Ia
end
def iC(c e a:Nat):Nat:=if a=c then e else a
def tp(c e:Nat):iC c e c=e:=aI rfl
def tD(c e:Nat):iC c e e=e:=by unfold iC;split<;>rfl
def Rm{c e a:Nat}(h:a≠c):iC c e a=a:=aE h
def jv(g H E:Int)(l:U):U:=if(l.kind==1)&&((l.gate==g)&&decide (H<l.ao))then{l with ao:=l.ao+E}else l
def FX(g H E:Int)(p:aQ):dD g H E p=⟨jv g H E p.l,p.d⟩:=by unfold dD jv;split<;>rfl
def sT(g H E:Int):Bd (jv g H E):=by refine⟨λl=>?_,λl=>?_,λl=>?_⟩<;>unfold jv<;>split<;>rfl
def wg(g H E:Int)(l:U):(jv g H E l).gate=l.gate:=by unfold jv;split<;>rfl
def CG(g H E:Int)(l:U):(jv g H E l).id=l.id:=by unfold jv;split<;>rfl
def aEW{g:Int}{l:U}(h:l.au):jv g H E l=l:=by unfold jv;have:=mq h;unfold U.ay at this;rw[this];simp
def Py(g H E:Int)(k:Nat)(l:U):jw k (jv g H E l)=jw k l:=by unfold jw;rw[(sT g H E).ay,wg]
def Xr{g:Int}{l:U}(h:l.ay):(jv g H E l).ao=if l.gate=g/\H<l.ao then l.ao+E else l.ao:=by grind [jv,U.ay]
def Y_{g:Int}{l:U}(h:eK F l=false):eK F (jv g H E l)=false:=by
 rcases Dy h with hp|f
 .rw[nu hp]at h;rw[nu (by rw[(sT g H E).ay];exact hp),wg,CG,(sT g H E).sign,(sT g H E).over];exact h
 rw[aEW f];exact h
def aaw{l:bK}{drop:Nat->aQ->Bool}:∀d j,j+d<=I l->(∀i p,j<=i->i<j+d->drop i p=false)->wE l drop (j+d)=wE l drop j++(l.drop j).take d:=by
 intro d
 induction d with
 |zero=>intro j _ _;simp
 |succ d f=>intro j m h;obtain⟨p,hp⟩:=aP (h:=l) (k:=j+d) J;rw[show j+(d+1)=(j+d)+1 by omega,Pp hp (h _ _ J J),f j J λi p H n=>h i p H J,jM,E3,hp,k9];rfl
def PU{l:bK}{a:Nat}(N:a<I l)(n:2<=I l){p q:aQ}{r:bK}(e:l.drop a++l.take a=p::q::r):∃u v,(mK l λk _=>decide (k=a)||decide (k=(a+1)%I l))=u++v/\r=v++u:=by
 have f:∀i (p:aQ),i≠a->i≠(a+1)%I l->(λ(k:Nat) (_:aQ)=>decide (k=a)||decide (k=(a+1)%I l)) i p=false:=λi p j n=>by simp[j,n]
 have M:∀i (p:aQ),i=a\/i=(a+1)%I l->(λ(k:Nat) (_:aQ)=>decide (k=a)||decide (k=(a+1)%I l)) i p=true:=λi p h=>by simpa using h
 obtain⟨x,m⟩:=aP N;by_cases c:a+1<I l
 .obtain⟨y,H⟩:=aP c;rw[fC c]at f M |-;have D:=aaw (l:=l) a 0 J λi p _ h=>f i p J J;have B:=aaw (l:=l) (I l-(a+2)) (a+1+1) J λi p h _=>f i p J J;refine⟨l.take a,l.drop (a+2),?_,?_⟩
  .unfold mK;rw[show a+1+1+(I l-(a+2))=I l by omega,GR H (M (a+1) y (.inr rfl)),GR m (M a x (.inl rfl))]at B;rw[lh]at D;rw[B,D];have:wE l (λk _=>decide (k=a)||decide (k=a+1)) 0=[]:=rfl;rw[this,Lx,gM,eT (l:=l.drop (a+1+1)) Pi]
  have E:l.drop a=x::y::l.drop (a+2):=by
   obtain⟨j,E⟩:=bN.1 m;obtain⟨n,F⟩:=bN.1 H
   grind [yK]
  rw[E]at e;simp only[B2,Wl]at e;exact e.2.2.symm
 have ea:a+1=I l:=J;have L:(a+1)%I l=0:=by rw[ea,yN]
 rw[L]at f M |-;obtain⟨y,H⟩:=aP (h:=l) (k:=0) J;have z:=aaw (l:=l) (a-1) 1 J λi p h O=>f i p J J;refine⟨[],(l.drop 1).take (a-1),?_,?_⟩
 .unfold mK;rw[<-ea,GR m (M a x (.inl rfl))];rw[show 1+(a-1)=a by omega]at z;rw[z];rw[show(1:Nat)=0+1 from rfl,GR H (M 0 y (.inr rfl))];rfl
 have E:l.drop a=[x]:=by
  obtain⟨j,E⟩:=bN.1 m
  grind [yK]
 have F:l.take a=y::(l.drop 1).take (a-1):=by
  obtain⟨j,E⟩:=bN.1 H;have:l=y::l.drop 1:=by have:=yK j;rw[E,Lx]at this;exact this.symm
  conv=>lhs;rw[this]
  rw[show a=(a-1)+1 by omega,Oj];rfl
 rw[E,F]at e;simp only[B2,gM,Wl]at e;rw[j_];exact e.2.2.symm
section
variable {F:Nat} {A:ae}
def eN.ext'{s t:eN}(h:s.l=t.l)(f:s.r=t.r)(H:s.b=t.b):s=t:=by cases s;cases t;simp_all
def aw0(g:aU F A){i:Nat}(L:i<I A)(D:j<I A)(h:(kX A i).b≠(kX A j).b)(y:u/2=i)(n:v/2=j):gy A u≠gy A v:=λe=>by
 have m:∀d,d<2*I A->d<aX A:=λd B=>by unfold aX;omega
 obtain⟨w,H,z⟩:=G_ g (m u J);obtain⟨E,f,x⟩:=G_ g (m v J);rw[<-e,H]at f;cases f;have:=SV g (a8 H) z x J J;rw[y,n]at this;exact h (by show(!dn A _)= !dn A _;rw[this])
def aps(g:aU F A){a:Nat}(ha:a<I A)(h:td A a=some L):L=[]\/ ∃(x y:aR) (r:f_) (lo:Nat) (D:Nat->Nat) (s:eN) (T B:Nat->Nat->Nat) (S:aD),L=dT (mK (aJ A) λk _=>decide (k=a)||decide (k=(a+1)%I A)) x.k.gate ((lo:Int)+1) (-2)/\(aJ A).drop a++(aJ A).take a=(x::y::r).map aR.p/\(x.k.ay/\y.k.ay)/\(y.k.gate=x.k.gate/\0<=x.k.gate/\x.k.gate<=(F:Int))/\1<=lo/\((x.k.ao=lo/\y.k.ao=lo+1)\/(x.k.ao=lo+1/\y.k.ao=lo))/\(y.p.d=(!x.p.d)/\s.b= !x.p.d)/\r≠[]/\lo<=aZ (aO r) x.k.gate.toNat+1/\jN (s.mp D) (r.map (aR.mp D (jv x.k.gate ((lo:Int)+1) (-2)))) (s.mp D)/\iH F (r.map (aR.mp D (jv x.k.gate ((lo:Int)+1) (-2)))) T B S/\fV A<=I S+3/\
  (if(x.p.d==(x.k.ao==(lo:Int)))=true then(s.mp D).r else(s.mp D).l)=(if x.p.d=true then T x.k.gate.toNat (lo-1)else B x.k.gate.toNat (lo-1))/\(if x.p.d=true then B x.k.gate.toNat (lo-1)else T x.k.gate.toNat (lo-1))∉S:=by
 obtain⟨x,y,r,s,e,hx,hy,c,hp,tL,Nt,Nu,ji⟩:=St g ha;have q:=c.q;unfold td at h;have e1:(aJ A).getD a ⟨jJ,false⟩=x.p:=by rw[dM,hx];rfl
 have e2:(aJ A).getD ((a+1)%I A) ⟨jJ,false⟩=y.p:=by rw[dM,hy];rfl
 simp only[e1,e2]at h;split at h
 case isFalse=>cases h
 rename_i hc;simp only[cF,cW,gH,Bool.and_eq_false_iff,decide_eq_false_iff_not]at hc;obtain⟨jm,j9,jV,jj,az⟩:=hc;cases h;have px:x.k.ay:=by show(x.k.kind==1)=true;simp[jm]
 have py:y.k.ay:=by show(y.k.kind==1)=true;simp[j9]
 obtain⟨jr,ir,yH⟩:=hp;have ox:=(q.ok x aG).pb px;have oy:=(q.ok y aG).pb py;have aL:=q.pl y aG py;have gx:=((nu px).1 (q.ok x aG).bad).1.1.1;have rx:=q.rr x aG px;have ry:=q.rr y aG py;have xr:y.k.gate=x.k.gate:=jV.symm;rw[xr]at ry
 have Dh:∀z:f_,aq U.au (aO (x::y::z))=aq U.au (aO z):=λz=>by rw[eY,eY,(vp px).1,(vp py).1];omega
 have Ka:∀z:f_,aq U.ay (aO (x::y::z))=aq U.ay (aO z)+2:=λz=>by rw[eY,eY,(vp px).2,(vp py).2];omega
 have A2:∀(z:f_) k,aZ (aO (x::y::z)) k=aZ (aO z) k+if k=x.k.gate.toNat then 2 else 0:=λz k=>by
  show aq _ _=aq _ _+_;rw[eY,eY];have:∀w:aR,w.k.ay->w.k.gate=x.k.gate->(if jw k w.k=true then 1 else 0)=if k=x.k.gate.toNat then 1 else 0:=λw Q av=>by
   unfold jw;rw[Q,av];by_cases ck:k=x.k.gate.toNat
   .subst ck;simp[Hy gx.1]
   have:(x.k.gate==(k:Int))=false:=ro
   simp[this,ck]
  rw[this x px rfl,this y py xr];split<;>omega
 have h2:aq U.au (aO (x::y::r))=aq U.au A:=aH9
 have h3:aq U.ay (aO (x::y::r))=aq U.ay A:=aH9
 have aN:I A=I r+2:=ol
 obtain⟨lo,atW,UE,v7⟩:∃lo:Nat,1<=lo/\((x.k.ao=lo/\y.k.ao=lo+1)\/(x.k.ao=lo+1/\y.k.ao=lo))/\pR x.k.ao y.k.ao=lo+1:=by
  have Nk:pR x.k.ao y.k.ao-uV x.k.ao y.k.ao=1:=jj;unfold pR uV at Nk;unfold pR;by_cases c1:x.k.ao<y.k.ao
  .rw[aI c1]at Nk |-;rw[aE J]at Nk;exact⟨x.k.ao.toNat,J,.inl ⟨J,J⟩,J⟩
  rw[aE c1]at Nk |-;by_cases c2:y.k.ao<x.k.ao
  .rw[aI c2]at Nk;exact⟨y.k.ao.toNat,J,.inr ⟨J,J⟩,J⟩
  rw[aE c2]at Nk;omega
 have an:lo+1<=aZ (aO (x::y::r)) x.k.gate.toNat:=by rcases UE with⟨R,h2⟩|⟨R,h2⟩<;>omega
 have MZ:y.p.d= !x.p.d:=by have R:=oy.2;rw[ir,ox.1]at R;revert R;cases x.p.d<;>cases y.p.d<;>simp
 have ap:(((lo:Int)+1)==(lo:Int))=false:=ro
 obtain⟨m,M,m1,m2,m3,m4,m6,m7,m8⟩:∃m M:Nat,(y.o.mp (iC m M)=s.mp (iC m M))/\iC m M (fI A x.k.gate.toNat (lo+1))=iC m M (fI A x.k.gate.toNat (lo-1))/\iC m M (ft A x.k.gate.toNat (lo+1))=iC m M (ft A x.k.gate.toNat (lo-1))/\
   (∀t,(t=y.o.l\/t=y.o.r)->t=m\/t=s.l\/t=s.r)/\((if(x.p.d==(x.k.ao==(lo:Int)))=true then iC m M s.r else iC m M s.l)=(if x.p.d=true then iC m M (fI A x.k.gate.toNat (lo-1))else iC m M (ft A x.k.gate.toNat (lo-1))))/\((if x.p.d=true then ft A x.k.gate.toNat (lo-1)else fI A x.k.gate.toNat (lo-1))=x.o.l\/(if x.p.d=true then ft A x.k.gate.toNat (lo-1)else fI A x.k.gate.toNat (lo-1))=x.o.r)/\(m=y.o.l\/m=y.o.r):=by
  have hb:y.o.b=s.b:=by rw[oy.1,MZ,<-jr,ox.2]
  obtain⟨p1,p2,p3,p4⟩:=q.pl x aG px;obtain⟨Y,p6,Z,p8⟩:=aL;rw[xr]at Y p6 Z p8;unfold aR.up at p1 p2 Y p6;unfold aR.lo at p3 p4 Z p8;rw[MZ]at Y p6 Z p8;rw[jr]at p1 p2 p3 p4;rw[ir]at Y p6 Z p8;have done:∀m M,(iC m M y.o.l=iC m M s.l)->(iC m M y.o.r=iC m M s.r)->y.o.mp (iC m M)=s.mp (iC m M):=λm M R h2=>eN.ext' R h2 hb;rcases UE with⟨r1,r2⟩|⟨r1,r2⟩
  .have n1:x.k.ao.toNat=lo:=J;have n2:y.k.ao.toNat=lo+1:=J;rw[n1]at p1 p2 p3 p4;rw[n2]at Y p6 Z p8;rw[Jh]at Y Z;cases hd:x.p.d<;>rw[hd]at p1 p2 p3 p4 Y p6 Z p8<;>simp only[Hl,AL,iJ,if_false,if_true,mv]at p1 p2 p3 p4 Y p6 Z p8
   .have ee:y.o.r=s.r:=by rw[Z,p4]
    refine⟨y.o.l,s.l,done _ _ ?_ (by rw[ee]),by rw[<-p6,p1],by rw[<-p8,<-p3,tp,tD],?_,by rw[r1,y8];exact congrArg (iC y.o.l s.l) p3,.inl p1.symm,.inl rfl⟩
    .rw[tp,tD]
    rintro t (rfl|rfl)
    .exact .inl rfl
    exact .inr (.inr ee)
   have ee:y.o.l=s.l:=by rw[Y,p2]
   refine⟨y.o.r,s.r,done _ _ (by rw[ee]) ?_,by rw[<-p6,<-p1,tp,tD],by rw[<-p8,p3],?_,by rw[r1,y8];exact congrArg (iC y.o.r s.r) p1,.inr p3.symm,.inr rfl⟩
   .rw[tp,tD]
   rintro t (rfl|rfl)
   .exact .inr (.inl ee)
   exact .inl rfl
  have n1:x.k.ao.toNat=lo+1:=J;have n2:y.k.ao.toNat=lo:=J;rw[n1]at p1 p2 p3 p4;rw[n2]at Y p6 Z p8;rw[Jh]at p1 p3;cases hd:x.p.d<;>rw[hd]at p1 p2 p3 p4 Y p6 Z p8<;>simp only[Hl,AL,iJ,if_false,if_true,mv]at p1 p2 p3 p4 Y p6 Z p8
  .have ee:y.o.l=s.l:=by rw[p8,p3]
   refine⟨y.o.r,s.r,done _ _ (by rw[ee]) ?_,by rw[<-p2,Y],by rw[<-p4,<-Z,tp,tD],?_,by rw[r1,ap];exact(congrArg (iC y.o.r s.r) p4).trans (by rw[<-p4,<-Z,tp,tD];rfl),.inr Y.symm,.inr rfl⟩
   .rw[tp,tD]
   rintro t (rfl|rfl)
   .exact .inr (.inl ee)
   exact .inl rfl
  have ee:y.o.r=s.r:=by rw[p6,p1]
  refine⟨y.o.l,s.l,done _ _ ?_ (by rw[ee]),by rw[<-p2,<-Y,tp,tD],by rw[<-p4,Z],?_,by rw[r1,ap];exact(congrArg (iC y.o.l s.l) p2).trans (by rw[<-p2,<-Y,tp,tD];rfl),.inl Z.symm,.inl rfl⟩
  .rw[tp,tD]
  rintro t (rfl|rfl)
  .exact .inl rfl
  exact .inr (.inr ee)
 by_cases hr:∃w∈r,w.k.ay
 case neg=>
  left;have HW:aq U.ay (aO r)=0:=R4.2 λl hl qC=>by obtain⟨w,Q,rfl⟩:=c_.1 hl;exact hr ⟨w,Q,qC⟩
  have a0:aq U.au A=0:=by have eM:=q.ev;rw[h2]at eM;rw[Ka]at h3;rcases az with h|h<;>omega
  have:I A=2:=by have:=Vm g.ok;rw[Ka]at h3;omega
  have yD:r=[]:=yc.1 J;obtain⟨u,v,k1,k2⟩:=PU (by rw[dI];exact ha) Nm (by rw[tL];rfl);rw[dI]at k1;rw[yD]at k2;have k2:=k2.symm;simp only[ml,List.append_eq_nil_iff]at k2;unfold dT;rw[k1,k2.1,k2.2];rfl
 right;obtain⟨w0,IE,aB⟩:=hr;have Fe:=List.ne_nil_of_mem IE
 let D:=iC m M
 let hL:=jv x.k.gate (lo+1) (-2)
 let O:Nat->Nat->Nat:=λG k=>if G=x.k.gate.toNat then(if k<=lo-1 then D (fI A G k)else D (fI A G (k+2)))else D (fI A G k)
 let N:Nat->Nat->Nat:=λG k=>if G=x.k.gate.toNat then(if k<=lo-1 then D (ft A G k)else D (ft A G (k+2)))else D (ft A G k)
 have mC:aq U.au (aO (r.map (aR.mp D hL)))=aq U.au (aO r):=sy (λl=>(sT _ _ _).au l) r;have mG:∀k,aZ (aO (r.map (aR.mp D hL))) k=aZ (aO r) k:=λk=>sy (λl=>Py _ _ _ k l) r;have inr:∀w∈r,w∈x::y::r:=λw Q=>by simp[Q]
 have ad:∀w∈r,w.k.ay->w.k.gate=x.k.gate->w.k.ao<lo\/(lo:Int)+1<w.k.ao:=λw Q pw gw=>by obtain⟨d1,d2⟩:=iR.1 q.rk;obtain⟨d3,_⟩:=iR.1 d2;have n1:=d1 w (by simp[Q]) px pw gw.symm;have n2:=d3 w Q py pw (by rw[xr,gw]);rcases UE with⟨r1,r2⟩|⟨r1,r2⟩<;>omega
 have r7:∀w∈r,w.k.ay->(hL w.k).ao=if w.k.gate=x.k.gate/\(lo:Int)+1<w.k.ao then w.k.ao-2 else w.k.ao:=λw Q pw=>by have:=Xr (g:=x.k.gate) (H:=(lo:Int)+1) (E:= -2) pw;rw[show w.k.ao+ -2=w.k.ao-2 by omega]at this;exact this
 have ag:∀f:Nat->Nat->Nat,D (f x.k.gate.toNat (lo+1))=D (f x.k.gate.toNat (lo-1))->∀w∈r,w.k.ay->
   (D (f w.k.gate.toNat (w.k.ao.toNat-1))=(λG k=>if G=x.k.gate.toNat then(if k<=lo-1 then D (f G k)else D (f G (k+2)))else D (f G k)) (hL w.k).gate.toNat ((hL w.k).ao.toNat-1))/\
   D (f w.k.gate.toNat w.k.ao.toNat)=(λG k=>if G=x.k.gate.toNat then(if k<=lo-1 then D (f G k)else D (f G (k+2)))else D (f G k)) (hL w.k).gate.toNat (hL w.k).ao.toNat:=by
  intro f hf w Q pw;have gw:=((nu pw).1 (q.ok w (inr w Q)).bad).1.1.1;have a1:=(q.rr w (inr w Q) pw).1;rw[r7 w Q pw,wg _ _ _ _];by_cases uR:w.k.gate=x.k.gate
  .have ho:=ad w Q pw uR;simp only[uR,if_true,true_and];by_cases cr:(lo:Int)+1<w.k.ao
   .rw[aI cr];constructor
    .by_cases c4:(w.k.ao-2).toNat-1<=lo-1
     .rw[aI c4];have e3:w.k.ao.toNat-1=lo+1:=J;have e4:(w.k.ao-2).toNat-1=lo-1:=J;rw[e3,e4];exact hf
     rw[aE c4];congr 2;omega
    rw[aE J];congr 2;omega
   rw[aE cr];constructor
   .rw[aI J]
   rw[aI J]
  have:¬(w.k.gate.toNat=x.k.gate.toNat):=J;simp only[uR,false_and,if_false,aE this];exact⟨trivial,trivial⟩
 have j:∀f:Nat->Nat->Nat,D (f x.k.gate.toNat (lo+1))=D (f x.k.gate.toNat (lo-1))->∀k,
   ((λG k=>if G=x.k.gate.toNat then(if k<=lo-1 then D (f G k)else D (f G (k+2)))else D (f G k)) k (aZ (aO r) k)=D (f k (aZ (aO (x::y::r)) k)))/\
   (λG k=>if G=x.k.gate.toNat then(if k<=lo-1 then D (f G k)else D (f G (k+2)))else D (f G k)) k 0=D (f k 0):=by
  intro f hf k;rw[A2 r k];by_cases ck:k=x.k.gate.toNat
  .subst ck;simp only[if_true];rw[aI (bj _)];refine⟨?_,rfl⟩;rw[A2 r x.k.gate.toNat,aI rfl]at an;by_cases c4:aZ (aO r) x.k.gate.toNat<=lo-1
   .rw[aI c4];have e3:aZ (aO r) x.k.gate.toNat=lo-1:=J;rw[e3,show lo-1+2=lo+1 by omega];exact hf.symm
   rw[aE c4]
  simp only[aE ck,Ab];exact⟨trivial,trivial⟩
 have qn:kV F ([]++r.map (aR.mp D hL)) O N:=by
  refine kV.edit (X:=[x,y]) q (sT _ _ _) (λw Q=>Y_ (q.ok w (inr w Q)).bad) (λu hu v hv cu cv e=>?_) (λu hu v hv pu pv e1 e2=>?_) (λ_ h=>by cases h) List.Pairwise.nil List.Pairwise.nil (λ_ h=>by cases h) (λ_ h=>by cases h) ?_ (λ_ h=>by cases h) (λu hu cu=>?_) (λ_ h=>by cases h) (λu hu pu=>?_) (λ_ h=>by cases h) (λu hu pu=>?_) (λk hk=>?_) ?_
  .rw[CG,CG]at e;exact e
  .have Gg:u.k.gate=v.k.gate:=by rw[wg,wg]at e1;exact e1
   refine⟨Gg,?_⟩;have e2:=e2;rw[r7 u hu pu,r7 v hv pv]at e2;by_cases uR:u.k.gate=x.k.gate
   .have o1:=ad u hu pu uR;have o2:=ad v hv pv (Gg▸uR);simp only[uR,Gg▸uR,true_and]at e2;split at e2<;>split at e2<;>omega
   simp only[uR,Gg▸uR,false_and,if_false]at e2;exact e2
  .rw[gM,mC,<-Dh r];exact q.ev
  .rw[gM,mC,CG,<-Dh r];exact q.ids u (inr u hu) cu
  .rw[gM,wg,mG];show 1<=(hL u.k).ao/\(hL u.k).ao<=_;rw[r7 u hu pu];have R:=q.rr u (inr u hu) pu;rw[A2 r]at R;have gu:=((nu pu).1 (q.ok u (inr u hu)).bad).1.1.1;by_cases uR:u.k.gate=x.k.gate
   .have o1:=ad u hu pu uR;rw[uR]at R |-;rw[aI rfl]at R;rw[A2 r,aI rfl]at an;simp only[true_and];split<;>omega
   simp only[uR,false_and,if_false];rw[aE J]at R;exact R
  .obtain⟨t1,t2⟩:=ag (fI A) m2 u hu pu;obtain⟨b1,b2⟩:=ag (ft A) m3 u hu pu;exact⟨⟨t1,b1⟩,t2,b2⟩
  .rw[gM,mG];obtain⟨t1,t2⟩:=j (fI A) m2 k;obtain⟨b1,b2⟩:=j (ft A) m3 k;obtain⟨_,t3⟩:=j (fI A) m2 (k+1);obtain⟨_,b3⟩:=j (ft A) m3 (k+1);have:=q.gt k hk;exact⟨by rw[show O k _=_ from t1,this.1];exact t3.symm,by rw[show N k _=_ from b1,this.2];exact b3.symm⟩
  rw[gM,mG];obtain⟨t1,t2⟩:=j (fI A) m2 F;obtain⟨b1,b2⟩:=j (ft A) m3 F;obtain⟨_,t3⟩:=j (fI A) m2 0;obtain⟨_,b3⟩:=j (ft A) m3 0;have:=q.gz;exact⟨by rw[show O F _=_ from t1,this.1];exact t3.symm,by rw[show N F _=_ from b1,this.2];exact b3.symm⟩
 have Ia:iH F (r.map (aR.mp D hL)) O N ([]++(List.range (fV A)).filter λs=> ![m,x.o.l,x.o.r].contains s)/\fV A+I ([]:aD)<=I ([]++(List.range (fV A)).filter λs=> ![m,x.o.l,x.o.r].contains s)+[m,x.o.l,x.o.r].length:=by
  refine kV.Ym (X:=[x,y]) qn c.nd (λt ht=>c.wit t ht) (LJ _) ⟨s.mp D,?_⟩ ?_ (λt _ ht=>Rm λe=>ht aIA) (λw Q t ht ew EH=>?_) pW (λt ht=>by cases ht) (λt ht=>by cases ht) AC ?_
  .have:=HJ (D:=D) (h:=hL) yH;rwa[show y.o.mp D=s.mp D from m1]at this
  .refine⟨w0.mp D hL,?_,?_⟩
   .rw[gM];exact c_.2 ⟨w0,IE,rfl⟩
   show(hL w0.k).ay=true;rw[(sT _ _ _).ay];exact aB
  .obtain⟨v,hv,Nq⟩:=Vi yH Fe;simp only[dh,e_,or_false,Ag]at Q EH;have ag:t=s.l\/t=s.r:=by
    rcases Q with rfl|rfl
    .rcases ew with ew|ew
     .exact absurd ew EH.2.1
     exact absurd ew EH.2.2
    rcases m4 t ew with h|h
    .exact absurd h EH.1
    exact h
   refine⟨v.mp D hL,by rw[gM];exact c_.2 ⟨v,hv,rfl⟩,?_⟩;show t=D v.o.l\/t=D v.o.r;rw[Nq];have:D t=t:=Rm EH.1;rcases ag with h|h
   .left;rw[<-h,this]
   right;rw[<-h,this]
  rw[gM,mC,sy (λl=>(sT _ _ _).ay l) r];have R:=g.nw;rw[Dh]at h2;rw[Ka]at h3;simp only[fB,fF];omega
 have ar:=HJ (D:=D) (h:=hL) yH;rw[show y.o.mp D=s.mp D from m1]at ar;have tT:O x.k.gate.toNat (lo-1)=D (fI A x.k.gate.toNat (lo-1)):=wd
 have tB:N x.k.gate.toNat (lo-1)=D (ft A x.k.gate.toNat (lo-1)):=wd
 have ak:x=eQ A a:=by rw[BO ha]at Nt;exact(mQ Nt).symm
 have am:nx A a<I A:=dB _ J;have aj:y=eQ A (nx A a):=by rw[BO am]at Nu;exact(mQ Nu).symm
 have aw:(kX A a).b≠(kX A (nx A a)).b:=by
  have e1:x.o.b=(kX A a).b:=by rw[ak];rfl
  have e2:y.o.b=(kX A (nx A a)).b:=by rw[aj];rfl
  rw[<-e1,<-e2,ox.1,oy.1,MZ];cases x.p.d<;>decide
 have aF:∀n,(n=x.o.l\/n=x.o.r)->n≠m:=λn hn e=>by
  have y1:y.o.l=gy A (2*nx A a):=by rw[aj];rfl
  have y2:y.o.r=gy A (2*nx A a+1):=by rw[aj];rfl
  have x1:x.o.l=gy A (2*a):=by rw[ak];rfl
  have x2:x.o.r=gy A (2*a+1):=by rw[ak];rfl
  rw[y1,y2]at m8;rw[x1,x2]at hn;rcases hn with R|R<;>rcases m8 with h2|h2
  all_goals
   rw[R,h2]at e;exact(λR h2=>aw0 g ha am aw R h2) J J e
 refine⟨x,y,r,lo,D,s,O,N,_,by rw[<-v7],tL,⟨px,py⟩,⟨xr,gx⟩,atW,UE,⟨MZ,by rw[<-jr];exact ox.2⟩,Fe,?_,ar,Ia.1,by simpa using Ia.2,?_,?_⟩
 .have:=A2 r x.k.gate.toNat;rw[aI rfl]at this;omega
 .rw[tT,tB];exact m6
 rw[tT,tB];have kh:∀n,(n=x.o.l\/n=x.o.r)->D n∉([]++(List.range (fV A)).filter λs=> ![m,x.o.l,x.o.r].contains s):=λn hn hm=>by rw[show D n=n from Rm (aF n hn)]at hm;have:=(rv.1 hm).2;rcases hn with rfl|rfl<;>simp at this
 cases hd:x.p.d<;>rw[hd]at m7
 .exact kh _ m7
 exact kh _ m7
def amr(g:aU F A){a:Nat}(j:a<I A)(h:td A a=some L):L=[]\/jt F L:=by
 rcases aps g j h with h|⟨x,y,r,lo,D,s,T,B,S,rfl,m,_,_,_,_,_,M,_,_,E,_⟩
 .exact .inl h
 right;have z:jt F (r.map λw=>dD x.k.gate (lo+1) (-2) w.p):=by refine⟨_,_,_,_,?_,E⟩;rw[kU];refine s7 λw _=>?_;rw[FX];rfl
 have H:2<=I A:=by grind [ct,dI]
 obtain⟨u,v,f,n⟩:=PU (by rw[dI];exact j) (by rw[dI];exact H) (by rw[m];rfl);rw[dI]at f;show jt F ((mK (aJ A) λk _=>decide (k=a)||decide (k=(a+1)%I A)).map (dD x.k.gate (lo+1) (-2)));rw[f,iT];refine jt.nk ?_;rw[<-iT,<-n,kU];exact z
end
section
variable {F:Nat} {A:ae}
def Xe(g:aU F A){pl:Nat}{E:aD}{j:Nat}(H:j<I A)(h:pN F A pl E j):∃w,w∈eX (aT A) (aX A)/\(jc F A w).places.length=pl/\(I (w.filter λx=>decide (x<2*I A))=I E)/\ ∀e∈E,∃d,d∈w/\d<2*I A/\d/2=e:=by
 have m:∀f∈dA F A,yU f pl E->∃w,w∈eX (aT A) (aX A)/\(jc F A w).places.length=pl/\(I (w.filter λx=>decide (x<2*I A))=I E)/\ ∀e∈E,∃d,d∈w/\d<2*I A/\d/2=e:=by
  intro f hf n;obtain _:=c_.1 hf
  grind [yU,zd,xW,zF]
 unfold pN at h
 grind [Jg]
def amX{D:aD}(h:I D=2)(f:x∈D)(H:y∈D)(A:x≠y){z:Nat}(j:z∈D):z=x\/z=y:=by
 match D,h with
 |[p,q],_=>grind
def M0{e:Nat}(h:e<I A){l:U}(hl:A[nx A e]?=some l)(H:l.au):aT A (2*e)=dS (I A) (iV A (nx A e)) (c3 l):=by
 have:2*e=jB (I A) (nx A e) true:=by unfold jB nx;rw[aI rfl,DF h]
 grind [yZ,c3]
def NQ{e:Nat}{l:U}(hl:A[e]?=some l)(h:l.au):aT A (2*e+1)=dS (I A) (iV A e) (!c3 l):=by
 have:2*e+1=jB (I A) e false:=rfl
 grind [yZ,c3]
def AG{b:Bool}(h:dS (I A) v b=x):(b/\x=2*v)\/(b=false/\x=2*((v+I A-1)%I A)+1):=by
 cases b
 .exact .inr ⟨rfl,h.symm⟩
 exact .inl ⟨rfl,h.symm⟩
theorem EC{e:Nat}(H:v<I A)(h:(v+I A-1)%I A=e):v=nx A e:=by unfold nx;rw[<-h,yW H]
theorem Ap(ok:fY F A){l m:U}(hl:A[v]?=some l)(h:l.au)(H:A[u]?=some m)(f:iV A v=u):c3 m= !c3 l/\m.au/\m.id=l.id:=by
 obtain _:=qy ok.cr hl h
 grind [c3]
def UU(ok:fY F A){l:U}(hl:A[v]?=some l)(h:l.au):iV A v<I A:=by
 obtain _:=qy ok.cr hl h
 grind
def aF6(g:aU F A){a b:Nat}(ha:a<I A)(hb:b<I A){L R X Y:U}(z:A[a]?=some L)(O:A[nx A a]?=some R)(Q:A[b]?=some X)(H:A[nx A b]?=some Y)
  (cx:L.au) (cy:R.au) (T:X.au) (B:Y.au) (jF:L.id≠R.id) (Cm:X.id≠Y.id) (dE:a≠b) (h:pN F A 0 [a,b] a):c3 L= !c3 R:=by
 have ok:=g.ok;obtain⟨w,hw,_,M,hE⟩:=Xe g ha h;obtain⟨D,vL,sC,vM⟩:=hE a aG;obtain⟨n,w8,tA,vN⟩:=hE b aG;have u:∀d,d∈w->d<2*I A->d∈w.filter λx=>decide (x<2*I A):=λd h1 Z=>rv.2 ⟨h1,by simpa using Z⟩;have two:=λd h1 Z=>amX M (u D vL sC) (u n w8 tA) J (u d h1 Z);have N:∀d,d∈w->aT A d∈w:=λd hd=>uB (nc ok) hw hd;have str:∀(v:Nat) (b:Bool),v<I A->dS (I A) v b<2*I A:=λv b H=>by have:=zi H (!b);rw[<-tX]at this;have:=vi this;rwa[vz]at this
 have oy:=UU ok O cy;have ox:=UU ok z cx;have ou:=UU ok Q T;have ov:=UU ok H B
 have na:(D=2*a/\aT A D=dS (I A) (iV A (nx A a)) (c3 R))\/(D=2*a+1/\aT A D=dS (I A) (iV A a) (!c3 L)):=by
  rcases rN D with c|c
  .have:D=2*a:=J;exact .inl ⟨this,by rw[this];exact M0 ha O cy⟩
  have:D=2*a+1:=J;exact .inr ⟨this,by rw[this];exact NQ z cx⟩
 have nb:(n=2*b/\aT A n=dS (I A) (iV A (nx A b)) (c3 Y))\/(n=2*b+1/\aT A n=dS (I A) (iV A b) (!c3 X)):=by
  rcases rN n with c|c
  .have:n=2*b:=J;exact .inl ⟨this,by rw[this];exact M0 hb H B⟩
  have:n=2*b+1:=J;exact .inr ⟨this,by rw[this];exact NQ Q T⟩
 have ta:=two _ (N _ vL) (by rcases na with⟨_,e⟩|⟨_,e⟩<;>rw[e]<;>exact str _ _ t6);have tb:=two _ (N _ w8) (by rcases nb with⟨_,e⟩|⟨_,e⟩<;>rw[e]<;>exact str _ _ t6);have ag:aT A D=n:=by
  rcases ta with e|e
  .exfalso;rcases na with⟨m,E⟩|⟨m,E⟩
   .rw[e]at E;rcases AG E.symm with⟨_,f⟩|⟨_,f⟩
    .exact jF (Ap ok O cy z J).2.2
    omega
   rw[e]at E;rcases AG E.symm with⟨_,f⟩|⟨_,f⟩
   .omega
   exact jF (Ap ok z cx O (EC ox J)).2.2.symm
  exact e
 have ad:aT A n=D:=by
  rcases tb with e|e
  .exact e
  exfalso;rcases nb with⟨m,E⟩|⟨m,E⟩
  .rw[e]at E;rcases AG E.symm with⟨_,f⟩|⟨_,f⟩
   .exact Cm (Ap ok H B Q J).2.2
   omega
  rw[e]at E;rcases AG E.symm with⟨_,f⟩|⟨_,f⟩
  .omega
  exact Cm (Ap ok Q T H (EC ou J)).2.2.symm
 rcases na with⟨ea,m⟩|⟨ea,m⟩<;>rcases nb with⟨eb,E⟩|⟨eb,E⟩<;>rw[ag]at m<;>rw[ad]at E
 .rcases AG m.symm with⟨g1,f⟩|⟨g1,f⟩<;>rcases AG E.symm with⟨j,y⟩|⟨j,y⟩<;>try omega
  have:=(Ap ok H B z J).1;rw[this,g1,j]
 .rcases AG m.symm with⟨g1,f⟩|⟨g1,f⟩<;>rcases AG E.symm with⟨j,y⟩|⟨j,y⟩<;>try omega
  have:=(Ap ok Q T z J).1;rw[this,g1,j];rfl
 .rcases AG m.symm with⟨g1,f⟩|⟨g1,f⟩<;>rcases AG E.symm with⟨j,y⟩|⟨j,y⟩<;>try omega
  have:=(Ap ok H B O (EC ov J)).1;rw[this,j];revert g1;cases c3 L<;>simp
 rcases AG m.symm with⟨g1,f⟩|⟨g1,f⟩<;>rcases AG E.symm with⟨j,y⟩|⟨j,y⟩<;>try omega
 grind [Ap,EC,c3]
def Jo{x p w:aR}(m:pD x p)(H:pD x w)(u:pD p w)(f:x.k.au)(h:p.k.au)(j:w.k.au)(E:x.k.id=p.k.id):w.k.id≠x.k.id:=by
 intro n;have a:=(m f h E).ov;rw[(H f j n.symm).ov]at a;rw[(u h j J).ov]at a
 grind
def Tr{α:Type}{z:List α}{a:Nat}(f:a<I z)(H:j<I z):(z.drop a++z.take a)[j]?=z[(a+j)%I z]? :=by
 by_cases h:a+j<I z
 .rw[yY ii,E3,fC h]
 rw[uJ ii,sD,sB,aI J,Sg J,fC J];congr 1;omega
def aq1{α:Type}{r:List α}{u v:α}(h:r[j]?=some u)(H:r[j+1]?=some v):r=r.take j++u::v::r.drop (j+2):=by
 obtain _:=bN.1 h;obtain _:=bN.1 H
 grind [yK,mW]
end
def Tf{p q w:Int}{l:U}(H:l.au)(h:l.id=w):(fN [p,q] l).id=w-(if p<w then 1 else 0)-(if q<w then 1 else 0):=by grind [al1]
section
variable {F:Nat} {A:ae}
def agA(g:aU F A){a b:Nat}(ha:a<I A)(hb:b<I A)(h:sV F A a b=some L):∃(x y u v:aR) (R Y:f_) (D:Nat->Nat) (s s2:eN) (T B:Nat->Nat->Nat) (S:aD),L=pV (aJ A) [x.k.id,y.k.id]/\(aJ A).drop a++(aJ A).take a=(x::y::(R++u::v::Y)).map aR.p/\(R≠[]/\Y≠[])/\
  (x.k.au/\y.k.au/\u.k.au/\v.k.au)/\(x.k.over=y.k.over/\u.k.over=v.k.over/\x.k.over≠u.k.over)/\x.k.id≠y.k.id/\(∀w∈R++Y,w.k.au->w.k.id≠x.k.id/\w.k.id≠y.k.id)/\c3 x.k=(!c3 y.k)/\
  (jN (s.mp D) (R.map (aR.mp D (fN [x.k.id,y.k.id]))) (s2.mp D)/\jN (s2.mp D) (Y.map (aR.mp D (fN [x.k.id,y.k.id]))) (s.mp D))/\iH F ((R++Y).map (aR.mp D (fN [x.k.id,y.k.id]))) T B S/\fV A<=I S+2/\
  ∃ad:Bool,(if ad=true then(u.k.id=y.k.id/\v.k.id=x.k.id)/\u.k.sign=y.k.sign/\v.k.sign=x.k.sign else(u.k.id=x.k.id/\v.k.id=y.k.id)/\u.k.sign=x.k.sign/\v.k.sign=y.k.sign)/\(if(c3 x.k==ad)=true then(s.mp D).l else(s.mp D).r)=(if c3 x.k=true then(s2.mp D).l else(s2.mp D).r):=by
 obtain⟨x,y,r0,s,e,hx,hy,c,hp,tL,Nt,Nu,ji⟩:=St g ha;have q:=c.q;have mj:=BS A;unfold sV at h;split at h
 case isFalse=>cases h
 rename_i hc;simp only[cF,nK,cW,gH,nj]at hc;obtain⟨JZ,aN,Qy,lD,sN,EK⟩:=hc;have pa:=jL hx;have pb:=jL hy;cases h;have a0:nx A b<I A:=dB _ J;have aL:nx A a<I A:=dB _ J;obtain⟨u,Ns⟩:=aP (h:=fj A) (k:=b) J;obtain⟨v,Q0⟩:=aP (h:=fj A) (k:=nx A b) J;have pc:=jL (by rw[<-vH,fX,Ns];rfl);have pd:=jL (by rw[<-vH,fX,Q0];rfl);rw[pa,pb]at aN;rw[pa,pb,pc,pd]at Qy
 have kinds:x.k.au/\y.k.au/\u.k.au/\v.k.au/\x.k.over=y.k.over/\u.k.over=v.k.over/\x.k.over≠u.k.over:=by
  have bo:∀e ov,jf A e ov->(bR A e).l.au/\(bR A (nx A e)).l.au/\(bR A e).l.over=ov/\(bR A (nx A e)).l.over=ov:=λe ov h=>by unfold jf at h;simp only[cF,cW]at h;obtain⟨M,H,h3,h4⟩:=h;exact⟨by unfold U.au;rw[M];rfl,by unfold U.au;rw[H];rfl,h3,h4⟩
  rcases JZ with⟨M,H⟩|⟨M,H⟩<;>obtain⟨n,Z,Q,O⟩:=bo _ _ M<;>obtain⟨b1,b2,b3,b4⟩:=bo _ _ H
  all_goals
   rw[pa]at n Q;rw[pb]at Z O;rw[pc]at b1 b3;rw[pd]at b2 b4;refine⟨n,Z,b1,b2,?_,?_,?_⟩
   .show x.p.l.over=y.p.l.over;rw[Q,O]
   .show u.p.l.over=v.p.l.over;rw[b3,b4]
   show x.p.l.over≠u.p.l.over;rw[Q,b3];decide
 obtain⟨cx,cy,cu,cv,Sd,ar,N5⟩:=kinds;have jF:=aN;have Gz:(u.k.id=x.k.id/\v.k.id=y.k.id)\/(u.k.id=y.k.id/\v.k.id=x.k.id):=Qy;have Cm:u.k.id≠v.k.id:=by
  rcases Gz with⟨M,H⟩|⟨M,H⟩
  .rw[M,H];exact jF
  rw[M,H];exact jF.symm
 have dE:a≠b:=by
  rintro rfl
  rw[Nt]at Ns;cases Ns;exact N5 rfl
 have lx:A[a]?=some x.k:=by have:=AT Nt;rwa[jG]at this
 have ly:A[nx A a]?=some y.k:=by have:=AT Nu;rwa[jG]at this
 have lu:A[b]?=some u.k:=by have:=AT Ns;rwa[jG]at this
 have lv:A[nx A b]?=some v.k:=by have:=AT Q0;rwa[jG]at this
 have hg:=aF6 g ha hb lx ly lu lv cx cy cu cv jF Cm dE EK
 obtain⟨j,M8,mE,Il⟩:∃j,j+3<I A/\(a+(j+2))%I A=b/\(a+(j+3))%I A=nx A b:=by
  have UI:nx A a≠b:=by intro e;rw[e,Ns]at Nu;cases Nu;exact N5 Sd
  have ZF:nx A b≠a:=by intro e;rw[e,Nt]at Q0;cases Q0;exact N5 ar.symm
  unfold nx at UI ZF |-;by_cases R:a<b
  .have e1:(a+1)%I A=a+1:=fC J;rw[e1]at UI;have H:b≠a+1:=λh=>UI h.symm;have h3:¬(b+1=I A/\a=0):=λ⟨h3,h4⟩=>ZF (by rw[h3,yN,h4]);refine⟨b-a-2,J,?_,?_⟩
   .rw[show a+(b-a-2+2)=b by omega,fC hb]
   rw[show a+(b-a-2+3)=b+1 by omega]
  have e1:(b+1)%I A=b+1:=fC J;rw[e1]at ZF;have h3:¬(a+1=I A/\b=0):=λ⟨h3,h4⟩=>UI (by rw[h3,yN,h4]);refine⟨b+I A-a-2,J,?_,?_⟩
  .rw[show a+(b+I A-a-2+2)=b+I A by omega,rn,fC hb]
  rw[show a+(b+I A-a-2+3)=b+1+I A by omega,rn]
 have av:r0[j]?=some u:=by have:=Tr (z:=fj A) (a:=a) (j:=j+2) J J;rw[e,mj,mE,Ns]at this;exact this
 have Ff:r0[j+1]?=some v:=by have:=Tr (z:=fj A) (a:=a) (j:=j+3) J J;rw[e,mj,Il,Q0]at this;exact this
 have rT:=aq1 av Ff;obtain⟨R,Y,Iz,atx,Kc⟩:∃R Y,r0=R++u::v::Y/\I R=j/\I Y+j+4=I A:=by
  refine⟨_,_,rT,?_,?_⟩
  .have:=(bN.1 av).1;rw[ko];omega
  have M:=(bN.1 Ff).1;have H:=ji.length_eq;rw[mj]at H;simp only[fF]at H;rw[sD];omega
 subst Iz
 obtain⟨jr,ir,yH⟩:=hp;obtain⟨s2,mf,Dz,xB,oZ⟩:=Bj.1 yH;have Dt:j≠0:=by
  rintro rfl
  exact lD mE
 have aw:Y≠[]:=by
  rintro rfl
  simp only[fB]at Kc;refine sN ?_;rw[<-mE,V5,show a+(j+2)+2=a+I A by omega,rn,fC ha]
 have jm:R≠[]:=by rintro rfl;simp at atx;omega
 have q4:kV F ([x,y,u,v]++(R++Y)) (fI A) (ft A):=by refine q.perm ?_;refine List.Perm.cons x (List.Perm.cons y ?_);exact GV.trans (List.Perm.cons u GV)
 obtain⟨w1,q5⟩:=iR.1 q4.cr;obtain⟨w2,q6⟩:=iR.1 q5;obtain⟨w3,q7⟩:=iR.1 q6;obtain⟨w4,q8⟩:=iR.1 q7;have am:=w1 u aG;have aj:=w1 v aG;have ak:=w2 u aG;have an:=w2 v aG;have OF:∀w∈R++Y,w.k.au->w.k.id≠x.k.id/\w.k.id≠y.k.id:=λw hw cw=>by
  have n:=w1 w (vv [y,u,v] hw);have Z:=w2 w (vv [u,v] hw);have Q:=w3 w (vv [v] hw);have O:=w4 w hw;rcases Gz with⟨M,H⟩|⟨M,H⟩
  .exact⟨Jo am n Q cx cu cw M.symm,Jo an Z O cy cv cw H.symm⟩
  exact⟨Jo aj n O cx cv cw H.symm,Jo ak Z Q cy cu cw M.symm⟩
 have bx:=(q4.ok x aG).cb cx;have E:=(q4.ok y aG).cb cy;have bu:=(q4.ok u aG).cb cu;have bv:=(q4.ok v aG).cb cv;rw[jr]at bx;rw[ir]at E;rw[xB]at bv
 obtain⟨m,N,bg,m4,m1,m2,m3⟩:∃m N bg:Nat,(∃ad:Bool,(if ad=true then(u.k.id=y.k.id/\v.k.id=x.k.id)/\u.k.sign=y.k.sign/\v.k.sign=x.k.sign else(u.k.id=x.k.id/\v.k.id=y.k.id)/\u.k.sign=x.k.sign/\v.k.sign=y.k.sign)/\(if(c3 x.k==ad)=true then(s.mp (iC m N)).l else(s.mp (iC m N)).r)=(if c3 x.k=true then(s2.mp (iC m N)).l else(s2.mp (iC m N)).r))/\y.o.mp (iC m N)=s.mp (iC m N)/\v.o.mp (iC m N)=s2.mp (iC m N)/\
   (∀t,(t=x.o.l\/t=x.o.r)\/(t=y.o.l\/t=y.o.r)\/(t=u.o.l\/t=u.o.r)\/(t=v.o.l\/t=v.o.r)->t=m\/t=bg\/(t=s.l\/t=s.r)\/(t=s2.l\/t=s2.r)):=by
  have cU:y.o.b=s.b:=by rw[<-E,<-bx]
  have bh:v.o.b=s2.b:=by rw[<-bv,<-bu,Dz]
  have fin:∀m N,iC m N y.o.l=iC m N s.l->iC m N y.o.r=iC m N s.r->iC m N v.o.l=iC m N s2.l->iC m N v.o.r=iC m N s2.r->y.o.mp (iC m N)=s.mp (iC m N)/\v.o.mp (iC m N)=s2.mp (iC m N):=λm N k1 k2 k3 k4=>⟨eN.ext' k1 k2 cU,eN.ext' k3 k4 bh⟩;rcases Gz with⟨M,H⟩|⟨M,H⟩
  .have SG:=(am cx cu M.symm).sg.symm;have SI:=(an cy cv H.symm).sg.symm;have p1:=(am cx cu M.symm).x4;have p2:=(an cy cv H.symm).x4;rw[jr,Dz]at p1;rw[ir,xB]at p2;obtain⟨n,Z,Q,O⟩:=p1;obtain⟨b1,b2,b3,b4⟩:=p2;cases xn:c3 x.k
   .have xr:c3 y.k:=by revert hg;rw[xn];cases c3 y.k<;>simp
    rw[xn]at n Z Q O;rw[xr]at b1 b2 b3 b4;simp only[iJ,if_false,if_true]at n Z Q O b1 b2 b3 b4;refine⟨y.o.l,s.l,x.o.r,?_⟩;have f:=fin y.o.l s.l (by rw[tp,tD]) (by rw[b2,O]) (by rw[<-b1,Q]) (by rw[b4,<-n,tp,tD]);refine⟨⟨false,by rw[aE aa];exact⟨⟨M,H⟩,SG,SI⟩,congrArg (iC y.o.l s.l) n⟩,f.1,f.2,?_⟩;rintro t ((rfl|rfl)|(rfl|rfl)|(rfl|rfl)|(rfl|rfl))
    .exact .inr (.inr (.inr (.inl Q.symm)))
    .exact .inr (.inl rfl)
    .exact .inl rfl
    .exact .inr (.inr (.inl (.inr (b2.trans O))))
    .exact .inr (.inl Z.symm)
    .exact .inr (.inr (.inl (.inr O)))
    .exact .inr (.inr (.inr (.inl (by rw[<-b1,Q]))))
    exact .inl b4
   have xr:c3 y.k=false:=aHN
   rw[xn]at n Z Q O;rw[xr]at b1 b2 b3 b4;simp only[iJ,if_false,if_true]at n Z Q O b1 b2 b3 b4;refine⟨y.o.r,s.r,x.o.l,?_⟩;have f:=fin y.o.r s.r (by rw[<-b3,n]) (by rw[tp,tD]) (by rw[Q,<-b2,tp,tD]) (by rw[b4,Z]);refine⟨⟨false,by rw[aE aa];exact⟨⟨M,H⟩,SG,SI⟩,congrArg (iC y.o.r s.r) Q.symm⟩,f.1,f.2,?_⟩;rintro t ((rfl|rfl)|(rfl|rfl)|(rfl|rfl)|(rfl|rfl))
   .exact .inr (.inl rfl)
   .exact .inr (.inr (.inr (.inr Z)))
   .exact .inr (.inr (.inl (.inl (by rw[<-b3,n]))))
   .exact .inl rfl
   .exact .inr (.inr (.inl (.inl n.symm)))
   .exact .inr (.inl O)
   .exact .inl b2.symm
   exact .inr (.inr (.inr (.inr (b4.trans Z))))
  have SG:=(ak cy cu M.symm).sg.symm;have SI:=(aj cx cv H.symm).sg.symm;have p1:=(aj cx cv H.symm).x4;have p2:=(ak cy cu M.symm).x4;rw[jr,xB]at p1;rw[ir,Dz]at p2;obtain⟨n,Z,Q,O⟩:=p1;obtain⟨b1,b2,b3,b4⟩:=p2;cases xn:c3 x.k
  .have xr:c3 y.k:=by revert hg;rw[xn];cases c3 y.k<;>simp
   rw[xn]at n Z Q O;rw[xr]at b1 b2 b3 b4;simp only[iJ,if_false,if_true]at n Z Q O b1 b2 b3 b4;refine⟨y.o.r,s.r,x.o.l,?_⟩;have f:=fin y.o.r s.r (by rw[n,<-b4]) (by rw[tp,tD]) (by rw[<-Z,b3]) (by rw[O,<-b2,tp,tD]);refine⟨⟨true,by rw[aI rfl];exact⟨⟨M,H⟩,SG,SI⟩,(congrArg (iC y.o.r s.r) O.symm).trans (congrArg eN.r f.2)⟩,f.1,f.2,?_⟩;rintro t ((rfl|rfl)|(rfl|rfl)|(rfl|rfl)|(rfl|rfl))
   .exact .inr (.inl rfl)
   .exact .inr (.inr (.inr (.inl b3.symm)))
   .exact .inr (.inr (.inl (.inl (by rw[n,<-b4]))))
   .exact .inl rfl
   .exact .inr (.inl b1.symm)
   .exact .inr (.inr (.inl (.inl (by rw[n]))))
   .exact .inr (.inr (.inr (.inl (by rw[<-Z,b3]))))
   exact .inr (.inr (.inl (.inr O)))
  have xr:c3 y.k=false:=aHN
  rw[xn]at n Z Q O;rw[xr]at b1 b2 b3 b4;simp only[iJ,if_false,if_true]at n Z Q O b1 b2 b3 b4;refine⟨y.o.l,s.l,x.o.r,?_⟩;have f:=fin y.o.l s.l (by rw[tp,tD]) (by rw[b2,Q]) (by rw[<-n,b3,tp,tD]) (by rw[O,b1]);refine⟨⟨true,by rw[aI rfl];exact⟨⟨M,H⟩,SG,SI⟩,(congrArg (iC y.o.l s.l) n).trans (congrArg eN.l f.2)⟩,f.1,f.2,?_⟩;rintro t ((rfl|rfl)|(rfl|rfl)|(rfl|rfl)|(rfl|rfl))
  .exact .inr (.inr (.inr (.inr b1)))
  .exact .inr (.inl rfl)
  .exact .inl rfl
  .exact .inr (.inr (.inl (.inr (by rw[b2,Q]))))
  .exact .inr (.inr (.inl (.inr Q)))
  .exact .inr (.inl b4)
  .exact .inr (.inr (.inl (.inl n.symm)))
  exact .inr (.inr (.inr (.inr (O.trans b1))))
 have Dh:∀z:f_,aq U.au (aO ([x,y,u,v]++z))=aq U.au (aO z)+4:=λz=>by rw[qL,eY,eY,eY,eY,uz,(lK cx).1,(lK cy).1,(lK cu).1,(lK cv).1];omega
 have Ka:∀z:f_,aq U.ay (aO ([x,y,u,v]++z))=aq U.ay (aO z):=λz=>by rw[qL,eY,eY,eY,eY,uz,(lK cx).2,(lK cy).2,(lK cu).2,(lK cv).2];omega
 have A2:∀(z:f_) k,aZ (aO ([x,y,u,v]++z)) k=aZ (aO z) k:=λz k=>by show aq _ _=aq _ _;rw[qL,eY,eY,eY,eY,uz,Bc k cx,Bc k cy,Bc k cu,Bc k cv];simp
 have ag:([x,y,u,v]++(R++Y)).Perm (fj A):=by refine List.Perm.trans (List.Perm.symm ?_) ji;refine List.Perm.cons x (List.Perm.cons y ?_);exact GV.trans (List.Perm.cons u GV)
 have H:aq U.au (aO ([x,y,u,v]++(R++Y)))=aq U.au A:=by rw[wO ag,jG]
 have h3:aq U.ay (aO ([x,y,u,v]++(R++Y)))=aq U.ay A:=by rw[wO ag,jG]
 have eM:=q4.ev
 let D:=iC m N
 let hL:=fN [x.k.id,y.k.id]
 let r:=R++Y
 have mC:aq U.au (aO (r.map (aR.mp D hL)))=aq U.au (aO r):=sy (λl=>(An _).au l) r;have cL:aq U.ay (aO (r.map (aR.mp D hL)))=aq U.ay (aO r):=sy (λl=>(An _).ay l) r;have mG:∀k,aZ (aO (r.map (aR.mp D hL))) k=aZ (aO r) k:=λk=>sy (λl=>ai9 _ k l) r;have M6:∀w∈[x,y,u,v]++r,w.k.au->1<=w.k.id/\w.k.id<=((aq U.au (aO r)/2:Nat):Int)+2:=λw hw hc=>by have:=q4.ids w hw hc;rw[Dh]at this;show 1<=w.k.id/\w.k.id<=((aq U.au (aO (R++Y))/2:Nat):Int)+2;omega
 have a5:=M6 x aG cx;have aF:=M6 y aG cy;have inr:∀w∈r,w∈[x,y,u,v]++r:=λw hw=>vv _ hw;have qn:kV F ([]++r.map (aR.mp D hL)) (λG k=>D (fI A G k)) (λG k=>D (ft A G k)):=by
  refine kV.edit q4 (An _) (λw hw=>ajo (q4.ok w (inr w hw)).bad) (λp hp o ho cp co e=>?_) (λp hp o ho pp po e1 e2=>?_) (λ_ h=>by cases h) List.Pairwise.nil List.Pairwise.nil (λ_ h=>by cases h) (λ_ h=>by cases h) ?_ (λ_ h=>by cases h) (λp hp cp=>?_) (λ_ h=>by cases h) (λp hp pp=>?_) (λ_ h=>by cases h) (λp hp pp=>?_) (λk hk=>?_) ?_
  .obtain⟨n1,n2⟩:=OF p hp cp;obtain⟨n3,n4⟩:=OF o ho co;rw[Tf cp rfl,Tf co rfl]at e;split at e<;>split at e<;>split at e<;>split at e<;>omega
  .have e1:(fN [x.k.id,y.k.id] p.k).gate=(fN [x.k.id,y.k.id] o.k).gate:=e1;have e2:(fN [x.k.id,y.k.id] p.k).ao=(fN [x.k.id,y.k.id] o.k).ao:=e2;rw[Dr pp,Dr po]at e1 e2;exact⟨e1,e2⟩
  .rw[gM,mC];rw[Dh]at eM;show aq U.au (aO (R++Y))%2=0;omega
  .rw[gM,mC];show 1<=(fN [x.k.id,y.k.id] p.k).id/\(fN [x.k.id,y.k.id] p.k).id<=_;rw[Tf cp rfl];have M:=M6 p (inr p hp) cp;obtain⟨n1,n2⟩:=OF p hp cp;have aB:=jF;split<;>split<;>omega
  .rw[gM,mG];show 1<=(fN [x.k.id,y.k.id] p.k).ao/\(fN [x.k.id,y.k.id] p.k).ao<=((aZ (aO r) (fN [x.k.id,y.k.id] p.k).gate.toNat:Nat):Int);rw[Dr pp,<-A2 r];exact q4.rr p (inr p hp) pp
  .show(D _=D (fI A (fN [x.k.id,y.k.id] p.k).gate.toNat ((fN [x.k.id,y.k.id] p.k).ao.toNat-1))/\D _=D (ft A (fN [x.k.id,y.k.id] p.k).gate.toNat ((fN [x.k.id,y.k.id] p.k).ao.toNat-1)))/\D _=D (fI A (fN [x.k.id,y.k.id] p.k).gate.toNat (fN [x.k.id,y.k.id] p.k).ao.toNat)/\D _=D (ft A (fN [x.k.id,y.k.id] p.k).gate.toNat (fN [x.k.id,y.k.id] p.k).ao.toNat);rw[Dr pp];exact⟨⟨rfl,rfl⟩,rfl,rfl⟩
  .rw[gM,mG,<-A2 r];obtain⟨t1,t2⟩:=q4.gt k hk;exact⟨congrArg D t1,congrArg D t2⟩
  rw[gM,mG,<-A2 r];obtain⟨t1,t2⟩:=q4.gz;exact⟨congrArg D t1,congrArg D t2⟩
 have e1:=HJ (D:=D) (h:=hL) mf;have e2:=HJ (D:=D) (h:=hL) oZ;rw[show y.o.mp D=s.mp D from m1]at e1;rw[show v.o.mp D=s2.mp D from m2]at e2;obtain⟨hz,hlen⟩:iH F (r.map (aR.mp D hL)) (λG k=>D (fI A G k)) (λG k=>D (ft A G k)) ([]++(List.range (fV A)).filter λs=> ![m,bg].contains s)/\fV A+I ([]:aD)<=I ([]++(List.range (fV A)).filter λs=> ![m,bg].contains s)+[m,bg].length:=by
  refine kV.Ym (X:=[x,y,u,v]) qn FN (λt ht=>?_) (LJ _) ⟨s.mp D,?_⟩ ?_ (λt _ ht=>Rm λe=>ht aIA) (λw hw t ht ew EH=>?_) pW (λt ht=>by cases ht) (λt ht=>by cases ht) AC ?_
  .obtain⟨w,hw,ew⟩:=c.wit t ht;refine⟨w,?_,ew⟩;have:w∈fj A:=ji.mem_iff.1 hw;exact ag.mem_iff.2 this
  .show jN (s.mp D) ((R++Y).map (aR.mp D hL)) (s.mp D);rw[iT];exact Bj.2 ⟨_,e1,e2⟩
  .obtain⟨w,hw,tN⟩:=c.one;have wA:w∈[x,y,u,v]++r:=ag.mem_iff.2 (ji.mem_iff.1 hw);rcases iI.1 wA with h|h
   .exfalso;simp only[dh,e_,or_false]at h;rcases h with rfl|rfl|rfl|rfl
    .rw[mq cx]at tN;cases tN
    .rw[mq cy]at tN;cases tN
    .rw[mq cu]at tN;cases tN
    rw[mq cv]at tN;cases tN
   refine⟨w.mp D hL,by rw[gM];exact c_.2 ⟨w,h,rfl⟩,?_⟩;show(fN [x.k.id,y.k.id] w.k).ay=true;rw[(An _).ay];exact tN
  .simp only[dh,e_,or_false,Ag]at hw EH;have az:=m3 t (by
    rcases hw with rfl|rfl|rfl|rfl
    .exact .inl ew
    .exact .inr (.inl ew)
    .exact .inr (.inr (.inl ew))
    exact .inr (.inr (.inr ew)))
   have ap:D t=t:=Rm EH.1;have dL:∀d∈r,(t=d.o.l\/t=d.o.r)->∃y'∈[]++r.map (aR.mp D hL),t=y'.o.l\/t=y'.o.r:=λd hd h=>by
    refine⟨d.mp D hL,by rw[gM];exact c_.2 ⟨d,hd,rfl⟩,?_⟩;rcases h with h|h
    .left;show t=D d.o.l;rw[<-h,ap]
    right;show t=D d.o.r;rw[<-h,ap]
   rcases az with h|h|h|h
   .exact absurd h EH.1
   .exact absurd h EH.2
   .obtain⟨d,hd,ed⟩:=Vi oZ aw;exact dL d (vv _ hd) (by rw[ed];exact h)
   obtain⟨d,hd,ed⟩:=Vi mf jm;exact dL d (Hw _ hd) (by rw[ed];exact h)
  rw[gM,mC,cL];have M:=g.nw;rw[Dh]at H;rw[Ka]at h3;show aq U.ay (aO (R++Y))+aq U.au (aO (R++Y))/2+1+2<=_;simp only[fB];omega
 refine⟨x,y,u,v,R,Y,D,s,s2,_,_,_,?_,tL,⟨jm,aw⟩,⟨cx,cy,cu,cv⟩,⟨Sd,ar,N5⟩,jF,OF,hg,⟨e1,e2⟩,hz,by simpa using hlen,m4⟩;rw[pa,pb]
def an9(g:aU F A){a b:Nat}(ha:a<I A)(O:b<I A)(h:sV F A a b=some L):jt F L:=by
 obtain⟨x,y,u,v,M,N,D,s,s2,T,B,S,rfl,tL,_,⟨Y,Q,cu,R⟩,_,_,Z,_,_,hz,_,f,m,_⟩:=agA g ha O h;have E:(u.k.id=x.k.id\/u.k.id=y.k.id)/\(v.k.id=x.k.id\/v.k.id=y.k.id):=by
  cases f
  .rw[aE aa]at m;exact⟨.inl m.1.1,.inr m.1.2⟩
  rw[aI rfl]at m;exact⟨.inr m.1.1,.inl m.1.2⟩
 let r:=M++N
 have Ia:jt F (r.map λw=>kY [x.k.id,y.k.id] w.p):=by refine⟨_,_,_,_,?_,hz⟩;rw[kU];refine s7 λw _=>?_;rw[ad4];rfl
 show jt F ((mK (aJ A) (qH [x.k.id,y.k.id])).map (kY [x.k.id,y.k.id]));rw[X2 (drop:=qH [x.k.id,y.k.id]) λ_ _=>rfl];refine af6 (a:=a) ?_;rw[tL];have z:=R;have n:∀d∈r,(λp:aQ=> !((p.l.kind==2)&&[x.k.id,y.k.id].contains p.l.id)) d.p:=λd H=>by
  show(!((d.p.l.kind==2)&&_))=true;cases X:(d.p.l.kind==2)
  .rfl
  obtain⟨n1,n2⟩:=Z d H X;simp[n1,n2]
 have j:∀(d:aR) (t:bK),(d.p.l.kind==2)->(d.k.id=x.k.id\/d.k.id=y.k.id)->(d.p::t).filter (λp=> !((p.l.kind==2)&&[x.k.id,y.k.id].contains p.l.id))=t.filter (λp=> !((p.l.kind==2)&&[x.k.id,y.k.id].contains p.l.id)):=λd t H h=>by grind
 have hf:((x::y::(M++u::v::N)).map aR.p).filter (λp=> !((p.l.kind==2)&&[x.k.id,y.k.id].contains p.l.id))=r.map aR.p:=by
  rw[fq,fq,j x _ Y (.inl rfl),j y _ Q (.inr rfl),iT,yQ,fq,fq,
   j u _ cu E.1,j v _ z E.2]
  rw[<-yQ,<-iT];refine JE λp hp=>?_;obtain⟨d,H,rfl⟩:=c_.1 hp;exact n d H
 rw[hf,kU];exact Ia
end
def PW{α:Type}{z:List α}{a:Nat}{x:α}(h:z[a]?=some x):z=z.take a++x::z.drop (a+1):=by
 obtain _:=bN.1 h
 grind [yK,mW]
def avD{Z z:f_}{x X:aR}{s:eN}(hp:jN s (Z++x::z) s)(u:X.i=x.i.mp D)(H:X.o=x.o.mp D):jN (s.mp D) (Z.map (aR.mp D h)++X::z.map (aR.mp D h)) (s.mp D):=by obtain⟨m,j,f,n⟩:=Bj.1 hp;exact Bj.2 ⟨m.mp D,HJ j,by rw[u,f],by rw[H];exact HJ n⟩
def Td{w:aR}{G:Nat}(h:w.k.ay)(H:w.k.gate=(G:Int))(k:Nat):(if jw k w.k=true then 1 else 0)=if k=G then 1 else 0:=by grind [jw]
def acI{l:bK}{f:aQ->aQ}{i:Nat}{p q:aQ}(hp:l[i]?=some p):(l.map f).set i q=(l.take i).map f++q::(l.drop (i+1)).map f:=by
 have hl:=(bN.1 hp).1
 conv=>lhs;rw[PW hp]
 rw[iT,fq,Nl _ _ ii,ct,ko,zx J,BU];rfl
section
variable {F:Nat} {A:ae}
def aqk(g:aU F A){a:Nat}{x:aR}(hx:(fj A)[a]?=some x)(Q:x.k.ay){G j:Nat}(hG:x.k.gate=(G:Int))(Qc:j<=F)(aN:j≠G){g' R:Int}
  (kh:∀w∈(fj A).take a++(fj A).drop (a+1),w.k.ay->(1<=(jv g' H E w.k).ao/\(jv g' H E w.k).ao<=((aZ A w.k.gate.toNat:Nat):Int)+(if w.k.gate.toNat=j then 1 else 0)-(if w.k.gate.toNat=G then 1 else 0))/\(w.k.gate=(j:Int)->(jv g' H E w.k).ao≠R))
  (ag:∀u∈(fj A).take a++(fj A).drop (a+1),∀v∈(fj A).take a++(fj A).drop (a+1),u.k.ay->v.k.ay->u.k.gate=v.k.gate->(jv g' H E u.k).ao=(jv g' H E v.k).ao->u.k.ao=v.k.ao)
  (jj:1<=R/\R<=(aZ A j:Int)+1)
  (hT:∀f B:Nat->Nat->Nat,(f=fI A/\B=O)\/(f=ft A/\B=N)->(f x.k.gate.toNat (x.k.ao.toNat-1)=B j (R.toNat-1)/\f x.k.gate.toNat x.k.ao.toNat=B j R.toNat)/\
   (∀w∈(fj A).take a++(fj A).drop (a+1),w.k.ay->f w.k.gate.toNat (w.k.ao.toNat-1)=B w.k.gate.toNat ((jv g' H E w.k).ao.toNat-1)/\f w.k.gate.toNat w.k.ao.toNat=B w.k.gate.toNat (jv g' H E w.k).ao.toNat)/\
   (∀k,k<F->B k (aZ A k+(if k=j then 1 else 0)-(if k=G then 1 else 0))=B (k+1) 0)/\B F (aZ A F+(if F=j then 1 else 0)-(if F=G then 1 else 0))=B 0 0):
  jt F (((aJ A).take a).map (dD g' H E)++⟨{x.k with gate:=(j:Int),ao:=R},x.p.d⟩::((aJ A).drop (a+1)).map (dD g' H E)):=by
 have c:=g.cz;have hz:=PW hx
 let Z:=(fj A).take a
 let M:=(fj A).drop (a+1)
 let z:aR:=⟨⟨{x.k with gate:=(j:Int),ao:=R},x.p.d⟩,x.i,x.o⟩
 have Ol:z.k.ay:=Q;have ji:(fj A).Perm ([x]++(Z++M)):=by
  conv=>lhs;rw[hz]
  exact GV
 have q:=c.q.perm ji
 let r:=Z++M
 let n:=jv g' H E
 have mG:∀k,aZ (aO (r.map (aR.mp id n))) k=aZ (aO r) k:=λk=>sy (λl=>Py _ _ _ k l) r;have tC:aq U.au A=aq U.au (aO r):=by have:=wO (p:=U.au) ji;rw[jG,qL,eY,uz,(vp Q).1]at this;show _=aq U.au (aO (Z++M));rw[this];omega
 have tP:aq U.ay A=aq U.ay (aO r)+1:=by have:=wO (p:=U.ay) ji;rw[jG,qL,eY,uz,(vp Q).2]at this;show _=aq U.ay (aO (Z++M))+1;rw[this];omega
 have tG:∀k,aZ A k=aZ (aO r) k+if k=G then 1 else 0:=λk=>by have:=wO (p:=jw k) ji;rw[jG,qL,eY,uz,Td Q hG]at this;show aq _ _=aq (jw k) (aO (Z++M))+_;rw[this];omega
 have nC:aq U.au (aO ([z]++r.map (aR.mp id n)))=aq U.au A:=by rw[qL,eY,uz,(vp Ol).1,sy (λl=>(sT _ _ _).au l) r,tC];omega
 have aY:aq U.ay (aO ([z]++r.map (aR.mp id n)))=aq U.ay A:=by rw[qL,eY,uz,(vp Ol).2,sy (λl=>(sT _ _ _).ay l) r,tP];omega
 have nG:∀k,aZ (aO ([z]++r.map (aR.mp id n))) k=aZ A k+(if k=j then 1 else 0)-(if k=G then 1 else 0):=λk=>by
  have D:aZ (aO ([z]++r.map (aR.mp id n))) k=(if k=j then 1 else 0)+aZ (aO (r.map (aR.mp id n))) k:=by show aq _ _=_+aq _ _;rw[qL,eY,uz,Td Ol rfl];omega
  rw[D,mG,tG];split<;>split<;>omega
 have ad:=oV Ol;have ak:eK F z.k=false:=by have:=(nu Q).1 (c.ok x (a8 hx)).bad;refine(nu Ol).2 ?_;exact⟨⟨⟨⟨by show(0:Int)<=(j:Int);omega,by show(j:Int)<=(F:Int);omega⟩,this.1.1.2⟩,this.1.2⟩,this.2⟩
 have inr:∀w∈r,w∈[x]++r:=λw m=>vv _ m;have tx:=hT (fI A) O (.inl ⟨rfl,rfl⟩);have bx:=hT (ft A) N (.inr ⟨rfl,rfl⟩);have aj:=q.pl x aG Q;have qn:kV F ([z]++r.map (aR.mp id n)) O N:=by
  refine kV.edit q (sT _ _ _) (λw m=>Y_ (q.ok w (inr w m)).bad) (λu y v hv cu cv e=>?_) (λu y v hv T pv D e2=>?_) (λw m=>?_) (FE ..) (FE ..) (λu y w m=>?_) (λu y w m T pw D e2=>?_) (by rw[nC];have:=c.ev;rwa[jG]at this) (λw m cw=>?_) (λu y cu=>?_) (λw m pw=>?_) (λu y T=>?_) (λw m pw=>?_) (λu y T=>?_) (λk hk=>?_) ?_
  .rw[CG,CG]at e;exact e
  .have Gg:u.k.gate=v.k.gate:=by rw[wg,wg]at D;exact D
   exact⟨Gg,ag u y v hv T pv Gg e2⟩
  .rw[nI]at m;subst m;exact⟨ak,λh=>absurd h (by rw[ad];decide),λ_=>(c.ok x (a8 hx)).pb Q⟩
  .rw[nI]at y;subst y;exact adY ad
  .rw[nI]at y;subst y;have D:(j:Int)=(n w.k).gate:=D;exact(kh w m (by rw[<- (sT g' H E).ay];exact pw)).2 (by rw[D];exact(wg _ _ _ _).symm) e2.symm
  .rw[nI]at m;subst m;rw[ad]at cw;cases cw
  .rw[nC,CG,<-jG A];exact c.ids u (ji.mem_iff.2 (inr u y)) cu
  .rw[nI]at m;subst m;rw[nG];show 1<=R/\R<=((aZ A ((j:Int)).toNat+(if((j:Int)).toNat=j then 1 else 0)-(if((j:Int)).toNat=G then 1 else 0):Nat):Int);rw[lJ,aI rfl,aE aN];omega
  .rw[wg,nG];obtain⟨⟨a1,a2⟩,_⟩:=kh u y T;refine⟨a1,?_⟩;have kO:(if u.k.gate.toNat=G then 1 else 0)<=aZ A u.k.gate.toNat:=by rw[tG];omega
   have a2:(n u.k).ao<=((aZ A u.k.gate.toNat:Nat):Int)+(if u.k.gate.toNat=j then 1 else 0)-(if u.k.gate.toNat=G then 1 else 0):=a2;show(n u.k).ao<=((aZ A u.k.gate.toNat+(if u.k.gate.toNat=j then 1 else 0)-(if u.k.gate.toNat=G then 1 else 0):Nat):Int);by_cases Y:u.k.gate.toNat=j<;>by_cases h2:u.k.gate.toNat=G
   .rw[aI Y,aI h2]at a2 |-;rw[aI h2]at kO;omega
   .rw[aI Y,aE h2]at a2 |-;omega
   .rw[aE Y,aI h2]at a2 |-;rw[aI h2]at kO;omega
   rw[aE Y,aE h2]at a2 |-;omega
  .rw[nI]at m;subst m;obtain⟨p1,p2,p3,p4⟩:=aj;obtain⟨⟨t1,t2⟩,_⟩:=tx;obtain⟨⟨b1,b2⟩,_⟩:=bx;have e0:z.k.gate.toNat=j:=lJ _;constructor
   .rw[e0];exact p1.trans t1
   .rw[e0];exact p2.trans t2
   .rw[e0];exact p3.trans b1
   rw[e0];exact p4.trans b2
  .rw[wg];obtain⟨t1,t2⟩:=tx.2.1 u y T;obtain⟨b1,b2⟩:=bx.2.1 u y T;exact⟨⟨t1,b1⟩,t2,b2⟩
  .rw[nG];exact⟨tx.2.2.1 k hk,bx.2.2.1 k hk⟩
  rw[nG];exact⟨tx.2.2.2,bx.2.2.2⟩
 obtain⟨s,hp⟩:=c.path;rw[hz]at hp;refine kV.done (X:=[x]) (L:=[]) (z:=Z.map (aR.mp id n)++z::M.map (aR.mp id n)) qn c.nd (λt ht=>?_) ?_ ⟨s.mp id,avD hp rfl rfl⟩ ?_ ⟨z,aG,Ol⟩ (λ_ _ _=>rfl) (λw m t ht ew _=>?_) pW (λt ht=>by cases ht) (λt ht=>by cases ht) AC ?_
 .obtain⟨w,m,ew⟩:=c.wit t ht;exact⟨w,ji.mem_iff.1 m,ew⟩
 .show(Z.map (aR.mp id n)++z::M.map (aR.mp id n)).Perm ([z]++(Z++M).map (aR.mp id n));rw[iT];exact GV
 .have Y:∀t:f_,(t.map (aR.mp id n)).map aR.p=(t.map aR.p).map (dD g' H E):=λt=>by
   rw[kU,kU];refine s7 λw _=>?_;show _=dD g' H E w.p;rw[FX];rfl
  rw[iT,fq,Y,Y];show(((fj A).take a).map aR.p).map _++_::(((fj A).drop (a+1)).map aR.p).map _=_;rw[uC,uN,vH]
 .rw[nI]at m;subst m;exact⟨z,aG,ew⟩
 rw[nC,aY];have:=g.nw;simp only[fB];omega
def aeS(g:aU F A){a:Nat}(ha:a<I A)(h:wY F A a=some L):jt F L:=by
 have mj:=BS A;obtain⟨x,R⟩:=aP (h:=fj A) (k:=a) J;have Z:(aJ A)[a]?=some x.p:=by rw[<-vH,fX,R];rfl
 unfold wY at h;rw[jL Z]at h;split at h
 case isFalse=>cases h
 rename_i hc;simp only[cF,cW,fL]at hc;obtain⟨h1,h2,X⟩:=hc;cases h;have c:=g.cz;have T:x.k.ay:=by show(x.k.kind==1)=true;simp[h1]
 have rx:=c.rr x (a8 R) T;rw[jG]at rx;have X:=X;have h2:x.k.gate<(F:Int):=h2;have Q:=(Hy (((nu T).1 (c.ok x (a8 R)).bad).1.1.1).1).symm;generalize x.k.gate.toNat=G at Q X rx;have ji:(fj A).Perm (x::((fj A).take a++(fj A).drop (a+1))):=by
  conv=>lhs;rw[PW R]
  exact GV
 have m:∀w∈(fj A).take a++(fj A).drop (a+1),w.k.ay->(0<=w.k.gate/\w.k.gate<=(F:Int))/\1<=w.k.ao/\w.k.ao<=(aZ A w.k.gate.toNat:Int)/\(w.k.gate=(G:Int)->w.k.ao≠x.k.ao):=λw z pw=>by have wA:=ji.mem_iff.2 (zb _ z);have r1:=c.rr w wA pw;rw[jG]at r1;refine⟨((nu pw).1 (c.ok w wA).bad).1.1.1,r1.1,r1.2,λB y=>?_⟩;exact(iR.1 (c.q.perm ji).rk).1 w z T pw (by rw[Q,B]) y.symm
 have rk:∀w:aR,w.k.ay->(jv ((G:Int)+1) 0 1 w.k).ao=if w.k.gate=(G:Int)+1/\0<w.k.ao then w.k.ao+1 else w.k.ao:=λw pw=>Xr pw;have ag:x.k.gate.toNat=G:=by rw[Q];exact lJ _
 have ad:x.k.ao.toNat=aZ A G:=by rw[X];exact lJ _
 have M:=aqk g R T (j:=G+1) Q J J (g':=(G:Int)+1) (H:=0) (E:=1) (R:=1)
  (O:=λk j=>if k=G+1 then(if j=0 then fI A G (aZ A G-1)else fI A (G+1) (j-1))else fI A k j)
  (N:=λk j=>if k=G+1 then(if j=0 then ft A G (aZ A G-1)else ft A (G+1) (j-1))else ft A k j) ?_ ?_ ⟨J,J⟩ ?_
 .have e:qi (dT (aJ A) (x.p.l.gate+1) 0 1) a (x.p.l.gate+1) 1=((aJ A).take a).map (dD ((G:Int)+1) 0 1)++⟨{x.k with gate:=((G+1:Nat):Int),ao:=1},x.p.d⟩::((aJ A).drop (a+1)).map (dD ((G:Int)+1) 0 1):=by
   unfold qi;have gO:(dT (aJ A) (x.p.l.gate+1) 0 1)[a]?=some x.p:=by
    show((aJ A).map _)[a]?=_;rw[fX,Z];show some (dD _ _ _ x.p)=_;rw[FX];congr 1;have:jv (x.p.l.gate+1) 0 1 x.p.l=x.p.l:=by unfold jv;rw[aE];simp only[cF,cW,not_and];intro _ h;omega
    rw[this]
   rw[dM,gO,mw];rw[show dT (aJ A) (x.p.l.gate+1) 0 1=(aJ A).map (dD (x.p.l.gate+1) 0 1)from rfl,acI Z,Q];rfl
  rw[e];exact M
 .intro w z pw;obtain⟨o1,o2,o3,o4⟩:=m w z pw;rw[rk w pw];refine⟨?_,λe=>?_⟩
  .by_cases D:w.k.gate=(G:Int)+1
   .rw[aI ⟨D,J⟩,aI J,aE J];omega
   rw[aE J,aE J];by_cases n:w.k.gate=(G:Int)
   .rw[aI J];have:=o4 n;have e3:w.k.gate.toNat=G:=J;rw[e3]at o3 |-;omega
   rw[aE J];omega
  rw[aI ⟨J,J⟩];omega
 .intro u hu v hv pu pv B y;rw[rk u pu,rk v pv]at y;obtain⟨_,o2,_⟩:=m u hu pu;obtain⟨_,o3,_⟩:=m v hv pv;split at y<;>split at y<;>omega
 intro f f' Gw;have hf:f'=λk j=>if k=G+1 then(if j=0 then f G (aZ A G-1)else f (G+1) (j-1))else f k j:=ST
 have jV:∀k,k<F->f k (aZ A k)=f (k+1) 0:=λk Y=>by
  have:=c.gt k Y;rw[jG]at this;rcases Gw with⟨rfl,_⟩|⟨rfl,_⟩
  .exact this.1
  exact this.2
 have Kk:f F (aZ A F)=f 0 0:=by
  have:=c.gz;rw[jG]at this;rcases Gw with⟨rfl,_⟩|⟨rfl,_⟩
  .exact this.1
  exact this.2
 rw[hf,ag,ad];refine⟨⟨?_,?_⟩,λw z pw=>?_,λk Y=>?_,?_⟩
 .simp
 .simp[jV G J]
 .obtain⟨o1,o2,o3,o4⟩:=m w z pw;rw[rk w pw];by_cases D:w.k.gate=(G:Int)+1
  .have B:w.k.gate.toNat=G+1:=J;have y:(w.k.ao+1).toNat=w.k.ao.toNat+1:=J;have e3:w.k.ao.toNat≠0:=J;rw[aI ⟨D,J⟩,B,y];simp[e3]
  have B:w.k.gate.toNat≠G+1:=J;rw[aE J];simp[B]
 .by_cases D:k=G
  .subst D;simp
  by_cases n:k=G+1
  .subst n;simp[jV _ Y]
  have:k+1≠G+1:=J;simp[D,n,jV k Y]
 have aj:F≠G:=J;by_cases n:F=G+1
 .rw[n]at Kk;simp[n,Kk]
 simp[aj,n,Kk]
end
section
variable {F:Nat} {A:ae}
def Zs(g:aU F A){a:Nat}(ha:a<I A)(h:xE A a=some L):jt F L:=by
 have mj:=BS A;obtain⟨x,T⟩:=aP (h:=fj A) (k:=a) J;have gR:(aJ A)[a]?=some x.p:=by rw[<-vH,fX,T];rfl
 unfold xE at h;rw[jL gR]at h;split at h
 case isFalse=>cases h
 rename_i hc;simp only[cF,cW,fL]at hc;obtain⟨h1,h2,R⟩:=hc;cases h;have c:=g.cz;have px:x.k.ay:=by show(x.k.kind==1)=true;simp[h1]
 have gx:=((nu px).1 (c.ok x (a8 T)).bad).1.1.1;have rx:=c.rr x (a8 T) px;rw[jG]at rx;have R:=R;have h2:0<x.k.gate:=h2;obtain⟨G,hG⟩:∃G:Nat,x.k.gate=((G+1:Nat):Int):=⟨x.k.gate.toNat-1,J⟩;have X:x.k.gate.toNat=G+1:=by rw[hG];exact lJ _
 rw[X]at rx;have ji:(fj A).Perm (x::((fj A).take a++(fj A).drop (a+1))):=by
  conv=>lhs;rw[PW T]
  exact GV
 have z:∀w∈(fj A).take a++(fj A).drop (a+1),w.k.ay->(0<=w.k.gate/\w.k.gate<=(F:Int))/\1<=w.k.ao/\w.k.ao<=(aZ A w.k.gate.toNat:Int)/\(w.k.gate=((G+1:Nat):Int)->w.k.ao≠1):=λw D pw=>by have wA:=ji.mem_iff.2 (zb _ D);have r1:=c.rr w wA pw;rw[jG]at r1;refine⟨((nu pw).1 (c.ok w wA).bad).1.1.1,r1.1,r1.2,λy B=>?_⟩;exact(iR.1 (c.q.perm ji).rk).1 w D px pw (by rw[hG,y]) (by rw[R,B])
 have rk:∀w:aR,w.k.ay->(jv ((G+1:Nat):Int) 1 (-1) w.k).ao=if w.k.gate=((G+1:Nat):Int)/\1<w.k.ao then w.k.ao-1 else w.k.ao:=λw pw=>by rw[Xr pw];rfl
 have ad:x.k.ao.toNat=1:=by rw[R];rfl
 have Q:=aqk g T px (j:=G) hG J J (g':=((G+1:Nat):Int)) (H:=1) (E:= -1) (R:=((aZ A G+1:Nat):Int))
  (O:=λk j=>if k=G+1 then fI A (G+1) (j+1)else if k=G then(if j<=aZ A G then fI A G j else fI A (G+1) 1)else fI A k j)
  (N:=λk j=>if k=G+1 then ft A (G+1) (j+1)else if k=G then(if j<=aZ A G then ft A G j else ft A (G+1) 1)else ft A k j) ?_ ?_ ⟨J,J⟩ ?_
 .have Gx:=hG;have Kj:x.p.l.gate-1=(G:Int):=by rw[Gx];omega
  have e:qi (dT (aJ A) x.p.l.gate 1 (-1)) a (x.p.l.gate-1) ((aZ A (x.p.l.gate-1).toNat+1:Nat):Int)=((aJ A).take a).map (dD ((G+1:Nat):Int) 1 (-1))++⟨{x.k with gate:=(G:Int),ao:=((aZ A G+1:Nat):Int)},x.p.d⟩::((aJ A).drop (a+1)).map (dD ((G+1:Nat):Int) 1 (-1)):=by
   unfold qi;have gO:(dT (aJ A) x.p.l.gate 1 (-1))[a]?=some x.p:=by
    show((aJ A).map _)[a]?=_;rw[fX,gR];show some (dD _ _ _ x.p)=_;rw[FX];congr 1;have:jv x.p.l.gate 1 (-1) x.p.l=x.p.l:=by unfold jv;rw[aE];simp only[cF,cW,fL,not_and];intro _ _ h;have vR:=R;omega
    rw[this]
   rw[dM,gO,mw];rw[show dT (aJ A) x.p.l.gate 1 (-1)=(aJ A).map (dD x.p.l.gate 1 (-1))from rfl,acI gR,Kj,Gx,lJ]
  rw[e];exact Q
 .intro w D pw;obtain⟨o1,o2,o3,Z⟩:=z w D pw;rw[rk w pw];refine⟨?_,λe=>?_⟩
  .by_cases m:w.k.gate=((G+1:Nat):Int)
   .have:=Z m;rw[aI ⟨m,J⟩,aE J,aI J];omega
   rw[aE J,aE (show¬w.k.gate.toNat=G+1 by omega)];split<;>omega
  rw[aE J];have e3:w.k.gate.toNat=G:=J;rw[e3]at o3;omega
 .intro u hu v hv pu pv y B;rw[rk u pu,rk v pv]at B;obtain⟨_,o2,_,Z⟩:=z u hu pu;obtain⟨_,o3,_,o5⟩:=z v hv pv;by_cases m:u.k.gate=((G+1:Nat):Int)
  .have n1:=Z m;have n2:=o5 (by rw[<-y,m]);rw[aI ⟨m,J⟩,aI ⟨by rw[<-y,m],J⟩]at B;omega
  rwa[aE J,aE (by rw[<-y];omega)]at B
 intro f M Gw;have hf:M=λk j=>if k=G+1 then f (G+1) (j+1)else if k=G then(if j<=aZ A G then f G j else f (G+1) 1)else f k j:=ST
 have jV:∀k,k<F->f k (aZ A k)=f (k+1) 0:=λk hk=>by
  have:=c.gt k hk;rw[jG]at this;rcases Gw with⟨rfl,_⟩|⟨rfl,_⟩
  .exact this.1
  exact this.2
 have Kk:f F (aZ A F)=f 0 0:=by
  have:=c.gz;rw[jG]at this;rcases Gw with⟨rfl,_⟩|⟨rfl,_⟩
  .exact this.1
  exact this.2
 have kO:1<=aZ A (G+1):=J;have mr:∀j,M (G+1) j=f (G+1) (j+1):=λj=>by rw[hf];exact aI rfl
 have v2:∀j,j<=aZ A G->M G j=f G j:=λj hj=>by rw[hf];show(if G=G+1 then _ else if G=G then(if j<=aZ A G then f G j else f (G+1) 1)else f G j)=_;rw[aE J,aI rfl,aI hj]
 have v3:M G (aZ A G+1)=f (G+1) 1:=by rw[hf];show(if G=G+1 then _ else if G=G then(if aZ A G+1<=aZ A G then f G (aZ A G+1)else f (G+1) 1)else f G (aZ A G+1))=_;rw[aE J,aI rfl,aE J]
 have v4:∀k j,k≠G->k≠G+1->M k j=f k j:=λk j h1 h2=>by rw[hf];show(if k=G+1 then _ else if k=G then _ else f k j)=_;rw[aE h2,aE h1]
 have v0:∀k,k≠G+1->M k 0=f k 0:=λk h=>by
  by_cases c:k=G
  .subst c;exact v2 0 (bj _)
  exact v4 k 0 c h
 have ec:aZ A (G+1)-1+1=aZ A (G+1):=J;rw[X,ad,lJ];refine⟨⟨?_,?_⟩,λw D pw=>?_,λk hk=>?_,?_⟩
 .rw[Jh,v2 _ (cP _),jV G J]
 .exact v3.symm
 .obtain⟨o1,o2,o3,Z⟩:=z w D pw;rw[rk w pw];by_cases m:w.k.gate=((G+1:Nat):Int)
  .have n1:=Z m;have y:w.k.gate.toNat=G+1:=J;have B:(w.k.ao-1).toNat-1+1=w.k.ao.toNat-1:=J;have e3:(w.k.ao-1).toNat+1=w.k.ao.toNat:=J;rw[aI ⟨m,J⟩,y,mr,mr,B,e3];exact⟨rfl,rfl⟩
  have y:w.k.gate.toNat≠G+1:=J;rw[aE J];by_cases n:w.k.gate.toNat=G
  .rw[n]at o3 |-;rw[v2 _ J,v2 _ J];exact⟨rfl,rfl⟩
  rw[v4 _ _ n y,v4 _ _ n y];exact⟨rfl,rfl⟩
 .by_cases m:k=G+1
  .subst m;rw[aE J,aI rfl,mr,show aZ A (G+1)+0-1+1=aZ A (G+1) by omega,v0 _ J,jV _ hk]
  rw[aE m,WG];by_cases n:k=G
  .subst n;rw[aI rfl,v3,mr]
  rw[aE n,Ab,v4 _ _ n m,v0 _ J,jV k hk]
 rw[v0 0 J];have Y:F≠G:=J;rw[aE Y,Ab];by_cases n:F=G+1
 .rw[aI n];rw[n]at Kk |-;rw[mr,ec,Kk]
 rw[aE n,WG,v4 _ _ Y n,Kk]
end
def xN.T8{g:Bool}{i o j q:eN}(h:xN g i o j q):xN (!g) (mv o) (mv i) j q:=by obtain⟨a,b,c,d⟩:=h;cases g<;>simp at a b c d<;>constructor<;>simp[mv,a,b,c,d]
def xN.T9{g:Bool}{i o j q:eN}(h:xN g i o j q):xN (!g) i o (mv q) (mv j):=by obtain⟨a,b,c,d⟩:=h;cases g<;>simp at a b c d<;>constructor<;>simp[mv,a,b,c,d]
def iL(f:Bool)(x:aR):eN:=if f then x.i else mv x.o
def km(f:Bool)(x:aR):eN:=if f then x.o else mv x.i
def aaH{f F:Bool}{x y:aR}:xN true (iL f x) (km f x) (iL F y) (km F y)↔xN (f==F) x.i x.o y.i y.o:=by
 cases f<;>cases F<;>simp
 .exact⟨λh=>h.T8.T9,λh=>h.T8.T9⟩
 .exact⟨λh=>h.T8,λh=>h.T8⟩
 .exact⟨λh=>h.T9,λh=>h.T9⟩
 exact Iff.rfl
def b_ (n d:Nat):Nat:=if d%2=0 then d/2 else(d/2+1)%n
def cA (n d:Nat):Nat:=if d%2=0 then(d/2+1)%n else d/2
def cH(d:Nat):Bool:=d%2==0
section
variable {F:Nat} {A:ae}
def df(P:bK)(f:Nat->eN)(i:Nat):aR:=⟨P.getD i ⟨jJ,false⟩,f ((i+I P-1)%I P),f i⟩
def Cw (P:bK)(f:Nat->eN):f_:=(List.range (I P)).map (df P f)
def ai7(P:bK)(f:Nat->eN):(Cw P f).map aR.p=P:=by
 unfold Cw;rw[kU];apply qO;intro i;rw[fX];by_cases h:i<I P
 .obtain⟨p,hp⟩:=aP h;rw[wZ h,hp];show some (P.getD i _)=_
  grind
 grind
def aDm(P:bK)(f:Nat->eN)(h:0<I P):∃s,jN s (Cw P f) s:=by
 refine⟨f (I P-1),?_⟩;have:=alm (df P f) (λi=>f _) (I P) 0 λi _ H=>⟨rfl,?_⟩
 .simp only[lh]at this;rwa[fC J,show I P+I P-1=(I P-1)+I P by omega,rn,fC J,<-aaY]at this
 show f i=f _
 grind [rn,fC]
def afB(g:aU F A){P:bK}{f:Nat->eN}{T:Nat}(hl:I P=I A)
  (D:aq U.au (P.map aQ.l)=aq U.au A) (Y:aq U.ay (P.map aQ.l)=aq U.ay A) (X:∀k,aZ (P.map aQ.l) k=aZ A k)
  (ok:∀i,i<I A->zR F (df P f i)) (cr:∀i j,i<I A->j<I A->i≠j->pD (df P f i) (df P f j)) (rk:∀i j,i<I A->j<I A->i≠j->Az (df P f i) (df P f j))
  (ids:∀i,i<I A->(df P f i).k.au->1<=(df P f i).k.id/\(df P f i).k.id<=((aq U.au A/2:Nat):Int))
  (rr:∀i,i<I A->(df P f i).k.ay->1<=(df P f i).k.ao/\(df P f i).k.ao<=(aZ A (df P f i).k.gate.toNat:Int))
  (pl:∀i,i<I A->(df P f i).k.ay->DJ O N (df P f i))
  (gt:∀k,k<F->O k (aZ A k)=O (k+1) 0/\N k (aZ A k)=N (k+1) 0) (gz:O F (aZ A F)=O 0 0/\N F (aZ A F)=N 0 0)
  (wit:∀j,j<I A->∀t,(t=(kX A j).l\/t=(kX A j).r)->t=T\/ ∃y,y<I A/\(t=(f y).l\/t=(f y).r)):jt F P:=by
 have hn:=iW.2 g.ne;have v:aO (Cw P f)=P.map aQ.l:=by
  show(Cw P f).map (λx=>x.p.l)=_;have:(Cw P f).map (λx=>x.p.l)=((Cw P f).map aR.p).map aQ.l:=by rw[kU];rfl
  rw[this,ai7]
 have M:∀x∈Cw P f,∃i,i<I A/\x=df P f i:=λx H=>by obtain⟨i,m,rfl⟩:=c_.1 H;exact⟨i,by have:=fU.1 m;omega,rfl⟩
 have R:∀i,i<I A->df P f i∈Cw P f:=λi m=>c_.2 ⟨i,fU.2 J,rfl⟩;have q:kV F (Cw P f) O N:=by
  refine⟨λx H=>?_,Vq λi j m B E=>cr i j J J E,?_,λx H hc=>?_,Vq λi j m B E=>rk i j J J E,λx H hp=>?_,λx H hp=>?_,λk Z=>?_,?_⟩
  .obtain⟨i,m,rfl⟩:=M x H;exact ok i m
  .rw[v,D];have:=g.cz.ev;rwa[jG]at this
  .obtain⟨i,m,rfl⟩:=M x H;rw[v,D];exact ids i m hc
  .obtain⟨i,m,rfl⟩:=M x H;rw[v,X];exact rr i m hp
  .obtain⟨i,m,rfl⟩:=M x H;exact pl i m hp
  .rw[v,X];exact gt k Z
  rw[v,X];exact gz
 refine⟨Cw P f,O,N,(List.range (fV A)).filter (λs=> ![T].contains s),ai7 P f,⟨aDm P f J,q.ok,q.cr,q.ev,q.ids,q.rk,q.rr,q.pl,q.gt,q.gz,?_,FN.filter _,λs af=>?_,?_⟩⟩
 .have:0<aq U.ay (P.map aQ.l):=by
   rw[Y];obtain⟨l,z,u⟩:=g.first;exact zF.2 ⟨l,a8 z,u⟩
  rw[<-v]at this;obtain⟨l,z,u⟩:=zF.1 this;obtain⟨x,H,rfl⟩:=c_.1 z;exact⟨x,H,u⟩
 .obtain⟨z,u⟩:=rv.1 af;have u:s≠T:=by simpa using u
  obtain⟨x,H,e⟩:=g.cz.wit s z;obtain⟨j,B,rfl⟩:=c_.1 H;have B:=fU.1 B;rcases wit j B s e with h|⟨y,Q,h⟩
  .exact absurd h u
  exact⟨df P f y,R y Q,h⟩
 rw[v,D,Y];have z:=aew (L:=[T]) (FN (n:=fV A));have u:=g.nw
 grind [xm,fF,fB]
def Im(g:aU F A){d:Nat}(h:d<2*I A):b_ (I A) d<I A:=by
 unfold b_;split
 .omega
 exact dB _ (iW.2 g.ne)
def Ed(g:aU F A){d:Nat}(h:d<2*I A):cA (I A) d<I A:=by
 unfold cA;split
 .exact dB _ (iW.2 g.ne)
 omega
def Pt{d:Nat}(h:d<2*I A):d=jB (I A) (cA (I A) d) (cH d):=by have:=IN h;exact this
def JC{f:Bool}(h:v<n):b_ n (dS n v f)=v/\cH (dS n v f)=f:=by grind [b_,cH,dS,yW]
def xX (A:ae)(d:Nat):eN:=if d%2=0 then kX A (d/2)else mv (kX A (d/2))
def KN{d:Nat}(H:d<2*I A):iL (cH d) (eQ A (cA (I A) d))=xX A d:=by
 unfold iL cH cA xX eQ;rcases rN d with h|h
 .simp[h];rw[DF J]
 simp[h]
def NM{d:Nat}(H:d<2*I A):km (cH d) (eQ A (b_ (I A) d))=xX A d:=by
 unfold km cH b_ xX eQ;rcases rN d with h|h
 .simp[h]
 simp[h,iJ];rw[DF J]
def FQ(g:aU F A){d:Nat}(j:d<2*I A){l:U}(hl:A[cA (I A) d]?=some l)(f:l.au):aT A d<2*I A/\b_ (I A) (aT A d)=iV A (cA (I A) d)/\c3 l=(cH d==cH (aT A d))/\
  xN true (iL (cH d) (eQ A (cA (I A) d))) (km (cH d) (eQ A (cA (I A) d))) (iL (cH (aT A d)) (eQ A (b_ (I A) (aT A d)))) (km (cH (aT A d)) (eQ A (b_ (I A) (aT A d)))):=by
 obtain⟨B,m,H,y,M,D,z⟩:=qy (g.ok).cr hl f;have h:=(bN.1 H).1;have e:aT A d=dS (I A) (iV A (cA (I A) d)) (cH d==c3 l):=by
  conv=>lhs;rw[Pt j]
  rw[yZ hl f];rfl
 obtain⟨v,x⟩:=JC h;have u:cA (I A) d≠iV A (cA (I A) d):=ii
 have n:c3 l=(cH d==(cH d==c3 l)):=by cases cH d<;>cases c3 l<;>rfl
 rw[e,v,x];refine⟨?_,rfl,n,?_⟩
 .have:=zi h (!(cH d==c3 l))
  grind [tX,vi,vz]
 rw[aaH,<-n];have:=(Sc g (Ed g j) h u (by rw[fT hl];exact f) (by rw[fT H];exact y) (by rw[fT hl,fT H];exact M.symm)).x4;rwa[fT hl]at this
theorem DH{l:bK}(hl:I l=I A){e:Nat}(h:e<I A)(i:Nat):(ig A l e)[i]?=if i=nx A e then l[e]? else if i=e then l[nx A e]? else l[i]? :=by
 have H:nx A e<I A:=dB _ J;obtain _:=aP J;obtain _:=aP J;unfold ig
 grind
def T4(g:aU F A){w:aD}(h:w∈eX (aT A) (aX A)){Q:Nat->Prop}(j:∀x,x<aX A->(Q (aT A x)↔Q x)){x:Nat}(m:x∈w)(f:y∈w):Q x↔Q y:=by
 have:=(Uk (nc g.ok) (R:=iz _ _) (λz n=>.rel ⟨n,rfl⟩) h m f).inv λa b r=>by obtain⟨H,rfl⟩:=r;exact propext (j a H).symm
 exact Eq.to_iff this
end
end
end Go.Abs
