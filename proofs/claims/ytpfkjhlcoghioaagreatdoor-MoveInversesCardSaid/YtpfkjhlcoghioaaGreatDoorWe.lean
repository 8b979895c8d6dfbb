/- A part. -/
import Derived.Test.YtpfkjhlcoghioaaGreatDoorWd
set_option linter.all false
open List renaming length->I
set_option maxRecDepth 100000
set_option maxHeartbeats 16000000
namespace Go.Abs
variable{L:ae}{x:PV}{f n y:Nat}{z:Option bK}{A u:Int}
section
variable{h:ae}{F m v:Nat}{j:Int}{D:aD}
def XR{s:Nat}(h:s/64000000=85):S.lone s:=by show IT akw _=true;rw[h];kernel_rfl
def JM{blk:aH}{s:Nat}(A:L≠[])(af:S.lone s):fQ blk [] s ((RV.one (bU fO 6 (bY L))).gV (S.lone s))=some (.one (.p (fz L)),[]):=by rw[af,oa (Ah A)];rfl

abbrev LK:Prop:=aC S 44 [.one (.p (.sl []))] (.one (.p (.sl [])))
def awk{al:cD}{blk:aH}:∃v A,ja S 174 [.one (.p (.sl []))] al blk v A/\(v=.tup []/\A=blk):=by
 refine mL af9 (jg rfl) ?_;have j:IntKind.i64.wrap (((0:Nat):Int)-1)= -1:=aa;have m:¬((0:Int)< -1):=aa;simp only[go_sem,W6,j];refine cZ (λk f A=>k=0/\f 2=ai 0/\f 3=ai (-1)/\A=blk) 0 0 (cP _) ?_ ?_
 .simp only[go_sem]
 rintro k f A _ ⟨rfl,h,H,rfl⟩
 simp only[go_sem,Pk,h,H,m]
def apJ{blk:aH}{s:Nat}{l:Bool}:fQ blk [] s ((RV.one (.p x)).gV l)=some (.one (.p x),[]):=by cases l<;>rfl
def avn(E:LK)(F:Int):aC S 129 [.one (.p (CS F))] (.one (.p (.sl []))):=by
 refine ba ahX ?_;simp only[go_sem,aaQ,aeV,dt E apJ,aon];refine rG uS awk ?_;rintro v j _
 simp only[go_sem];refine cZ (λk A blk=>k=0/\A 3=.one (.p (.sl []))/\A 15=ai 0/\A 16=ai 0) 0 0 (cP _) ?_ ?_
 .simp only[go_sem];rfl
 rintro k A blk _ ⟨rfl,h,y,f⟩
 have H:¬((0:Int)<0):=aa;simp only[go_sem,Lz,YB,h,y,f,H]
def aED(R:LK)(F:Int):aC S 85 [.one (.p (CS F))] (.agg [.p (.int .i64 F),.p .nils]):=by
 refine ba al2 ?_;simp only[go_sem,ach,ajN,od (avn R F) apJ];refine⟨aK,?_⟩;refine cZ (λk A blk=>A 0=.one (.p (CS F))/\A 2=.one (.aW 5440000000 1 0)/\A 17=.one (.hsl 5440128448 1 1 0 2)/\A 18=ai 2/\A 19=ai k/\A 3=.one (.p .nils)/\
  blk 5440000000=(1,some (.var [.p (.int .i64 0),.p .nils]))/\blk 5440128448=(1,some (.arr 22 1 [[.sl []],[.sl []]]))) 0 2 (bj _) ?_ ?_
 .simp only[go_sem];first|done|rfl|exact⟨rfl,rfl⟩
 rintro k A blk Y ⟨z,H,O,n,h,B,b0,bB⟩
 by_cases X:k<2
 .have Z:k=0\/k=1:=J;have v:((0:Nat):Int)<2:=aa;have L:((1:Nat):Int)<2:=aa;have T:¬((0:Int)<0):=aa;rcases Z with rfl|rfl
  case' _=>simp only[go_sem,I9,O,n,h,bB,v]
  rotate_left
  case' _=>simp only[go_sem,I9,O,n,h,bB,L]
  all_goals
   refine cZ (λi f D=>i=0/\D=blk/\f 0=A 0/\f 2=A 2/\f 17=A 17/\f 18=A 18/\f 19=A 19/\f 3=A 3/\f 24=ai 0/\f 25=ai 0) 0 0 (cP _) ?_ ?_
   .simp only[go_sem];first|done|rfl|exact⟨rfl,rfl⟩
   rintro i f D _ ⟨rfl,rfl,M,N,x,u,j,Q,E,y⟩
   simp only[go_sem,Fu,Wq,M,N,x,u,j,Q,E,y,z,H,B,O,n,h,b0,bB,T];first|done|rfl|exact⟨rfl,rfl⟩
 have:k=2:=J;subst this;have m:¬(((2:Nat):Int)<2):=aa;simp only[go_sem,I9,YL,z,H,B,n,h,b0,m];first|done|rfl|exact⟨rfl,rfl⟩
def avd{blk:aH}{s:Nat}{c:PV}{l:Bool}:fQ blk [] s ((RV.agg [.p x,.p c]).gV l)=some (.agg [.p x,.p c],[]):=by cases l<;>rfl
def ape(x y:U):qk x y↔x=y:=by
 constructor
 .intro h;unfold qk at h;simp only[cF,cW]at h;obtain⟨m,f,u,j,n,H⟩:=h;cases x;cases y;simp only at m f u j n H;subst m f u j n H;rfl
 rintro rfl;exact Er x
def aFD{A B:ae}(f:I A=I B)(m:∀j,j<I A->qk (aV A j) (aV B j)):A=B:=by
 apply qO;intro j;by_cases H:j<I A
 .rw[iQ H,iQ (h:=B) (i:=j) J,(ape _ _).1 (m j H)]
 rw[pS J,pS J]
def ayk(A B:ae)(hl:I A<=1000000)(kK:I B<=1000000):aC S 54 [.one (.p (fz A)),.one (.p (fz B))] (cK (decide (A=B))):=by
 by_cases u:I A=I B
 .have Z:((I A:Int)==(I B:Int)):=by rw[u];simp
  generalize m:decide (A=B)=r;refine ba aj0 ?_;simp only[go_sem,aey,Z,bne];refine cZ (λk f blk=>f 0=.one (.p (fz A))/\f 1=.one (.p (fz B))/\f 12=ai (I A)/\f 13=ai k/\ ∀j,j<k->qk (aV A j) (aV B j)) 0 (I A) (bj _) ?_ ?_
  .simp only[go_sem];exact⟨rfl,λj X=>absurd X (oJ j)⟩
  rintro k f blk hk ⟨x,E,M,R,z⟩
  by_cases y:k<I A
  .have T:=iQ y;have L:=iQ (h:=B) (i:=k) J;have O:=fW T;have Q:=fW L;have D:(k:Int)<(I A:Int):=J;have F:=cg (n:=k) J;have ab:k<I B:=J;cases H:qk (aV A k) (aV B k)with
   |true=>
    have N:∀j,j<k+1->qk (aV A j) (aV B j):=λj Y=>by
     rcases vq.1 Y with X|rfl
     .exact z j X
     exact H
    simp only[go_sem,VG,x,E,M,R,O,Q,U.ps,D,y,F,F_,H];exact⟨aK,N⟩
   |false=>
    have v:A≠B:=λe=>by subst e;rw[Er]at H;cases H
    rw[uE v]at m;subst m;simp only[go_sem,VG,x,E,M,R,O,Q,U.ps,D,F_,H];exact aK
  have:k=I A:=J;subst this;have H:A=B:=aFD u z;rw[uG H]at m;subst m;simp only[go_sem,VG,akM,M,R,ek]
 have Z:((I A:Int)==(I B:Int))=false:=ro
 have v:A≠B:=λe=>u aIC;rw[uE v];refine ba aj0 ?_;simp only[go_sem,aey,Z,bne]
def Zm{blk:aH}{s:Nat}{c e:PV}{l:Bool}:fQ blk [] s ((RV.tup [.agg [.p x,.p c],.one (.p e)]).gV l)=some (.tup [.agg [.p x,.p c],.one (.p e)],[]):=by cases l<;>rfl
abbrev abb:eC:=[.p .Aa,.p (.fn 114 [] []),.p (.fn 115 [] []),.p (.fn 116 [] []),.p (.fn 117 [] []),.p (.fn 118 [] []),.p (.fn 119 [] []),.p (.fn 120 [] []),.p (.fn 121 [] []),.p (.fn 122 [] []),.p (.fn 122 [] [])]
def aDp(k:Int):0<=(gU k).1/\(gU k).1<=4/\0<=(gU k).2/\(gU k).2<=2:=by
 unfold gU;split
 .simp
 split
 .simp
 split<;>simp
def Db(X:I h<=400)(fA:aq U.au h<=200){k:Nat}{R:eC}(N:abb.drop k=.p (.fn f [] [])::R)(kJ:k<11)(Nn:S.shared f=false){a b c:Int}{l o:Bool}{sg:Int}(ha:aC S 75 [.one (.p (fk F h)),c6 k a b c l o sg] (cK true))(hm:aC S f [.one (.p (fk F h)),c6 k a b c l o sg] (vu z))(hL:∀L,z=some L->I L<=1000000):
  aC S 42 [.one (.p (fk F h)),c6 k a b c l o sg] (vQ F h k z):=by
 have yB:=akd F;have n:=akS k;have nX:S.lone 2688192384=false:=ah;have rV:S.lone 2688576128=false:=ah;have Q:∀(blk:aH),fQ blk [] 2688192000 ((RV.agg [.p .Aa,.p (.fn 114 [] []),.p (.fn 115 [] []),.p (.fn 116 [] []),.p (.fn 117 [] []),.p (.fn 118 [] []),.p (.fn 119 [] []),.p (.fn 120 [] []),.p (.fn 121 [] []),.p (.fn 122 [] []),.p (.fn 122 [] [])]).gV (S.lone 2688192000))=some (.agg abb,[]):=λblk=>by cases S.lone 2688192000<;>rfl
 have bQ:=dI h;obtain⟨g1,O,g3,Y⟩:=aDp k;have j:∀blk:aH,fQ blk [] 2688384128 ((RV.tup [.one (.p (.int .i64 (gU k).1)),.one (.p (.int .i64 (gU k).2))]).gV (S.lone 2688384128))=some (.tup [.one (.p (.int .i64 (gU k).1)),.one (.p (.int .i64 (gU k).2))],[]):=λblk=>kR;obtain⟨PY,PZ,Ci⟩:∃x y,gU k=(x,y):=⟨_,_,rfl⟩;have d4:vQ F h k none=uF 4:=rfl;have T:∀L,((400:Int)<(I h:Int)+PY\/(100:Int)<((aq U.au h/2:Nat):Int)+PZ)->vQ F h k (some L)=uF 7:=λL E=>by unfold vQ;rw[Ci];exact aI E
 have d0:∀L,¬((400:Int)<(I h:Int)+PY\/(100:Int)<((aq U.au h/2:Nat):Int)+PZ)->vQ F h k (some L)=rF F (ch L):=λL E=>by unfold vQ;rw[Ci];exact aE E
 rw[Ci]at g1 O g3 Y n;simp only[Ci]at j;simp only at g1 O g3 Y j n;have A:IntKind.i64.wrap ((I (aJ h):Int)+PY)=(I h:Int)+PY:=by rw[bQ];exact iS J J
 have w2:IntKind.i64.wrap (((aq U.au h/2:Nat):Int)+PZ)=((aq U.au h/2:Nat):Int)+PZ:=iS J J;unfold vu at hm;generalize abb=kg at N Q;refine ba aeB ?_;simp only[go_sem,TK,aam,cS ha,agU,od ahd (Q _),N,kJ,Nn];refine aiz hm nX λcc cE w Z M v=>?_;have b0:=M 2688000000 aa;have B:=M 2688000064 aa;simp only[go_sem]at b0 B;cases z with
 |none=>rw[d4];simp only[go_sem,B];refine⟨?_,rfl⟩;rcases v with rfl|rfl<;>kernel_rfl
 |some L=>
  simp only[mw]at Z;have m:=yB L (hL L rfl) (.sl (dP (aJ h))) (.sl (ki (dA F h))) (.sl (aY (lM F h))) (.int .i64 (aq U.ay h:Nat)) (.int .i64 ((aq U.au h/2:Nat):Int)) (.sl (aY (gY h F)));obtain⟨rs,jP,_⟩:=Z.jK;by_cases H:(400:Int)<(I h:Int)+PY
  .rw[T L (.inl H)];simp only[go_sem,b0,B,L3,dt n (j _),A,H];refine⟨?_,rfl⟩;rcases v with rfl|rfl<;>kernel_rfl
  by_cases u:(100:Int)<((aq U.au h/2:Nat):Int)+PZ
  .rw[T L (.inr u)];simp only[go_sem,b0,B,L3,dt n (j _),A,w2,H,u];refine⟨?_,rfl⟩;rcases v with rfl|rfl<;>kernel_rfl
  rw[d0 L (by rintro(E|E);exact H E;exact u E)];simp only[go_sem,b0,L3,dt n (j _),A,w2,H,u,jP,ahO];refine⟨?_,?_⟩
  .rcases v with rfl|rfl<;>kernel_rfl
  refine Mn m rV rfl (Ee _) λc2 bt yn bh=>?_;have D:=(bh 2688000064 aa).trans B;simp only[go_sem,D];exact V9 (yn.of_eq (cJ aa))
def aoX{k a b c:Int}{l o:Bool}{sg:Int}(H:aC S 75 [.one (.p (fk F h)),c6 k a b c l o sg] (cK false)):aC S 42 [.one (.p (fk F h)),c6 k a b c l o sg] (uF 2):=by refine ba aeB ?_;simp only[go_sem,TK,aam,cS H];try rfl
abbrev NJ(F:Nat):V:=.agg [.p (.int .i64 F),.p (.sl [])]
def zB:¬(((0:Int))<((0:Nat):Int)):=aa
def aii:IntKind.i64.wrap (2*((0:Nat):Int))=((0:Nat):Int):=aa
def agD:(0:Nat)<=140737488355328:=aa
def aHE:(0:Nat)*8<=140737488355328:=aa
section
variable {F:Nat}
def aAl(h:F<=40):fP (F:Int) []=0:=by unfold fP;rw[aE (by simp[aq]),aE J,aI rfl]
def auL(h:F<=40):aC S 79 [NJ F] (Cu (CS F) (.int .i64 0)):=by have pr:=XX F [] (bj _);rw[Sx (aAl h),aI rfl]at pr;exact pr
def aFC:aC S 110 [.one (.p (CS F))] (.one (.own 4 1 [])):=by refine ba akg ?_;simp only[go_sem,aaa];refine oG ?_;simp only[go_sem,Q1,ad3,zB];rfl
def aAU(H:F<=40):aC S 72 [NJ F] (.tup [.one (bU tV 5 []),.one (.p (.int .i64 0))]):=by
 have pr:=auL H;have h:∀blk:aH,fQ blk [] 4608384064 ((RV.one (.own 4 1 [])).gV (S.lone 4608384064))=some (.one (.hsl 4608384064 ((blk 4608384064).1+1) 1 0 0),[(4608384064,((blk 4608384064).1+1,some (.arr 4 1 [])))]):=by intro blk;rw[show S.lone 4608384064=false by kernel_rfl];rfl
 refine ba ag1 ?_;simp only[go_sem,adz,abH,dt pr kR,aol,dt aFC (h _),aii,agD];refine oG ?_;simp only[go_sem,OT,XZ,zB];rfl
def acQ(u:F<=40):aC S 41 [NJ F] (Cu (fk F []) (.int .i64 0)):=by
 have j:=aAU u;have f:aC S 73 [NJ F] (fH ((0:Nat):Int)):=ad9 F [] (bj _);have Ad:aC S 74 [NJ F] (fH ((0:Nat):Int)):=am2 F [] (bj _);have lo:S.lone 2624064064=false:=ah;have v:=cg (n:=F) J;have R:(F+1)*8<=140737488355328:=J;have E:List.replicate (F+1) [PV.int .i64 0]=aY (gY [] F):=by rw[<-Zg,fB,Yf];simp
 refine ba agf ?_;simp only[go_sem,abi,agm];refine aqA j lo λx M z m=>?_;have O:=m 2624000000 aa;simp only[go_sem]at O;obtain⟨_,H⟩|⟨h,_⟩:=z
 .cases H;simp only[go_sem,O,v,R,aii,agD,adp,ahz,jZ f,jZ Ad,E];refine⟨aK,?_⟩;refine oG ?_;simp only[go_sem,PS,Wu,zB];refine oG ?_;simp only[go_sem,Um,Ve,zB];have T:List.take (F+1) (aY (gY [] F))=aY (gY [] F):=eT at8;have N:F+1<=I (gY [] F):=by simp[gY]
  simp only[go_sem,iD,mM,yO,kZ,kD,iN,T,N];rfl
 exact absurd rfl h
end
section
variable {F:Nat}
def avO:IntKind.i64.wrap (1:Int)=1:=aa
def aFR:IntKind.i64.wrap (2:Int)=2:=aa
abbrev Lv(F:Nat):V:=.one (.p (.box [.int .i64 F,.sl [],.sl [],.sl [],.int .i64 ((0:Nat):Int),.int .i64 ((0:Nat):Int),.sl (aY (gY [] F))]))
def aHx{b:Nat}(u:b<=F):aC S 75 [Lv F,c6 2 0 b 0 false false 0] (cK true):=by
 have n:aC S 113 [ai 0,.one _] (cK false):=Sk 0 0;have T:=i_ (JL (h:=[]) u);have j:(0:Int)<=(b:Int):=J;have H:(b:Int)<=(F:Int):=J;have f:(0:Int)<=(aZ [] b:Int):=J;have x:b<F+1:=J;have v:I (gY [] F)=F+1:=at8
 have m:(((0:Nat):Int)==0):=aa;refine ba Ui ?_;simp only[go_sem,Ov,Lq,mA n,T,j,H,f,m];exact aK
abbrev adh(b:Nat):bK:=[⟨⟨1,b,1,0,0,false⟩,true⟩,⟨⟨1,b,2,0,0,false⟩,false⟩]
def aDh{b:Nat}{l o:Bool}{sg:Int}:aC S 115 [Lv F,c6 2 0 b 0 l o sg] (vu (some (adh b))):=by have h:(((0:Nat):Int)==0):=aa;refine ba amb ?_;simp only[go_sem,adS,h,avO,aFR];rfl
end
def aEZ(x:I h<=400)(fA:aq U.au h<=200){a b c:Int}{l o:Bool}{sg:Int}(T:aC S 75 [.one (.p (fk F h)),c6 2 a b c l o sg] (cK true))(A:aC S 115 [.one (.p (fk F h)),c6 2 a b c l o sg] (vu z))(M:∀L,z=some L->I L<=1000000):
  aC S 42 [.one (.p (fk F h)),c6 2 a b c l o sg] (vQ F h 2 z):=by
 have E:=akd F;have u:=akS 2;have N:∀(blk:aH),fQ blk [] 2688192000 ((RV.agg [.p .Aa,.p (.fn 114 [] []),.p (.fn 115 [] []),.p (.fn 116 [] []),.p (.fn 117 [] []),.p (.fn 118 [] []),.p (.fn 119 [] []),.p (.fn 120 [] []),.p (.fn 121 [] []),.p (.fn 122 [] []),.p (.fn 122 [] [])]).gV (S.lone 2688192000))=some (.agg [.p .Aa,.p (.fn 114 [] []),.p (.fn 115 [] []),.p (.fn 116 [] []),.p (.fn 117 [] []),.p (.fn 118 [] []),.p (.fn 119 [] []),.p (.fn 120 [] []),.p (.fn 121 [] []),.p (.fn 122 [] []),.p (.fn 122 [] [])],[]):=λblk=>by cases S.lone 2688192000<;>rfl
 have X:=dI h;have m:IntKind.i64.wrap ((I (aJ h):Int)+(gU 2).1)=(I h:Int)+(gU 2).1:=by rw[X];exact iS NE NE
 have D:IntKind.i64.wrap (((aq U.au h/2:Nat):Int)+(gU 2).2)=((aq U.au h/2:Nat):Int)+(gU 2).2:=iS NE NE;have n:∀blk:aH,fQ blk [] 2688384128 ((RV.tup [.one (.p (.int .i64 (gU 2).1)),.one (.p (.int .i64 (gU 2).2))]).gV (S.lone 2688384128))=some (.tup [.one (.p (.int .i64 (gU 2).1)),.one (.p (.int .i64 (gU 2).2))],[]):=λblk=>kR;unfold vu at A;refine ba aeB ?_;simp only[go_sem,TK,aam,cS T,agU,od ahd (N _),aGk];refine aiz A ah λZ cE w y v j=>?_;have b0:=v 2688000000 aa;have B:=v 2688000064 aa;simp only[go_sem]at b0 B;cases z with
 |none=>simp only[go_sem,B];refine⟨?_,rfl⟩;rcases j with rfl|rfl<;>kernel_rfl
 |some L=>
  simp only[mw]at y;obtain⟨rs,O,_⟩:=y.jK;by_cases H:(400:Int)<(I h:Int)+(gU 2).1
  .rw[show vQ F h 2 (some L)=uF 7 from aI (.inl H)];simp only[go_sem,b0,B,L3,dt u (n _),m,H];refine⟨?_,rfl⟩;rcases j with rfl|rfl<;>kernel_rfl
  by_cases f:(100:Int)<((aq U.au h/2:Nat):Int)+(gU 2).2
  .rw[show vQ F h 2 (some L)=uF 7 from aI (.inr f)];simp only[go_sem,b0,B,L3,dt u (n _),m,D,H,f];refine⟨?_,rfl⟩;rcases j with rfl|rfl<;>kernel_rfl
  rw[show vQ F h 2 (some L)=rF F (ch L)from aE (by rintro(R|R);exact H R;exact f R)];simp only[go_sem,b0,L3,dt u (n _),m,D,H,f,O,ahO];refine⟨?_,?_⟩
  .rcases j with rfl|rfl<;>kernel_rfl
  refine Mn (E L (M L rfl) (.sl (dP (aJ h))) (.sl (ki (dA F h))) (.sl (aY (lM F h))) (.int .i64 (aq U.ay h:Nat)) (.int .i64 ((aq U.au h/2:Nat):Int)) (.sl (aY (gY h F)))) ah rfl (Ee _) λc2 bt Y Q=>?_;simp only[go_sem,(Q 2688000064 aa).trans B];exact V9 (Y.of_eq (cJ aa))
abbrev pA(b:Nat):ae:=[⟨1,b,1,0,0,false⟩,⟨1,b,2,0,0,false⟩]
def au6(b:Nat):ch (adh b)=pA b:=by rfl
def aDo(F b:Nat):vQ F [] 2 (some (adh b))=rF F (pA b):=by rw[<-au6];rfl
def anD{b:Nat}(H:b<=F):aC S 42 [Lv F,c6 2 0 b 0 false false 0] (rF F (pA b)):=by have:=aEZ (h:=[]) aa aa (aHx H) aDh (λL f=>by cases f;exact aG);rwa[aDo]at this
theorem auq{b:Nat}(H:F<=40)(h:b<=F):aC S 12 [NJ F,c6 2 0 b 0 false false 0] (rF F (pA b)):=by refine ba BN ?_;simp only[go_sem,Tb,Wy,dt (acQ H) kR,KB];refine aiJ (anD h) ah λm j f h=>?_;simp only[go_sem,h 768000128 aa];exact V9 (f.of_eq (cJ aa))
def lQ(F:Nat)(h:ae)(k:Int)(a b c:Nat)(l o:Bool)(sg:Int):Option bK:=if k=1 then td h a else if k=2 then o_ F h a b c else if k=3 then sE F h a b else if k=4 then wS h a else if k=5 then some (u_ h a sg o)else if k=6 then sV F h a b else if k=7 then wH F h a b l o else if k=8 then uA F h a b c else if k=9 then wY F h a else xE h a
def rD(F:Nat)(h:ae)(k a b c:Int)(l o:Bool)(sg:Int):RV:=if dQ F h k a b c l o sg then vQ F h k (lQ F h k a.toNat b.toNat c.toNat l o sg)else uF 2
def arN{k a b c:Int}{l o:Bool}{sg:Int}:(∃e,rD F h k a b c l o sg=uF e)\/ ∃L,rD F h k a b c l o sg=rF F L:=by
 unfold rD;split
 .cases lQ F h k a.toNat b.toNat c.toNat l o sg with
  |none=>exact .inl ⟨4,rfl⟩
  |some L=>
   by_cases H:(400:Int)<(I h:Int)+(gU k).1\/(100:Int)<((aq U.au h/2:Nat):Int)+(gU k).2
   .exact .inl ⟨7,aI H⟩
   exact .inr ⟨ch L,aE H⟩
 exact .inl ⟨2,rfl⟩
def aoT{k a b c:Int}{l o:Bool}{sg:Int}{z:RV}(f:aC S 41 [c7 F h] (Cu (fk F h) (.int .i64 0)))(H:aC S 42 [.one (.p (fk F h)),c6 k a b c l o sg] z)(fin:(∃e,z=uF e)\/ ∃L,z=rF F L):
  aC S 12 [c7 F h,c6 k a b c l o sg] z:=by
 refine ba BN ?_;rcases fin with⟨e,rfl⟩|⟨L,rfl⟩
 .simp only[go_sem,Tb,Wy,dt f kR,KB,dt H aeZ];rfl
 simp only[go_sem,Tb,Wy,dt f kR,KB];refine aiJ H ah λu n j m=>?_;simp only[go_sem,m 768000128 aa];exact V9 (j.of_eq (cJ aa))
theorem eZ{i:Int}(h:ng n i):∃k:Nat,i=(k:Int)/\k<n:=by unfold ng at h;simp at h;exact⟨i.toNat,J,J⟩
def abI(l:bK)(drop:Nat->aQ->Bool):I (mK l drop)<=I l:=KX l drop (I l)
def aDD(l:bK)(i:Nat)(g r:Int):I (qi l i g r)=I l:=by simp[qi]
def anX{k:Int}{a b c:Nat}{l o:Bool}{sg:Int}{L:bK}(H:lQ F h k a b c l o sg=some L):I L<=I h+4:=by
 have hp:=dI h;unfold lQ at H;repeat' split at H
 .unfold td at H;simp only at H;split at H
  .cases H;have:=abI (aJ h) (λk _=>decide (k=a)||decide (k=(a+1)%I h));simp only[dT,ct];omega
  cases H
 .unfold o_ at H;split at H
  .cases H;simp only[vD,F7,dT,ct,fF,fB];omega
  split at H
  .cases H;simp only[vD,F7,dT,ct,fF,fB];omega
  cases H
 .unfold sE at H;split at H
  .cases H;simp only[yX,vx];omega
  cases H
 .unfold wS at H;simp only at H;split at H
  .cases H;have:=abI (aJ h) (qH [((aJ h).getD a ⟨jJ,false⟩).l.id]);simp only[pV,ct];omega
  cases H
 .cases H;simp only[u_,F7,fF,fB];omega
 .unfold sV at H;split at H
  .cases H;have:=abI (aJ h) (qH [(bR h a).l.id,(bR h (nx h a)).l.id]);simp only[pV,ct];omega
  cases H
 .have f:∀s t,tj h a b l o s t=some L->I L<=I h+4:=λs t H=>by
   unfold tj at H;split at H
   .cases H
   simp only[jb]at H;subst H;have j:∀x sg o s,I (qo x sg o s)=2:=λx sg o s=>by unfold qo;split<;>rfl
   split<;>simp only[F7,j,fF,fB]<;>omega
  unfold wH at H;split at H
  .exact f _ _ H
  exact f _ _ H
 .unfold uA at H;split at H
  .cases H;simp only[yX];omega
  cases H
 case' _=>unfold wY at H
 rotate_left
 case' _=>unfold xE at H
 all_goals
  split at H
  .cases H;simp only[aDD,dT,ct];omega
  cases H
def ajD(g:aU F h)(k a b c:Int)(l o:Bool)(sg:Int):aC S 42 [.one (.p (fk F h)),c6 k a b c l o sg] (rD F h k a b c l o sg):=by
 have v:=aj3 (F:=F) (u:=h) (a:=a) (b:=b) (c:=c) (l:=l) (o:=o) (sg:=sg) k;have f:=g.len;have x:=g.cr;unfold rD;cases H:dQ F h k a b c l o sg with
 |false=>rw[H]at v;exact aoX v
 |true=>
  rw[H]at v;rw[aI rfl];have n:∀L,lQ F h k a.toNat b.toNat c.toNat l o sg=some L->I L<=1000000:=λL ab=>by have:=anX ab;omega
  have Z:¬I h=0:=by have:=iW.2 (g.ne);omega
  unfold dQ at H;by_cases M:k=1
  .subst M;simp only[Int.reduceEq,if_true,if_false,or_false,or_self]at H;simp only[cF,gH,cW]at H;obtain⟨rfl,rfl,rfl,j,rfl,rfl⟩:=H;obtain⟨m,rfl,u⟩:=eZ j;simp only[lJ]at n |-;exact Db f x rfl aa ah v (aEk g u) n
  by_cases A:k=2
  .subst A;simp only[Int.reduceEq,if_true,if_false,or_self]at H;simp only[cF,nK,gH,cW,fL]at H;obtain⟨rfl,rfl,rfl,j,ia,HZ,ui,N⟩:=H;rcases j with j|⟨j,_⟩
   rotate_left
   .exact absurd j Z
   obtain⟨m,rfl,u⟩:=eZ j;obtain⟨B,rfl⟩:=lV ia;obtain⟨cv,rfl⟩:=lV ui;simp only[lJ]at n N |-;have:=ny (jw B) h;exact Db f x rfl aa ah v (are g u J (by simp only[aZ]at N;omega)) n
  by_cases T:k=3
  .subst T;simp only[Int.reduceEq,if_true,if_false,or_false,or_self]at H;simp only[cF,gH,cW,fL]at H;obtain⟨rfl,rfl,rfl,j,rfl,z,aw⟩:=H;obtain⟨m,rfl,u⟩:=eZ j;obtain⟨B,rfl,y⟩:=eZ z;simp only[lJ]at n |-;exact Db f x rfl aa ah v (aDT g u y) n
  by_cases E:k=4
  .subst E;simp only[Int.reduceEq,if_true,if_false,or_false,or_true,or_self]at H;simp only[cF,gH,cW]at H;obtain⟨rfl,rfl,rfl,j,rfl,rfl⟩:=H;obtain⟨m,rfl,u⟩:=eZ j;simp only[lJ]at n |-;exact Db f x rfl aa ah v (aCQ g u) n
  by_cases Q:k=5
  .subst Q;simp only[Int.reduceEq,if_true,if_false,or_self]at H;simp only[cF,nK,gH,cW]at H;obtain⟨rfl,af,j,rfl,rfl⟩:=H;obtain⟨m,rfl,u⟩:=eZ j;simp only[lJ]at n |-;exact Db f x rfl aa ah v (auP g u) n
  by_cases X:k=6
  .subst X;simp only[Int.reduceEq,if_true,if_false,or_true,or_self]at H;simp only[cF,gH,cW,fL]at H;obtain⟨rfl,rfl,rfl,j,rfl,z,aw⟩:=H;obtain⟨m,rfl,u⟩:=eZ j;obtain⟨B,rfl,y⟩:=eZ z;simp only[lJ]at n |-;exact Db f x rfl aa ah v (ayD g u y) n
  by_cases O:k=7
  .subst O;simp only[Int.reduceEq,if_true,if_false,or_self]at H;simp only[cF,gH,cW,nj]at H;obtain⟨rfl,j,rfl,z,aN⟩:=H;obtain⟨m,rfl,u⟩:=eZ j;obtain⟨B,rfl,y⟩:=eZ z;simp only[lJ]at n |-;exact Db f x rfl aa ah v (aFf g u y J) n
  by_cases R:k=8
  .subst R;simp only[Int.reduceEq,if_true,if_false,or_self]at H;simp only[cF,gH,cW,fL]at H;obtain⟨rfl,rfl,rfl,j,z,hz,_,_⟩:=H;obtain⟨m,rfl,u⟩:=eZ j;obtain⟨B,rfl,y⟩:=eZ z;obtain⟨cv,rfl,hc⟩:=eZ hz;simp only[lJ]at n |-;exact Db f x rfl aa ah v (axF g u y hc) n
  by_cases Y:k=9
  .subst Y;simp only[Int.reduceEq,if_true,if_false,or_false,or_true,or_self]at H;simp only[cF,gH,cW]at H;obtain⟨rfl,rfl,rfl,j,rfl,rfl⟩:=H;obtain⟨m,rfl,u⟩:=eZ j;simp only[lJ]at n |-;exact Db f x rfl aa ah v (aGZ g u) n
  by_cases D:k=10
  .subst D;simp only[Int.reduceEq,if_true,if_false,or_true,or_self]at H;simp only[cF,gH,cW]at H;obtain⟨rfl,rfl,rfl,j,rfl,rfl⟩:=H;obtain⟨m,rfl,u⟩:=eZ j;simp only[lJ]at n |-;exact Db f x rfl aa ah v (aAe g u) n
  simp[M,A,T,E,Q,X,O,R,Y,D]at H
def afP(g:aU F h)(k a b c:Int)(l o:Bool)(sg:Int):aC S 12 [c7 F h,c6 k a b c l o sg] (rD F h k a b c l o sg):=aoT (an7 g) (ajD g k a b c l o sg) arN
def Ow(F:Nat)(k a b c:Int)(l o:Bool)(sg:Int):RV:=if dQ F [] k a b c l o sg then rF F (pA b.toNat)else uF 2
theorem Mi{k a b c:Int}{l o:Bool}{sg:Int}(h:dQ F [] k a b c l o sg):∃B:Nat,k=2/\a=0/\b=(B:Int)/\B<=F/\c=0/\l=false/\o=false/\sg=0:=by grind [ng,dQ]
def aq6(j:F<=40)(k a b c:Int)(l o:Bool)(sg:Int):aC S 12 [c7 F [],c6 k a b c l o sg] (Ow F k a b c l o sg):=by
 unfold Ow;cases H:dQ F [] k a b c l o sg with
 |false=>have f:=aj3 (F:=F) (u:=[]) (a:=a) (b:=b) (c:=c) (l:=l) (o:=o) (sg:=sg) k;rw[H]at f;exact aoT (acQ j) (aoX f) (.inl ⟨2,rfl⟩)
 |true=>grind [Mi,auq]

structure eU where
 k:Int
 a:Int
 b:Int
 c:Int
 l:Bool
 o:Bool
 s:Int
abbrev fh:=List eU
def eU.ps(m:eU):dR:=[.int .i64 m.k,.int .i64 m.a,.int .i64 m.b,.int .i64 m.c,.bool m.l,.bool m.o,.int .i64 m.s]
def SE{M:fh}{k:Nat}{m:eU}(h:M[k]?=some m):(M.map eU.ps)[k]?=some m.ps:=by rw[fX,h];rfl
abbrev H8(m:eU):V:=c6 m.k m.a m.b m.c m.l m.o m.s
def qP(x y:eU):Bool:=decide (x.b<y.b)||(decide (x.b=y.b)&&decide (x.c<y.c))
def KY(m:eU):Prop:=(0<=m.b/\m.b<=1000000)/\0<=m.c/\m.c<=1000000
def adD:WK qP:=⟨λa b h=>by unfold qP at*;simp at*;omega,λa b c h k=>by unfold qP at*;simp at*;omega⟩
def aBg(x y:eU)(j:KY x)(H:KY y):∃n:Int,aC S 138 [H8 x,H8 y] (fH n)/\(decide (n<0)=qP x y):=by
 obtain⟨⟨A,v⟩,X,x4⟩:=j;obtain⟨⟨u,B⟩,z,Y⟩:=H;have f:IntKind.i64.wrap (x.b-y.b)=x.b-y.b:=iS J J;have m:IntKind.i64.wrap (x.c-y.c)=x.c-y.c:=iS J J;cases h:(x.b==y.b)with
 |true=>
  have e:=eq_of_beq h;refine⟨x.c-y.c,?_,?_⟩
  .refine ba ajH ?_;simp only[go_sem,abE,bne,h,m]
  unfold qP
  grind
 |false=>
  have e:¬x.b=y.b:=Do
  refine⟨x.b-y.b,?_,?_⟩
  .refine ba ajH ?_;simp only[go_sem,abE,bne,h,f]
  unfold qP
  grind
abbrev cL(o:fh):dy:=o.map eU.ps
def alq(o:fh)(k:Nat)(v:eU):(cL o).set k v.ps=cL (o.set k v):=by simp[vt]
def xL(o:fh):I (cL o)=I o:=ct _
def Xg(id g v:Nat)(E:fh)(blk:aH)(h:V)(A:aH):Prop:=h=.tup []/\(∃f:fh,A id=(g,some (.arr v 7 (cL f)))/\f.Perm E/\xQ qP f 0 (I f))/\dk (· =id) blk A
abbrev F0:V:=.one (.p (.fn 138 [] []))
def aD3{al:cD}{blk:aH}{id g:Nat}{E:fh}(o:al.ok id)(hl:I E<=1000000)(B:∀m∈E,KY m)(hC:blk id=(g,some (.arr v 7 (cL E)))):
  ∃ab u,ja S 217 [.one (.hsl id g 7 0 (I E)),ai 0,ai (I E),F0] al blk ab u/\Xg id g v E blk ab u:=by
 have z:S.shared 138=false:=ah;refine mL afd (jg rfl) ?_;have w0:IntKind.i64.wrap (0+1)=((0+1:Nat):Int):=aa;simp only[go_sem,ae4];refine cZ (λk A u=>A 0=.one (.hsl id g 7 0 (I E))/\A 1=ai 0/\A 2=ai (I E)/\A 3=F0/\A 8=ai ((k+1:Nat):Int)/\ ∃zs:fh,u id=(g,some (.arr v 7 (cL zs)))/\zs.Perm E/\xQ qP zs 0 (k+1)/\dk (· =id) blk u) 0 (I E) (bj _) ?_ ?_
 .simp only[go_sem];exact⟨rfl,E,hC,.refl _,λp q x y _ h1 D=>J,dk.refl _ _⟩
 rintro k A cE hk ⟨h0,h1,D,h3,h6,zs,hZ,hp,af,dm⟩
 have mj:=hp.length_eq;by_cases aw:k+1<I E
 .have T:((k+1:Nat):Int)<(I E:Int):=J;obtain⟨x,hx⟩:=aP (h:=zs) (k:=k+1) J;have sx:=B x (hp.mem_iff.1 (a8 hx));simp only[go_sem,T1,D,h6,T];refine cZ (λq A u=>A 0=.one (.hsl id g 7 0 (I E))/\A 1=ai 0/\A 2=ai (I E)/\A 3=F0/\A 8=ai ((k+1:Nat):Int)/\A 9=ai ((k+1-q:Nat):Int)/\ ∃f:fh,u id=(g,some (.arr v 7 (cL f)))/\Ca qP zs f x 0 (k+1) (k+1-q)/\dk (· =id) blk u) 0 (k+1) (bj _) ?_ ?_
  .simp only[go_sem,h0,h1,D,h3,h6];exact⟨zs,hZ,Ca.start (bj _) hx af,dm⟩
  rintro q dq bt hq ⟨Z,Q,k2,Y,k6,L,f,X,H,Kn⟩
  have wB:=H.perm.length_eq.trans mj;have wk:IntKind.i64.wrap (((k+1:Nat):Int)+1)=((k+1+1:Nat):Int):=cg J;by_cases Dt:k+1-q=0
  .have F:¬((0:Int)<((k+1-q:Nat):Int)):=J;simp only[go_sem,TO,TD,Z,Q,k2,Y,k6,L,F,wk];refine⟨aK,J,f,X,H.perm.trans hp,H.stop adD (.inl Dt),Kn⟩
  obtain⟨j,hj⟩:∃j,k+1-q=j+1:=⟨k-q,J⟩;have F:((0:Int)<((j+1:Nat):Int)):=J;obtain⟨y,N⟩:=aP (h:=f) (k:=j) J;rw[hj]at H L;have wj:IntKind.i64.wrap (((j+1:Nat):Int)-1)=(j:Int):=by rw[sq J];omega
  have sQ:=SE H.at';have zT:=SE N;have j1:j+1<I E:=by have:=H.le;omega
  have j2:j<I E:=J;obtain⟨n,pl,O⟩:=aBg x y sx (B y ((H.perm.trans hp).mem_iff.1 (a8 N)));cases M:qP x y with
  |false=>
   rw[M]at O;have R:¬(n<0):=by simpa using O
   simp only[go_sem,TO,TD,Z,Q,k2,Y,k6,L,F,wk,wj,X,sQ,zT,eU.ps,j1,j2,o,z,RM pl,R];refine⟨aK,J,f,rfl,H.perm.trans hp,H.stop adD (.inr ⟨y,J,N,M⟩),Kn⟩
  |true=>
   rw[M]at O;have R:n<0:=by simpa using O
   have yt:=H.step adD (bj _) N M;have QA:¬(j+1=j):=J;have l2:j<I f:=J;simp only[go_sem,TO,TD,Z,Q,k2,Y,k6,L,F,wj,X,sQ,zT,eU.ps,j1,j2,QA,o,z,RM pl,R,qt,xL];have GG:k+1-(q+1)=j:=J;refine⟨aK,aK,J,by rw[GG],(f.set (j+1) y).set j x,by rw[<-alq,<-alq];rfl,by rw[GG];exact yt,(Kn.dz rfl _).dz rfl _⟩
 have T:¬(((k+1:Nat):Int)<(I E:Int)):=J;simp only[go_sem,T1,D,h6,T];exact⟨rfl,⟨zs,hZ,hp,af.mono (.inl J)⟩,dm⟩
def aGV{al:cD}{blk:aH}{id g:Nat}{E:fh}(o:al.ok id)(F:al.fs.contains 217)(hl:I E<=12)(h:∀m∈E,KY m)(H:blk id=(g,some (.arr v 7 (cL E))))(L:Int):
  ∃n A,ja S 188 [.one (.hsl id g 7 0 (I E)),ai 0,ai (I E),ai L,F0] al blk n A/\Xg id g v E blk n A:=by
 refine mL ajM (jg rfl) ?_;have j:IntKind.i64.wrap ((I E:Int)-0)=(I E:Int):=by rw[Int.sub_zero];exact iS J J
 have M:(I E:Int)<=12:=J;simp only[go_sem,abq];refine oG ?_;simp only[go_sem,aba,j,M,ail];refine Bi H aH6 (.inr ⟨o,by rw[show S.sites 217=[217] by kernel_rfl];simp only[vO,Br,F,Bu]⟩) (λQ x _=>aD3 x J h H) λn A u=>?_;obtain⟨rfl,f⟩:=u;simp only[go_sem];exact⟨rfl,f⟩
def aG5{al:cD}{blk:aH}{id g:Nat}{E:fh}(o:al.ok id)(F:(S.sites 188).all al.fs.contains)(hl:I E<=12)(H:∀m∈E,KY m)(j:blk id=(g,some (.arr v 7 (cL E)))):
  ∃n A,ja S 137 [.one (.hsl id g 7 0 (I E)),F0] al blk n A/\Xg id g v E blk n A:=by
 obtain⟨k,pb⟩:=adQ (I E) J;have x:IntKind.u64.wrap (I E:Int)=(I E:Int):=by
  have e:IntKind.u64.wrap (I E:Int)=(I E:Int)%18446744073709551616:=aH6
  rw[e];omega
 refine mL amD (jg rfl) ?_;have f:S.shared 134=false:=ah;simp only[go_sem,aaD,x,f,Uw pb,ag0];refine Bi j aH6 (.inr ⟨o,F⟩) (λQ y h=>aGV y aIq hl H j k) λn A u=>?_;obtain⟨rfl,h⟩:=u;simp only[go_sem];exact⟨rfl,h⟩
def JT(a b:eU):Bool:=(a.k==b.k)&&((a.a==b.a)&&((a.b==b.b)&&((a.c==b.c)&&((a.l==b.l)&&((a.o==b.o)&&(a.s==b.s))))))
def aye(x y:eU):nJ [true,true,true,true,false,false,true] [.p (.int .i64 x.k),.p (.int .i64 x.a),.p (.int .i64 x.b),.p (.int .i64 x.c),.p (.bool x.l),.p (.bool x.o),.p (.int .i64 x.s)] [.p (.int .i64 y.k),.p (.int .i64 y.a),.p (.int .i64 y.b),.p (.int .i64 y.c),.p (.bool y.l),.p (.bool y.o),.p (.int .i64 y.s)]=some (JT x y):=by
 have e:∀a b:Int,n9 true (.int .i64 a) (.int .i64 b)=some (a==b):=λa b=>by simp[n9]
 have E:∀a b:Bool,n9 false (.bool a) (.bool b)=some (a==b):=λa b=>by simp[n9]
 simp[nJ,JT,e,E]
 grind
def aFk{a b:eU}(h:JT a b):a=b:=by
 cases a;cases b;unfold JT at h
 grind
theorem ayB(a:eU):JT a a:=by unfold JT;simp
def aBw(M:fh)(x:eU)(O:I M<=1000000):∃i:Int,((0<=i->x∈M)/\(i<0->x∉M))/\aC S 187 [.one (.p (.sl (cL M))),H8 x] (fH i):=by
 have:∃r,(∃i:Int,((0<=i->x∈M)/\(i<0->x∉M))/\r=fH i)/\aC S 187 [.one (.p (.sl (cL M))),H8 x] r:=by
  refine Ho rfl aHa (jg rfl) ?_;simp only[go_sem,ahf];refine cZ (λk A blk=>A 0=.one (.p (.sl (cL M)))/\A 3=.one (.aW 11968000000 1 0)/\blk 11968000000=(1,some (.var [.p (.int .i64 x.k),.p (.int .i64 x.a),.p (.int .i64 x.b),.p (.int .i64 x.c),.p (.bool x.l),.p (.bool x.o),.p (.int .i64 x.s)]))/\A 7=ai (I M)/\A 8=ai k/\x∉M.take k) 0 (I M) (bj _) ?_ ?_
  .simp only[go_sem];simp
  rintro k A blk Q ⟨v,y,F,u,f,Y⟩
  by_cases B:k<I M
  .have D:((k:Int)<(I M:Int)):=J;obtain⟨m,z⟩:=aP B;have E:=SE z;have L:=cg (n:=k) J;have H:=aye x m;cases j:JT x m with
   |true=>rw[j]at H;simp only[go_sem,Tj,v,y,F,u,f,D,E,eU.ps,H];exact⟨aK,_,⟨_,⟨λ_=>(aFk j)▸a8 z,λh=>J⟩,rfl⟩,rfl⟩
   |false=>
    rw[j]at H;simp only[go_sem,Tj,v,y,F,u,f,B,D,E,eU.ps,L,H];refine⟨aK,λh=>?_⟩;rw[jM,z]at h;rcases iI.1 h with h|h
    .exact Y h
    grind [ayB]
  have:k=I M:=J;subst this;simp only[go_sem,Tj,afx,u,f,ek]
  grind
 obtain⟨_,⟨i,N,rfl⟩,h⟩:=this;exact⟨i,N,h⟩
def aiK(m:fh)(x:eU)(f:I m<=1000000):∃b,((b=true->x∈m)/\(b=false->x∉m))/\aC S 136 [.one (.p (.sl (cL m))),H8 x] (cK b):=by obtain⟨i,H,j⟩:=aBw m x f;refine⟨decide _,⟨λh=>H.1 (xT h),λh=>H.2 ii⟩,?_⟩;refine ba aw5 ?_;simp only[go_sem,akY,aGQ,ie j]
abbrev mB:Nat:=27
abbrev aiY:Nat:=3
def Lc(k:Int)(m:Nat)(M:eU):Prop:=M.k=k/\M.a=(m:Int)/\M.l=false/\M.o=false/\M.s=0/\KY M
def aAB{l:cT}(h:I l=2):∃a b,l=[a,b]:=by
 match l,h with
 |[a,b],_=>exact⟨a,b,rfl⟩
def aG8{l:cT}(h:I l=3):∃a b c,l=[a,b,c]:=by
 match l,h with
 |[a,b,c],_=>exact⟨a,b,c,rfl⟩
def SO(blk:aH)(v:V)(A:aH):Prop:=v=.tup []/\A=blk
def Pm{Q:ib}{al:cD}{n:bP}{blk:aH}{os:fx}{d:eF}{j:dG}{P:V->aH->Prop}(u:(j.map (mI blk)).flatten=[])(H:al=.all\/(S.sites f).all al.fs.contains)
  (h:∀m,m.fs=S.sites f->∃v A,ja S f j m blk v A/\P v A) (y:∀v A,P v A->jC S al os Q (dL n d v) A):jW S al (.sc f j) d os Q n blk:=by
 refine rG ?_ (h _ rfl) y;rcases H with rfl|x
 .rfl
 refine Mk ?_ x;show al.iG (j.map _).flatten=true;rw[u];rfl
def aC1{al:cD}{blk:aH}:∃v A,ja S 217 [.one (.p .nils),ai 0,ai 0,F0] al blk v A/\SO blk v A:=by refine mL afd (jg rfl) ?_;have f:IntKind.i64.wrap 1=1:=aa;have h:¬((1:Int)<0):=aa;simp only[go_sem,ae4];refine oG ?_;simp only[go_sem,T1,f,h];first|done|exact⟨rfl,rfl⟩|trace_state
def aBS{al:cD}{blk:aH}(f:al.fs.contains 217)(L:Int):∃v A,ja S 188 [.one (.p .nils),ai 0,ai 0,ai L,F0] al blk v A/\SO blk v A:=by refine mL ajM (jg rfl) ?_;have j:IntKind.i64.wrap (0-0)=0:=aa;have m:((0:Int)<=12):=aa;simp only[go_sem,abq];refine oG ?_;simp only[go_sem,aba,j,m,ail];refine Pm aH6 (.inr (by rw[show S.sites 217=[217] by kernel_rfl];simp only[vO,Br,f,Bu])) (λQ _=>aC1) λv A h=>?_;obtain⟨rfl,H⟩:=h;simp only[go_sem];exact⟨rfl,H⟩
def arE{al:cD}{blk:aH}(F:(S.sites 188).all al.fs.contains):∃v A,ja S 137 [.one (.p .nils),F0] al blk v A/\SO blk v A:=by obtain⟨k,pb⟩:=adQ 0 J;have j:IntKind.u64.wrap ((0:Nat):Int)=((0:Nat):Int):=aa;refine mL amD (jg rfl) ?_;have f:S.shared 134=false:=ah;simp only[go_sem,aaD,j,f,Uw pb,ag0];refine Pm aH6 (.inr F) (λQ h=>aBS aIq k) λv A H=>?_;obtain⟨rfl,h⟩:=H;simp only[go_sem];exact⟨rfl,h⟩
def lX(j:Int)(m:Nat)(D:aD)(M:fh):Prop:=
 (j≠8->∀b:Nat,m<b->I D=2->(∃d∈D,d/2=m)->(∃d∈D,d/2=b)->(⟨j,m,b,0,false,false,0⟩:eU)∈M)/\
 (j=8->∀b c:Nat,m<b->b<c->I D=3->(∃d∈D,d/2=m)->(∃d∈D,d/2=b)->(∃d∈D,d/2=c)->(⟨j,m,b,c,false,false,0⟩:eU)∈M)
def lX.app{M:fh}(h:lX j m D M)(x:fh):lX j m D (M++x):=
 ⟨λa b c d e f=>Hw _ (h.1 a b c d e f),λa b c d e f g i n=>Hw _ (h.2 a b c d e f g i n)⟩
theorem aEa(h:I D=2){x:Nat}(f:x∈D)(H:y∈D)(A:x≠y):∀z∈D,z=x\/z=y:=by
 match D,h with
 |[a,b],_=>grind
theorem atE(h:I D=3){x w:Nat}(j:x∈D)(f:y∈D)(H:w∈D)(n:x≠y)(N:x≠w)(m:y≠w):∀z∈D,z=x\/z=y\/z=w:=by
 match D,h with
 |[a,b,c],_=>grind
def lX.low{M:fh}{d:Nat}(H:d∈D)(h:d/2<m):lX j m D M:=by
 constructor
 .grind [aEa]
 grind [atE]
def lX.far{M:fh}(h:I D=1\/3<I D):lX j m D M:=
 ⟨λ_ b _ f=>J,λ_ b c _ _ H=>J⟩
def lX.two8{M:fh}(h:I D=2)(H:j=8):lX j m D M:=
 ⟨λh=>absurd H h,λ_ b c _ _ f=>J⟩
def lX.three{M:fh}(h:I D=3)(H:j≠8):lX j m D M:=
 ⟨λ_ b _ f=>J,λh=>absurd h H⟩
def lX.two{M:fh}(h:I D=2)(hp:[A,u].Perm (D.map λd=>((d/2:Nat):Int)))(af:xQ xU [A,u] 0 2)(H:j≠8)(L:(⟨j,m,u,0,false,false,0⟩:eU)∈M):lX j m D M:=by
 refine⟨?_,λh=>absurd h H⟩;rintro _ b z _ ⟨x,n,E⟩ ⟨y,f,v⟩
 have N:=hp.mem_iff.2 (c_.2 ⟨x,n,by rw[E]⟩);have B:=hp.mem_iff.2 (c_.2 ⟨y,f,by rw[v]⟩);have F:=af 0 1 A u J J J rfl rfl
 grind
def lX.thr{M:fh}{Y:Int}(h:I D=3)(hp:[A,u,Y].Perm (D.map λd=>((d/2:Nat):Int)))(af:xQ xU [A,u,Y] 0 3)(N:(⟨j,m,u,Y,false,false,0⟩:eU)∈M):lX j m D M:=by
 refine⟨λ_ b _ f=>J,?_⟩;rintro _ b c F O _ ⟨x,v,E⟩ ⟨y,n,z⟩ ⟨w,H,B⟩
 have R:=hp.mem_iff.2 (c_.2 ⟨x,v,by rw[E]⟩);have f:=hp.mem_iff.2 (c_.2 ⟨y,n,by rw[z]⟩);have Q:=hp.mem_iff.2 (c_.2 ⟨w,H,by rw[B]⟩);have L:=af 0 1 A u J J J rfl rfl;have T:=af 1 2 u Y J J J rfl rfl
 grind
def aic{l:fh}{x:eU}(h:l.Nodup)(H:x∉l):(l++[x]).Nodup:=by grind
def awp{f:fh}{k:Int}(A:∀M∈f,Lc k m M)(z:f.Nodup)(af:xQ qP f 0 (I f)):f.Pairwise λx y=>qP x y=true:=by
 rw[KD];intro i j H h v;have Q:=af i j f[i] f[j] (bj _) v h (vA H) (vA h);have u:f[i]≠f[j]:=λe=>by have:=(List.getElem_inj z).1 e;omega
 have n:=A _ (XA H);have B:=A _ (XA h);generalize f[i]=x at*;generalize f[j]=y at*;cases L:qP x y with
 |true=>rfl
 |false=>
  exfalso;apply u;obtain⟨N,O,R,D,T,_⟩:=n;obtain⟨X,E,c4,fv,F,_⟩:=B;cases x;cases y
  grind [qP]
def ass(g:aU F h)(j:Int)(ha:m<I h):∃M:fh,(I M<=2/\(∀ag∈M,Lc j m ag)/\(∀R,R<2->lX j m (c8 F h (2*m+R)).bc M)/\M.Pairwise λx y=>qP x y=true)/\aC S 89 [.one (.p (fk F h)),ai j,ai m] (.one (bU mB 7 (cL M))):=by
 have be:=g.len;have hN:aX h<=1600:=by have:=qp h (I h);unfold aX;have:I (aA h)<=I h:=qp h (I h);omega
 suffices H:∃r,(∃M:fh,(I M<=2/\(∀ag∈M,Lc j m ag)/\(∀R,R<2->lX j m (c8 F h (2*m+R)).bc M)/\M.Pairwise λx y=>qP x y=true)/\r=.one (bU mB 7 (cL M)))/\aC S 89 [.one (.p (fk F h)),ai j,ai m] r by obtain⟨r,⟨M,h1,rfl⟩,T⟩:=H;exact⟨M,h1,T⟩
 refine Ho rfl axE (jg rfl) ?_;simp only[go_sem,ao2];refine cZ (λk aj blk=>aj 0=.one (.p (fk F h))/\aj 1=ai j/\aj 2=ai m/\aj 14=ai k/\ ∃M c,I M<=k/\(∀ag∈M,Lc j m ag)/\(∀R,R<k->lX j m (c8 F h (2*m+R)).bc M)/\M.Nodup/\aj 7=.one c/\a_ 5697280192 mB 7 (cL M) (.one c) blk) 0 2 (bj _) ?_ ?_
 .simp only[go_sem];exact⟨rfl,[],.p .nils,cP _,λag H=>(by cases H),λR H=>absurd H (oJ _),pW,rfl,a_.nil⟩
 rintro k aj blk hk ⟨h0,h1,T,AX,M,c,EY,E,GJ,Y,h7,gm⟩
 by_cases aw:k<2
 .have aL:((k:Int)<2):=J;obtain⟨R,M8,mE,Il⟩:=Sr g (d:=2*m+k) J;have ZD:=a8 mE;have A5:=i_ M8;have Dn:=It mE;have m2:=qj (a:=m) J;have m3:=uh (a:=2*m) (b:=k) J;have w1:=cg (n:=k) J;have yx:2*m+k<I (lM F h):=by rw[Js];omega
  have H0:=aaP ZD;have bd:=IU g.ok ZD;obtain⟨_,_,aF,_⟩:=BC (u:=h) (d:=2*m+k) J;have O:∀ab:fh,lX j m (c8 F h (2*m+k)).bc (M++ab)->∀R,R<k+1->lX j m (c8 F h (2*m+R)).bc (M++ab):=λab H R hj=>by
   by_cases e:R=k
   .rw[e];exact H
   exact(GJ R J).app ab
  have KZ:lX j m (c8 F h (2*m+k)).bc M->∀R,R<k+1->lX j m (c8 F h (2*m+R)).bc M:=λH=>by have:=O [] (by rw[j_];exact H);rwa[j_]at this
  generalize Qq:c8 F h (2*m+k)=f at*;simp only[go_sem,abD,h0,T,AX,aL,m2,m3,A5,Dn,cX.ps];refine⟨aK,?_⟩;obtain⟨g9,hg9⟩:∃g9,(blk 5696321024).fst+1=g9:=⟨_,rfl⟩;rw[hg9];refine cZ (λq N bt=>N 0=.one (.p (fk F h))/\N 1=ai j/\N 2=ai m/\N 14=ai k/\N 7=.one c/\a_ 5697280192 mB 7 (cL M) (.one c) bt/\N 9=.one (.aW 5696321024 g9 0)/\bt 5696321024=(g9,some (.var (f.ps.map .p)))/\N 34=.one (.p (.sl (aY f.bc)))/\N 35=ai (I f.bc)/\N 36=ai q/\(0<q->I f.bc<=3)/\ ∃zs ce,I zs=q/\zs=(f.bc.take q).map (λd=>((d/2:Nat):Int))/\(∀z∈zs,0<=z/\z<=1000000)/\N 10=.one ce/\a_ 5696704256 aiY 1 (fm zs) (.one ce) bt) 0 (I f.bc) (bj _) ?_ ?_
  .have a1:a_ 5697280192 mB 7 (cL M) (.one c) (dz (dz blk 5696321024 (g9,some (gr.var [cG.p (PV.bool false),cG.p PV.nils,cG.p PV.nils,cG.p PV.nils,cG.p (PV.bool false)]))) 5696321024 (g9,some (gr.var (f.ps.map .p)))):=gm.of_eq ((cJ aa).trans (cJ aa));simp only[go_sem,h0,h1,T,h7,AX,cX.ps]at a1 |-;refine⟨a1,rfl,λH=>H.elim,[],.p .nils,rfl,rfl,λz H=>(by cases H),rfl,a_.nil⟩
  rintro q N bt hq ⟨Z,L,B,X,D,C0,p9,b9,IW,Se,Sf,h3,zs,ce,mj,QZ,am,Bp,gz⟩
  simp only[cX.ps,fq,ml]at b9;by_cases Iy:q<I f.bc
  .have ZS:((q:Int)<(I f.bc:Int)):=J;obtain⟨d,hd⟩:=aP Iy;have oY:=i_ hd;have bf:=H0 d (a8 hd);have wq:=wrap_small (n:=d/2) J;have w2:=cg (n:=q) J;by_cases c1:d/2<m
   .have ad:(((d/2:Nat):Int)<(m:Int)):=J;simp only[go_sem,Rk,GP,Z,L,B,X,D,p9,Bp,IW,Se,Sf,b9,Iy,ZS,oY,kE,n_,wq,ad,w1,aw];exact⟨M,c,J,E,KZ (.low (a8 hd) c1),Y,rfl,C0⟩
   have ad:¬(((d/2:Nat):Int)<(m:Int)):=J;by_cases c2:3<I f.bc
   .have ap:((3:Int)<(I f.bc:Int)):=J;simp only[go_sem,Rk,GP,Z,L,B,X,D,p9,Bp,IW,Se,Sf,b9,Iy,ZS,oY,kE,n_,wq,ad,ap,w1,aw];exact⟨M,c,J,E,KZ (.far (.inr c2)),Y,rfl,C0⟩
   have ap:¬((3:Int)<(I f.bc:Int)):=J;simp only[go_sem,Rk,B,p9,Bp,IW,Se,Sf,b9,ZS,oY,kE,n_,wq,ad,ap];refine mO (B:=[[.int .i64 ((d/2:Nat):Int)]]) (gz.of_eq (cJ aa)) f0 (.inl rfl) (by simp only[rC,fF,fB];omega) λc2 nE a5 hb=>?_;have q9:=hb 5696321024 aa aa;have Q:=C0.of_eq ((hb 5697280192 aa aa).trans (cJ aa));simp only[go_sem,b9]at q9;simp only[go_sem,Z,L,B,X,D,p9,IW,Se,Sf,q9,w2,cX.ps];refine⟨Iy,Q,λ_=>J,zs++[((d/2:Nat):Int)],c2,by simp;omega,by rw[QZ,jM,hd];simp,λz hz=>?_,rfl,?_⟩
   .rcases iI.1 hz with H|H
    .exact am z H
    have:=nI.1 H;omega
   rw[show fm (zs++[((d/2:Nat):Int)])=fm zs++[[.int .i64 ((d/2:Nat):Int)]] by simp[fm]];exact a5
  have:q=I f.bc:=J;subst this;have a6:0<I f.bc:=Xn aF;have vR:=h3 a6;rcases gz with⟨e,_⟩|⟨_,gg,e,bz⟩
  .have a9:I (fm zs)=0:=by rw[e];rfl
   rw[rC]at a9;omega
  cases e;have sS:S.shared 135:=ah;simp only[go_sem,Rk,agB,Bp,Se,Sf,ek,sS,rC];refine Bi bz aH6 (.inl rfl) (P:=VM xU 5696704256 gg aiY zs bt) (λqK h1 T=>Yj h1 aIr J bz) λv nE hP=>?_;obtain⟨rfl,⟨ws,bw,pw,sw⟩,kw⟩:=hP;have Q:=C0.of_eq (kw 5697280192 aa);have wB:=pw.length_eq;have mg:ws.Perm (f.bc.map λd=>((d/2:Nat):Int)):=by rw[QZ,lN]at pw;exact pw
  have an:∀z∈ws,0<=z/\z<=1000000:=λz hz=>am z (pw.mem_iff.1 hz);rw[mj]at wB;clear pw am b9 bz;clear h3 Iy H0 bd ZD aF hq QZ;generalize A8:I f.bc=n at*;have aez:S.shared 136=false:=ah;have DM:(((2:Nat):Int)==2):=aa;have a4:(((1:Nat):Int)==2)=false:=aa;have a0:(((3:Nat):Int)==2)=false:=aa;have a3:(((1:Nat):Int)==3)=false:=aa;have DN:(((2:Nat):Int)==3)=false:=aa;have a2:(((3:Nat):Int)==3):=aa;rcases(by omega:n=1\/n=2\/n=3)with rfl|rfl|rfl
  .simp only[go_sem,GP,Z,L,B,X,D,Bp,mj,a4,a3,w1,aw];exact⟨M,c,J,E,KZ (.far (.inl A8)),Y,rfl,Q.of_eq ((cJ aa).trans (cJ aa))⟩
  .obtain⟨A,u,rfl⟩:=aAB wB;by_cases h8:j=8
   .have e8:(j !=8)=false:=by rw[h8];rfl
    simp only[go_sem,GP,Z,L,B,X,D,Bp,mj,DM,DN,e8,w1,aw];exact⟨M,c,J,E,KZ (.two8 A8 h8),Y,rfl,Q.of_eq ((cJ aa).trans (cJ aa))⟩
   have e8:(j !=8):=by simpa using h8
   simp only[go_sem,GP,L,B,D,Bp,mj,DM,e8,bw];obtain⟨bb,yv,ak⟩:=aiK M ⟨j,m,u,0,false,false,0⟩ J;have ar:aC S 136 [.one (.p (.sl (cL M))),.agg [.p (.int .i64 j),.p (.int .i64 m),.p (.int .i64 u),.p (.int .i64 0),.p (.bool false),.p (.bool false),.p (.int .i64 0)]] (cK bb):=ak;obtain⟨r,az,hr⟩:=Q.DR;simp only[go_sem,aez,az,cS ar];cases bb with
   |true=>simp only[go_sem,Z,L,B,X,D,w1,aw];exact⟨M,c,J,E,KZ (.two A8 mg sw h8 (yv.1 rfl)),Y,rfl,Q.of_eq ac⟩
   |false=>
    simp only[go_sem,D];refine mO (B:=[eU.ps ⟨j,m,u,0,false,false,0⟩]) (Q.of_eq ac) f0 (.inl rfl) (by simp only[xL,fF,fB];omega) λc2 zo AU oU=>?_;simp only[go_sem,Z,L,B,X,w1,aw];refine⟨M++[⟨j,m,u,0,false,false,0⟩],c2,by simp;omega,λag hm=>?_,O _ (.two A8 mg sw h8 aG),aic Y (yv.2 rfl),rfl,by rw[show cL (M++[⟨j,m,u,0,false,false,0⟩])=cL M++[eU.ps ⟨j,m,u,0,false,false,0⟩] by simp[cL]];exact AU⟩;rcases iI.1 hm with H|H
    .exact E ag H
    have:=nI.1 H;subst this;exact⟨rfl,rfl,rfl,rfl,rfl,an u aG,aG⟩
  obtain⟨A,u,y2,rfl⟩:=aG8 wB;by_cases h8:j=8
  .have e8:(j==8):=by rw[h8];rfl
   simp only[go_sem,GP,L,B,D,Bp,mj,a0,a2,e8,bw];obtain⟨bb,yv,ak⟩:=aiK M ⟨j,m,u,y2,false,false,0⟩ J;have ar:aC S 136 [.one (.p (.sl (cL M))),.agg [.p (.int .i64 j),.p (.int .i64 m),.p (.int .i64 u),.p (.int .i64 y2),.p (.bool false),.p (.bool false),.p (.int .i64 0)]] (cK bb):=ak;obtain⟨r,az,hr⟩:=Q.DR;refine⟨aK,?_⟩;simp only[go_sem,aez,az,cS ar];cases bb with
   |true=>simp only[go_sem,Z,L,B,X,D,w1,aw];exact⟨M,c,J,E,KZ (.thr A8 mg sw (yv.1 rfl)),Y,rfl,Q.of_eq ac⟩
   |false=>
    simp only[go_sem,D];refine mO (B:=[eU.ps ⟨j,m,u,y2,false,false,0⟩]) (Q.of_eq ac) f0 (.inl rfl) (by simp only[xL,fF,fB];omega) λc2 zo AU oU=>?_;simp only[go_sem,Z,L,B,X,w1,aw];refine⟨M++[⟨j,m,u,y2,false,false,0⟩],c2,by simp;omega,λag hm=>?_,O _ (.thr A8 mg sw aG),aic Y (yv.2 rfl),rfl,by rw[show cL (M++[⟨j,m,u,y2,false,false,0⟩])=cL M++[eU.ps ⟨j,m,u,y2,false,false,0⟩] by simp[cL]];exact AU⟩;rcases iI.1 hm with H|H
    .exact E ag H
    have:=nI.1 H;subst this;exact⟨rfl,rfl,rfl,rfl,rfl,an u aG,an y2 aG⟩
  have e8:(j==8)=false:=by simpa using h8
  simp only[go_sem,GP,Z,L,B,X,D,Bp,mj,a0,a2,e8,w1,aw];exact⟨M,c,J,E,KZ (.three A8 h8),Y,rfl,Q.of_eq ((cJ aa).trans (cJ aa))⟩
 have:k=2:=J;subst this;have kI:¬(((2:Nat):Int)<2):=aa;have sS:S.shared 137:=ah;simp only[go_sem,abD,aiy,h7,AX,kI,sS];rcases gm with⟨e,e2⟩|⟨aN,gg,e2,bm⟩
 .cases e2;have:M=[]:=by simpa [cL]using e
  subst this;refine Pm aH6 (.inl rfl) (P:=SO blk) (λqK T=>arE aIr) λv nE hP=>?_;obtain⟨rfl,rfl⟩:=hP;simp only[go_sem,h7];exact⟨_,⟨[],⟨aG,(λag H=>by cases H),GJ,List.Pairwise.nil⟩,rfl⟩,rfl⟩
 cases e2;rw[xL]at h7 |-;refine Bi bm aH6 (.inl rfl) (P:=Xg 5697280192 gg mB M blk) (λqK h1 T=>aG5 h1 aIr J (λag hm=>(E ag hm).2.2.2.2.2) bm) λv nE hP=>?_;obtain⟨rfl,⟨ws,bw,pw,sw⟩,kw⟩:=hP;simp only[go_sem,h7];have wB:=pw.length_eq;refine⟨_,⟨ws,⟨J,λag hm=>E ag (pw.mem_iff.1 hm),λR hj=>⟨λa b c d e f=>pw.mem_iff.2 ((GJ R hj).1 a b c d e f),λa b c d e f g i j'=>pw.mem_iff.2 ((GJ R hj).2 a b c d e f g i j')⟩,awp (λag hm=>E ag (pw.mem_iff.1 hm)) (pw.nodup_iff.2 Y) sw⟩,rfl⟩,?_⟩;rw[<-wB,<-xL ws];refine qN (.inr ⟨λe=>aN ?_,gg,rfl,bw⟩);have h0:I (cL ws)=0:=by rw[e];rfl
 rw[xL,wB]at h0;rw[yc.1 h0];rfl
def My(k:Int)(n:Nat)(m:eU):Prop:= ∃a,a<n/\Lc k a m
def anM{k:Int}{a:Nat}{M N:fh}(h:∀m∈M,My k n m)(j:∀m∈N,Lc k a m)(f:a<n):∀m∈M++N,My k n m:=λm H=>(iI.1 H).elim (h m) λu=>⟨a,f,j m u⟩
def Wx (F:Nat)(h:ae)(j:Int)(m:fh):Prop:=(j=1\/j=4->∀a:Nat,a<I h->(⟨j,a,0,0,false,false,0⟩:eU)∈m)/\(j=3\/j=6\/j=8->∀a,a<I h->∀f,f<2->lX j a (c8 F h (2*a+f)).bc m)
def lX.rD{M:fh}(h:lX j m D M)(x:fh):lX j m D (x++M):=
 ⟨λa b c d e f=>vv _ (h.1 a b c d e f),λa b c d e f g i n=>vv _ (h.2 a b c d e f g i n)⟩
def E7(x y:eU):Prop:=x.a<y.a\/(x.a=y.a/\qP x y)
section
variable {F:Nat} {h:ae}
def aEv{k:Nat}{M n:fh}(h:(∀m∈M,m.a<(k:Int))/\M.Pairwise E7)(j:∀m∈n,m.a=(k:Int))(hp:n.Pairwise λx y=>qP x y=true):(∀m∈M++n,m.a<((k+1:Nat):Int))/\(M++n).Pairwise E7:=by
 refine⟨λm u=>?_,BD.2 ⟨h.2,hp.imp_of_mem λf H hl=>.inr ⟨by rw[j _ f,j _ H],hl⟩,λx f y H=>.inl ii⟩⟩
 grind
def ack(g:aU F h)(aN:0<I h)(vf:j=3\/j=6\/j=8):∃M:fh,(I M<=2*I h/\(∀m∈M,My j (I h) m)/\Wx F h j M/\M.Pairwise E7)/\aC S 53 [.one (.p (fk F h)),ai j] (.one (bU mB 7 (cL M))):=by
 have ab:=g.len;have lo:S.lone 3394944256=false:=ah;have bQ:I (dP (aJ h))=I h:=aH8
 have jq:(((I h:Nat):Int)==0)=false:=ro
 suffices Q:∃r,(∃M:fh,(I M<=2*I h/\(∀m∈M,My j (I h) m)/\Wx F h j M/\M.Pairwise E7)/\r=.one (bU mB 7 (cL M)))/\aC S 53 [.one (.p (fk F h)),ai j] r by obtain⟨r,⟨M,H,rfl⟩,h2⟩:=Q;exact⟨M,H,h2⟩
 have T:(j==2)=false:=ro
 have d5:(j==5)=false:=ro
 have Z:(j==7)=false:=ro
 refine Ho rfl J3 (jg rfl) ?_;simp only[go_sem,i53,HC,bQ,jq];refine cZ (λk A blk=>A 0=.one (.p (fk F h))/\A 1=ai j/\A 41=ai (I h)/\A 42=ai k/\ ∃M c,I M<=2*k/\(∀m∈M,My j (I h) m)/\(∀a,a<k->∀L,L<2->lX j a (c8 F h (2*a+L)).bc M)/\((∀m∈M,m.a<(k:Int))/\M.Pairwise E7)/\A 5=.one c/\a_ 3394944320 mB 7 (cL M) (.one c) blk) 0 (I h) (bj _) ?_ ?_
 .simp only[go_sem];exact⟨rfl,[],.p .nils,aG,λm Q=>(by cases Q),λa Q=>absurd Q (oJ _),⟨λm Q=>(by cases Q),List.Pairwise.nil⟩,rfl,a_.nil⟩
 rintro k A blk hk ⟨x,H,R,O,M,c,EY,aB,v,qd,E,X⟩
 by_cases y:k<I h
 .have Y:((k:Int)<(I h:Int)):=J;have w1:=cg (n:=k) J;obtain⟨N,⟨ad,f,Nc,A9⟩,pc⟩:=ass g j y;have z:=aEv qd (λm hm=>(f m hm).2.1) A9;have B:∀a,a<k+1->∀L,L<2->lX j a (c8 F h (2*a+L)).bc (M++N):=λa ha L hj=>by
   by_cases e:a=k
   .rw[e];exact(Nc L hj).rD M
   exact(v a J L hj).app N
  cases D:(j==3)with
  |true=>simp only[go_sem,wM,Hm,x,H,R,O,E,Y,T,d5,Z,D,YZ];refine pB pc lo (.inl rfl) λcc cE u cU=>?_;obtain⟨r,hx,hr⟩:=u.elems;simp only[go_sem];refine mO (X.of_eq (cU 3394944320 aa)) hx u.gk (by simp only[xL];omega) λc2 zo AU oU=>?_;simp only[go_sem,x,H,R,O,w1,y];exact⟨M++N,c2,by simp;omega,anM aB f y,B,z,rfl,by rw[show cL (M++N)=cL M++cL N by simp[cL]];exact AU⟩
  |false=>
   cases d6:(j==6)
   case' true=>simp only[go_sem,wM,Hm,x,H,R,O,E,Y,T,d5,Z,D,d6,YZ]
   case' false=>
    have d8:(j==8):=by
     rcases vf with rfl|rfl|rfl
     .cases D
     .cases d6
     rfl
    simp only[go_sem,wM,Hm,x,H,R,O,E,Y,T,d5,Z,D,d6,d8,YZ]
   all_goals
    refine pB pc lo (.inl rfl) λcc cE u cU=>?_;obtain⟨r,hx,hr⟩:=u.elems;simp only[go_sem];refine mO (X.of_eq (cU 3394944320 aa)) hx u.gk (by simp only[xL];omega) λc2 zo AU oU=>?_;simp only[go_sem,x,H,R,O,w1,y];exact⟨M++N,c2,by simp;omega,anM aB f y,B,z,rfl,by rw[show cL (M++N)=cL M++cL N by simp[cL]];exact AU⟩
 have:k=I h:=J;subst this;simp only[go_sem,wM,HM,R,O,E,ek];exact⟨_,⟨M,⟨EY,aB,⟨λQ=>J,λ_=>v⟩,qd.2⟩,rfl⟩,qN X⟩
end
def XP(k:Int)(a:Nat):eU:=⟨k,a,0,0,false,false,0⟩
def Lw(a i:Nat):eU:=⟨5,a,0,0,false,decide ((1:Int)<(i:Int)),IntKind.i64.wrap (IntKind.i64.wrap (2*((i:Int).tmod 2))-1)⟩
def V8(a c i:Nat):eU:=⟨7,a,c,0,decide ((1:Int)<(i:Int)),((i:Int).tmod 2)==1,0⟩
def xf (n:Nat)(k:Int):fh:=(List.range n).map (XP k)
def sn (n:Nat):fh:=(List.range n).flatMap λa=>(List.range 4).map (Lw a)
def wP(a i c:Nat):fh:=if c=a then []else(List.range i).map (V8 a c)
def Bv(a n:Nat):fh:=(List.range n).flatMap (wP a 4)
def jR (m n:Nat):fh:=(List.range n).flatMap λa=>Bv a m
def at4(n:Nat)(k:Int):xf (n+1) k=xf n k++[XP k n]:=by simp[xf,mJ]
def aiE(n:Nat):sn (n+1)=sn n++(List.range 4).map (Lw n):=by simp[sn,mJ]
def alh(a n:Nat):Bv a (n+1)=Bv a n++wP a 4 n:=by simp[Bv,mJ]
def ap1(m n:Nat):jR m (n+1)=jR m n++Bv n m:=by simp[jR,mJ]
def asK{f:Nat->eU}(i:Nat):(List.range (i+1)).map f=(List.range i).map f++[f i]:=by simp[mJ]
def ahb(n:Nat)(k:Int):I (xf n k)=n:=by simp[xf]
def aar:∀n:Nat,I (sn n)=4*n
 |0=>rfl
 |n+1=>by rw[aiE,iM,aar n,ct,xm];omega
def aoM(a i c:Nat):I (wP a i c)<=i:=by unfold wP;split<;>simp
def Zz(a:Nat):∀n:Nat,I (Bv a n)<=4*n
 |0=>cP _
 |n+1=>by have:=Zz a n;have:=aoM a 4 n;rw[alh,iM];omega
def Y8(m:Nat):∀n:Nat,I (jR m n)<=4*(m*n)
 |0=>bj _
 |n+1=>by have:=Y8 m n;have:=Zz n m;rw[ap1,iM,Nat.mul_succ];omega
def V_(a b:fh):cL (a++b)=cL a++cL b:=by simp[cL]
section
variable {F:Nat} {h:ae}
def aBG(g:aU F h)(aN:0<I h)(D:(j==2)=false)(z:(j==5)=false)(X:(j==7)=false)(y:(j==3)=false)(N:(j==6)=false)(L:(j==8)=false):aC S 53 [.one (.p (fk F h)),ai j] (.one (bU mB 7 (cL (xf (I h) j)))):=by
 have u:=g.len;have T:I (dP (aJ h))=I h:=aH8
 have M:(((I h:Nat):Int)==0)=false:=ro
 suffices ab:∃r,r=.one (bU mB 7 (cL (xf (I h) j)))/\aC S 53 [.one (.p (fk F h)),ai j] r by grind
 refine Ho rfl J3 (jg rfl) ?_;simp only[go_sem,i53,HC,T,M];refine cZ (λk A blk=>A 0=.one (.p (fk F h))/\A 1=ai j/\A 41=ai (I h)/\A 42=ai k/\ ∃c,A 5=.one c/\a_ 3392768320 mB 7 (cL (xf k j)) (.one c) blk) 0 (I h) (bj _) ?_ ?_
 .simp only[go_sem];exact⟨rfl,.p .nils,rfl,a_.nil⟩
 rintro k A blk hk ⟨B,H,R,O,c,m,f⟩
 by_cases E:k<I h
 .have Q:((k:Int)<(I h:Int)):=J;have x:=cg (n:=k) J;simp only[go_sem,wM,Hm,H,R,O,m,Q,D,z,X,y,N,L];refine mO (B:=[eU.ps (XP j k)]) (f.of_eq (by simp[bG,Nat.reduceEqDiff])) f0 (.inl rfl) (by simp only[xL,ahb,fF,fB];omega) λv Z Y oU=>?_;simp only[go_sem,B,H,R,O,x,E];exact⟨v,rfl,by rw[at4,V_];exact Y⟩
 have:k=I h:=J;subst this;simp only[go_sem,wM,HM,R,O,m,ek];exact⟨_,rfl,qN f⟩
def as2(g:aU F h)(aN:0<I h):aC S 53 [.one (.p (fk F h)),ai 5] (.one (bU mB 7 (cL (sn (I h))))):=by
 have x:=g.len;have bQ:I (dP (aJ h))=I h:=aH8
 have jq:(((I h:Nat):Int)==0)=false:=ro
 have L:((5:Int)==2)=false:=aa;have d5:((5:Int)==5):=aa;have JV:¬((2:Int)=0):=aa
 suffices ab:∃r,r=.one (bU mB 7 (cL (sn (I h))))/\aC S 53 [.one (.p (fk F h)),ai 5] r by obtain⟨r,rfl,N⟩:=ab;exact N
 refine Ho rfl J3 (jg rfl) ?_;simp only[go_sem,i53,HC,bQ,jq];refine cZ (λk f blk=>f 0=.one (.p (fk F h))/\f 1=ai 5/\f 41=ai (I h)/\f 42=ai k/\ ∃c,f 5=.one c/\a_ 3393920704 mB 7 (cL (sn k)) (.one c) blk) 0 (I h) (bj _) ?_ ?_
 .simp only[go_sem];exact⟨rfl,.p .nils,rfl,a_.nil⟩
 rintro k f blk hk ⟨T,H,R,O,c,v,j⟩
 by_cases X:k<I h
 .have Y:((k:Int)<(I h:Int)):=J;have M:=cg (n:=k) J;simp only[go_sem,wM,Hm,H,R,O,Y,L,d5];refine cZ (λi A z=>A 0=.one (.p (fk F h))/\A 1=ai 5/\A 8=ai k/\A 41=ai (I h)/\A 42=ai k/\A 99=ai i/\ ∃c,A 5=.one c/\a_ 3393920704 mB 7 (cL (sn k++(List.range i).map (Lw k))) (.one c) z) 0 4 (bj _) ?_ ?_
  .refine⟨?_,?_,?_,?_,?_,?_,c,?_,by simpa using j⟩<;>(simp only[go_sem,T,H,R,O,v];first|done|rfl)
  rintro i A z hi ⟨u,m,D,B,E,Q,c,y,j⟩
  have iX:I (cL (sn k++(List.range i).map (Lw k)))=4*k+i:=by rw[xL,iM,aar,ct,xm]
  by_cases jA:i<4
  .have Z:((i:Int)<4):=J;have w2:=cg (n:=i) J;simp only[go_sem,Yn,m,D,Q,y,Z,JV];refine mO (B:=[eU.ps (Lw k i)]) (j.of_eq ac) f0 (.inl rfl) (by rw[iX];simp only[fF,fB];omega) λc2 zo AU oU=>?_;simp only[go_sem,u,m,D,B,E,Q,w2,jA];exact⟨c2,rfl,by rw[iT,<-k9,V_];exact AU⟩
  have:i=4:=J;subst this;have h4:¬(((4:Nat):Int)<4):=aa;simp only[go_sem,Yn,u,m,B,E,Q,y,h4,M,X];exact⟨c,rfl,by rw[aiE];exact j⟩
 have:k=I h:=J;subst this;simp only[go_sem,wM,HM,R,O,v,ek];exact⟨_,rfl,qN j⟩
def atG(g:aU F h)(aN:0<I h):aC S 53 [.one (.p (fk F h)),ai 7] (.one (bU mB 7 (cL (jR (I h) (I h))))):=by
 have H:=g.len;have bQ:I (dP (aJ h))=I h:=aH8
 have jq:(((I h:Nat):Int)==0)=false:=ro
 have d2:((7:Int)==2)=false:=aa;have d5:((7:Int)==5)=false:=aa;have d7:((7:Int)==7):=aa;have JV:¬((2:Int)=0):=aa
 suffices ab:∃r,r=.one (bU mB 7 (cL (jR (I h) (I h))))/\aC S 53 [.one (.p (fk F h)),ai 7] r by obtain⟨r,rfl,h2⟩:=ab;exact h2
 refine Ho rfl J3 (jg rfl) ?_;simp only[go_sem,i53,HC,bQ,jq];refine cZ (λk x blk=>x 0=.one (.p (fk F h))/\x 1=ai 7/\x 6=ai (I h)/\x 41=ai (I h)/\x 42=ai k/\ ∃c,x 5=.one c/\a_ 3394560704 mB 7 (cL (jR (I h) k)) (.one c) blk) 0 (I h) (bj _) ?_ ?_
 .simp only[go_sem];exact⟨rfl,.p .nils,rfl,a_.nil⟩
 rintro k x blk hk ⟨h0,h1,h6,X,T,c,h5,f⟩
 by_cases aw:k<I h
 .have aL:((k:Int)<(I h:Int)):=J;have w1:=cg (n:=k) J;have hb:=JG H J;have eh:=Y8 (I h) k;simp only[go_sem,wM,Hm,h1,h6,X,T,aL,d2,d5,d7];refine cZ (λj A ak=>A 0=.one (.p (fk F h))/\A 1=ai 7/\A 6=ai (I h)/\A 8=ai k/\A 41=ai (I h)/\A 42=ai k/\A 117=ai (I h)/\A 118=ai j/\ ∃c,A 5=.one c/\a_ 3394560704 mB 7 (cL (jR (I h) k++Bv k j)) (.one c) ak) 0 (I h) (bj _) ?_ ?_
  .refine⟨?_,?_,?_,?_,?_,?_,?_,?_,c,?_,by simpa [Bv]using f⟩<;>(simp only[go_sem,h0,h1,h6,X,T,h5];first|done|rfl)
  rintro j A ak hj ⟨Y,q1,q6,q8,Fx,Fy,v,m,c,q5,f⟩
  by_cases rQ:j<I h
  .have Zr:((j:Int)<(I h:Int)):=J;have w2:=cg (n:=j) J;have tF:=Zz k j;simp only[go_sem,abf,ah2,v,m,Zr];refine cZ (λi u Z=>u 0=.one (.p (fk F h))/\u 1=ai 7/\u 6=ai (I h)/\u 8=ai k/\u 14=ai j/\u 41=ai (I h)/\u 42=ai k/\u 117=ai (I h)/\u 118=ai j/\u 121=ai i/\ ∃c,u 5=.one c/\a_ 3394560704 mB 7 (cL (jR (I h) k++Bv k j++wP k i j)) (.one c) Z) 0 4 (bj _) ?_ ?_
   .refine⟨?_,?_,?_,?_,?_,?_,?_,?_,?_,?_,c,?_,by simpa [wP]using f⟩<;>(simp only[go_sem,Y,q1,q6,q8,Fx,Fy,v,m,q5];first|done|rfl)
   rintro i u Z hi ⟨r0,r1,E,B,R,M,O,z,y,D,c,L,f⟩
   have iX:I (cL (jR (I h) k++Bv k j++wP k i j))<=4*(400*400)+4*400+4:=by have:=aoM k i j;rw[xL,iM,iM];omega
   by_cases jA:i<4
   .have Ii:((i:Int)<4):=J;have w3:=cg (n:=i) J;by_cases Q:j=k
    .subst Q;have N:((j:Int)!=(j:Int))=false:=aG;simp only[go_sem,Tl,r0,r1,E,B,R,M,O,z,y,D,L,Ii,jA,N,w3];exact⟨c,rfl,by simpa [wP]using f⟩
    have N:((j:Int)!=(k:Int)):=fd
    simp only[go_sem,Tl,r1,B,R,D,L,Ii,JV,N];refine mO (B:=[eU.ps (V8 k j i)]) (f.of_eq ac) f0 (.inl rfl) H1 λc2 zo AU oU=>?_;simp only[go_sem,r0,r1,E,B,R,M,O,z,y,D,w3,jA];exact⟨c2,rfl,by rw[show wP k (i+1) j=wP k i j++[V8 k j i] by rw[wP,wP,aE Q,aE Q,asK],<-k9,V_];exact AU⟩
   have:i=4:=J;subst this;have h4:¬(((4:Nat):Int)<4):=aa;simp only[go_sem,Tl,r0,r1,E,B,M,O,z,y,D,L,h4,w2,rQ];exact⟨c,rfl,by rw[alh,<-k9];exact f⟩
  have:j=I h:=J;subst this;simp only[go_sem,abf,Y,q1,q6,Fx,Fy,v,m,q5,ek,w1,aw];exact⟨c,rfl,by rw[ap1];exact f⟩
 have:k=I h:=J;subst this;simp only[go_sem,wM,HM,X,T,h5,ek];exact⟨_,rfl,qN f⟩
end
abbrev aze(p:Int×Int):dR:=[.int .i64 p.1,.int .i64 p.2]
abbrev rz(l:jn):dy:=l.map aze
def NL{l:jn}{k:Nat}{x:Int×Int}(h:l[k]?=some x):(rz l)[k]?=some [.int .i64 x.1,.int .i64 x.2]:=by rw[fX,h];rfl
def aki(l:jn):I (rz l)=I l:=ct ..
def agG(l:jn)(k:Nat)(x:Int×Int):(rz l).set k [.int .i64 x.1,.int .i64 x.2]=rz (l.set k x):=by rw[rz,rz,vt]
def avs{f:jn}{k:Nat}(h:k<=I f):List.take k (rz f)++List.replicate (I f-k) [PV.int .i64 0,PV.int .i64 0]++List.drop (k+(I f-k)) (rz f)=rz (f.take k++List.replicate (I f-k) (0,0)):=by simp_all
def oN(l:jn):jn:=l.foldl (λr x=>if r.getLast?=some x then r else r++[x]) []
theorem La(l:jn)(x:Int×Int):oN (l++[x])=if(oN l).getLast?=some x then oN l else oN l++[x]:=by rw[oN,Bq];rfl
def V1{α:Type}{p:List α->Prop}(j:p [])(H:∀l x,p l->p (l++[x]))(l:List α):p l:=by
 have:∀l:List α,p l.reverse:=λl=>by
  induction l with
  |nil=>exact j
  |cons x l f=>rw[List.reverse_cons];exact H _ _ f
 have h:=this l.reverse
 grind
theorem aaW(l:jn):(oN l).getLast?=l.getLast?:=by
 refine V1 (p:=λl=>(oN l).getLast?=l.getLast?) rfl (λl x f=>?_) l;rw[La]
 grind
theorem Hx{α:Type}{l:List α}{k:Nat}{x:α}(h:l[k]?=some x):l.take (k+1)=l.take k++[x]:=by rw[List.take_succ,h];rfl
theorem alD{α:Type}{l:List α}{k:Nat}{x:α}(h:l[k]?=some x):(l.take (k+1)).getLast?=some x:=by rw[Hx h];simp
def an6{l:jn}{k:Nat}{x:Int×Int}(H:l[k]?=some x)(h:l[k+1]?=some x):oN (l.take (k+2))=oN (l.take (k+1)):=by rw[Hx h,La,aaW,alD H,aI rfl]
def TI{l:jn}{k:Nat}{x y:Int×Int}(f:l[k]?=some x)(H:l[k+1]?=some y)(h:x≠y):oN (l.take (k+2))=oN (l.take (k+1))++[y]:=by grind [Hx,La,aaW,alD,mQ]
def akH(l:jn)(z:Int×Int):z∈oN l↔z∈l:=by
 refine V1 (p:=λl=>z∈oN l↔z∈l) Iff.rfl (λl x f=>?_) l;rw[La]
 grind
def aDA{R L:Int×Int->Int×Int->Prop}(A:∀x y,L x y->x≠y->R x y)(D:∀x y z,L x y->L y z->L x z)(B:∀x y,L x y->L y x->x=y)(l:jn):l.Pairwise L->(oN l).Pairwise R:=by
 refine V1 (p:=λl=>l.Pairwise L->(oN l).Pairwise R) (λ_=>List.Pairwise.nil) (λl x n hp=>?_) l;rw[BD]at hp;obtain⟨j,_,m⟩:=hp;rw[La];split
 .exact n j
 rename_i u;rw[BD];refine⟨n j,FE _ _,λa v b H=>?_⟩;have H:=nI.1 H;subst H;have f:=(akH l a).1 v;refine A _ _ (m a f b aG) λe=>u ?_;subst e;rw[aaW]
 cases hl:l.getLast? with
 |none=>rw[List.getLast?_eq_none_iff.1 hl]at f;cases f
 |some w=>
  obtain⟨E,rfl⟩:=List.getLast?_eq_some_iff.1 hl;rcases iI.1 f with h|h
  .exact congrArg some (B _ _ (m w (List.mem_of_getLast? hl) a aG) ((BD.1 j).2.2 a h w aG))
  rw[nI.1 h]
def akV{l:jn}(h:I l<2):oN l=l:=by
 rcases l with _|⟨x,_|⟨y,l⟩⟩
 .rfl
 .rfl
 simp at h;omega
def axK(id g v:Nat)(h:jn)(blk:aH)(j:V)(A:aH):Prop:=(∃(m:Nat) (f:jn),m<=I h/\I f=I h/\f.take m=oN h/\j=.one (.hsl id g 2 0 m)/\A id=(g,some (.arr v 2 (rz f))))/\dk (· =id) blk A
def aww{al:cD}{blk:aH}{id g:Nat}{f:jn}(o:al.ok id)(hl:I f<=1000000)(F:blk id=(g,some (.arr v 2 (rz f)))):
  ∃T D,ja S 88 [.one (.hsl id g 2 0 (I f))] al blk T D/\axK id g v f blk T D:=by
 refine mL aiv (jg rfl) ?_;by_cases h2:I f<2
 .have j8:((I f:Int)<2):=J;simp only[go_sem,UT,j8];exact⟨⟨I f,f,cP _,rfl,by rw[lN];exact(akV h2).symm,rfl,F⟩,dk.refl _ _⟩
 have j8:¬((I f:Int)<2):=J;simp only[go_sem,UT,j8];refine cZ (λq B D=>B 0=.one (.hsl id g 2 0 (I f))/\B 3=ai ((q+1:Nat):Int)/\D=blk/\oN (f.take (q+1))=f.take (q+1)) 0 (I f) (bj _) ?_ ?_
 .simp only[go_sem];exact⟨rfl,akV ww⟩
 rintro q B cE hq ⟨R,N,rfl,Z⟩
 by_cases aw:q+1<I f
 .have M:(((q+1:Nat):Int)<(I f:Int)):=J;obtain⟨x,H⟩:=aP aw;obtain⟨y,Y⟩:=aP (h:=f) (k:=q) J;have sQ:=NL H;have zT:=NL Y;have wj:IntKind.i64.wrap (((q+1:Nat):Int)-1)=(q:Int):=by rw[sq J];omega
  have wk:=cg (n:=q+1) J;have q1:q<I f:=J;have q2:q+1<=I f:=J;have A6:=aki f;have no:(x.1==y.1)=false\/((x.1==y.1)/\(x.2==y.2)=false)\/((x.1==y.1)/\(x.2==y.2)):=by cases(x.1==y.1)<;>cases(x.2==y.2)<;>simp
  rcases no with E|⟨E,A⟩|⟨E,A⟩
  .simp only[go_sem,Rg,YD,R,N,aw,M,sQ,zT,wj,wk,q1,F,o,E,n9,nJ];refine⟨aK,?_⟩;exact(TI Y H (λe=>by subst e;simp at E)).trans (by rw[Z,<-Hx H])
  .simp only[go_sem,Rg,YD,R,N,aw,M,sQ,zT,wj,wk,q1,F,o,E,A,n9,nJ];refine⟨aK,?_⟩;exact(TI Y H (λe=>by subst e;simp at A)).trans (by rw[Z,<-Hx H])
  simp only[go_sem,Rg,R,N,aw,M,sQ,zT,wj,q1,q2,F,o,E,A,n9,nJ];refine⟨aK,?_⟩;have Kf:oN (f.take (q+2))=f.take (q+1):=by rw[an6 ((Prod.ext aHZ (by simpa using A))▸Y) H,Z]
  clear E A sQ zT H Y;refine cZ (λr B D=>B 0=.one (.hsl id g 2 0 (I f))/\B 4=.one (.hsl id g 2 (q+1) (I f-(q+1)))/\B 5=ai ((r+1:Nat):Int)/\ ∃(m:jn) (k:Nat),B 3=ai (k:Nat)/\D id=(g,some (.arr v 2 (rz m)))/\I m=I f/\k<q+2+r/\q+2+r<=I f/\m.take k=oN (f.take (q+2+r))/\(∀i,q+1+r<=i->m[i]?=f[i]?)/\dk (· =id) cE D) 0 (I f) (bj _) ?_ ?_
  .simp only[go_sem,R];exact⟨rfl,f,q+1,N,F,rfl,J,J,Kf.symm,λ_ _=>rfl,dk.refl _ _⟩
  rintro r dq bt hr ⟨k0,k4,k5,m,k,k3,hB,eh,ag,ad,iw,O,dm⟩
  by_cases Iq:r+1<I f-(q+1)
  .have L:(((r+1:Nat):Int)<((I f-(q+1):Nat):Int)):=J;obtain⟨u,hu⟩:=aP (h:=m) (k:=q+1+(r+1)) J;obtain⟨T,hv⟩:=aP (h:=m) (k:=q+1+r) J;have wu:f[q+1+r+1]?=some u:=by rw[<-O _ J];exact hu
   have wv:f[q+1+r]?=some T:=by rw[<-O _ J];exact hv
   have cu:=NL hu;have cv:=NL hv;have wr:IntKind.i64.wrap (((r+1:Nat):Int)-1)=(r:Int):=by rw[sq J];omega
   have ON:=cg (n:=r+1) J;have Q:=cg (n:=k) J;have r1:r<I f-(q+1):=J;have j:k<I f:=J;have Ri:k<I m:=J;obtain⟨z,hz⟩:=aP Ri;have cz:=NL hz;have no:(u.1==T.1)=false\/((u.1==T.1)/\(u.2==T.2)=false)\/((u.1==T.1)/\(u.2==T.2)):=by cases(u.1==T.1)<;>cases(u.2==T.2)<;>simp
   rcases no with E|⟨E,A⟩|⟨E,A⟩
   .simp only[go_sem,O5,k0,k4,k5,k3,Iq,L,r1,hB,cu,cv,wr,ON,Q,j,cz,o,E,n9,nJ];refine⟨aK,J,m.set k u,k+1,rfl,by rw[agG],by simpa using eh,J,J,?_,λi hi=>by rw[Pd J];exact O i J,dm.dz rfl _⟩;rw[Hx (Q8 Ri),X0 (cP _),iw,show q+2+(r+1)=q+1+r+2 by omega,show q+2+r=q+1+r+1 by omega];exact(TI wv wu (λe=>by subst e;simp at E)).symm
   .simp only[go_sem,O5,k0,k4,k5,k3,Iq,L,r1,hB,cu,cv,wr,ON,Q,j,cz,o,E,A,n9,nJ];refine⟨aK,J,m.set k u,k+1,rfl,by rw[agG],by simpa using eh,J,J,?_,λi hi=>by rw[Pd J];exact O i J,dm.dz rfl _⟩;rw[Hx (Q8 Ri),X0 (cP _),iw,show q+2+(r+1)=q+1+r+2 by omega,show q+2+r=q+1+r+1 by omega];exact(TI wv wu (λe=>by subst e;simp at A)).symm
   simp only[go_sem,O5,k0,k4,k5,k3,Iq,L,r1,hB,cu,cv,wr,ON,o,E,A,n9,nJ];refine⟨aK,J,m,k,rfl,rfl,eh,J,J,?_,λi hi=>O i J,dm⟩;rw[iw,show q+2+(r+1)=q+1+r+2 by omega,show q+2+r=q+1+r+1 by omega];exact(an6 wv ((Prod.ext aHZ (by simpa using A))▸wu)).symm
  have L:¬(((r+1:Nat):Int)<((I f-(q+1):Nat):Int)):=J;have X:k<=I f:=J;have ab:k+(I f-k)<=I m:=J;by_cases hz:I f-k=0
  .exact absurd hz J
  have rT:=avs (f:=m) (k:=k) J;rw[eh]at rT;simp only[go_sem,O5,am9,k0,k4,k5,k3,L,hB,o,X,ab,hz,RK,aki,rT];refine⟨⟨k,_,X,by simp;omega,?_,rfl,Ao⟩,dm.dz rfl _⟩;rw[List.take_left' ww,iw,eT J]
 have M:¬(((q+1:Nat):Int)<(I f:Int)):=J;simp only[go_sem,Rg,apV,R,N,M];exact⟨⟨I f,f,cP _,rfl,by rw[lN];rw[eT J]at Z;exact Z.symm,rfl,F⟩,dk.refl _ _⟩
abbrev W8:V:=.one (.p (.fn 87 [] []))
def auQ(f:Nat)(A:dG)(al:cD)(blk:aH):S.primS f A al blk=CP oD A al blk:=rfl
def aE9{al:cD}{blk:aH}{id g:Nat}{l:jn}(H:al.ok id)(f:blk id=(g,some (.arr v 2 (rz l))))(hl:I l<4611686018427387904)(h:l.all DQ):∃j A,ja S 86 [.one (.hsl id g 2 0 (I l)),W8] al blk j A/\j=.tup []/\A=dz blk id (g,some (.arr v 2 (rz (sh oD l)))):=
 ⟨_,_,⟨1,by rw[jT,aI (show S.trig 86 [.one _,W8]=true from rfl),auQ,agC f rfl hl h H];rfl⟩,rfl,rfl⟩
def azn{al:cD}{blk:aH}:∃v A,ja S 86 [.one (.p .nils),W8] al blk v A/\v=.tup []/\A=blk:=
 ⟨_,_,⟨1,by rw[jT,aI (show S.trig 86 [.one _,W8]=true from rfl)];rfl⟩,rfl,rfl⟩
def ar6{al:cD}{blk:aH}:∃v A,ja S 88 [.one (.p .nils)] al blk v A/\v=.one (.p .nils)/\A=blk:=by refine mL aiv (jg rfl) ?_;have h:(((0:Nat):Int)<2):=aa;simp only[go_sem,UT,h];first|done|exact _|trace_state
def w9(l:pI):jn:=l.map λp=>((p.1:Int),(p.2:Int))
def aA8(l:pI):rz (w9 l)=d_ l:=by rw[rz,w9,kU];rfl
def zY(F:Nat)(h:ae)(k s:Nat):pI:=(List.range s).flatMap λj=>(c8 F h (2*k+j)).places
def SW(k:Nat)(x:Int×Int):eU:=⟨2,k,x.1,x.2,false,false,0⟩
def Ew(F:Nat)(h:ae)(k:Nat):jn:=oN (sh oD (w9 (zY F h k 2)))
def uD (F:Nat)(h:ae)(n:Nat):fh:=(List.range n).flatMap λk=>(Ew F h k).map (SW k)
def azK(F:Nat)(h:ae)(k s:Nat):zY F h k (s+1)=zY F h k s++(c8 F h (2*k+s)).places:=by simp[zY,mJ]
def afG(F:Nat)(h:ae)(n:Nat):uD F h (n+1)=uD F h n++(Ew F h n).map (SW n):=by simp[uD,mJ]
theorem awc(l:jn):I (oN l)<=I l:=by
 refine V1 (p:=λl=>I (oN l)<=I l) (cP _) (λl x f=>?_) l;rw[La]
 grind
section
variable {F:Nat} {h:ae}
def aDj(g:aU F h)(aN:0<I h)(wh:∀f∈dA F h,I f.places<=200000/\ ∀p∈f.places,p.1<=1000000/\p.2<=1000000):I (uD F h (I h))<=400000*I h/\aC S 53 [.one (.p (fk F h)),ai 2] (.one (bU mB 7 (cL (uD F h (I h))))):=by
 have ap:=g.len;have bQ:I (dP (aJ h))=I h:=aH8
 have jq:(((I h:Nat):Int)==0)=false:=ro
 have d2:((2:Int)==2):=aa
 suffices an:∃r,(I (uD F h (I h))<=400000*I h/\r=.one (bU mB 7 (cL (uD F h (I h)))))/\aC S 53 [.one (.p (fk F h)),ai 2] r by obtain⟨r,⟨N,rfl⟩,Z⟩:=an;exact⟨N,Z⟩
 refine Ho rfl J3 (jg rfl) ?_;simp only[go_sem,i53,HC,bQ,jq];refine cZ (λk M blk=>M 0=.one (.p (fk F h))/\M 1=ai 2/\M 41=ai (I h)/\M 42=ai k/\ ∃c,I (uD F h k)<=400000*k/\M 5=.one c/\a_ 3393536576 mB 7 (cL (uD F h k)) (.one c) blk) 0 (I h) (bj _) ?_ ?_
 .simp only[go_sem];exact⟨rfl,.p .nils,bj _,rfl,a_.nil⟩
 rintro k M blk hk ⟨h0,N,rK,oq,c,EY,h5,u⟩
 by_cases aw:k<I h
 .have aL:((k:Int)<(I h:Int)):=J;have w1:=cg (n:=k) J;simp only[go_sem,wM,Hm,N,rK,oq,aL,d2];refine cZ (λs A L=>A 0=.one (.p (fk F h))/\A 1=ai 2/\A 8=ai k/\A 41=ai (I h)/\A 42=ai k/\A 54=ai s/\A 5=.one c/\a_ 3393536576 mB 7 (cL (uD F h k)) (.one c) L/\ ∃cp:cG,I (zY F h k s)<=200000*s/\(∀p∈zY F h k s,p.1<=1000000/\p.2<=1000000)/\A 9=.one cp/\a_ 3393153152 112 2 (d_ (zY F h k s)) (.one cp) L) 0 2 (bj _) ?_ ?_
  .refine⟨?_,?_,?_,?_,?_,?_,?_,u,.p .nils,bj _,(λp an=>by cases an),?_,a_.nil⟩<;>(simp only[go_sem,h0,N,rK,oq,h5];first|done|rfl)
  rintro s A L af ⟨X,q1,q8,Fx,Fy,Q,q5,u,cp,az,eD,B,gp⟩
  by_cases hsl:s<2
  .have ag:((s:Int)<2):=J;obtain⟨j,M8,mE,Il⟩:=Sr g (d:=2*k+s) J;obtain⟨aB,ZQ⟩:=wh _ (a8 mE);have A5:=i_ M8;have Dn:=It mE;have m2:=qj (a:=k) J;have m3:=uh (a:=2*k) (b:=s) J;have w2:=cg (n:=s) J;have yx:2*k+s<I (lM F h):=by rw[Js];omega
   have Ck:=azK F h k s;generalize c8 F h (2*k+s)=f at*;generalize zY F h k s=ps at*;simp only[go_sem,ae6,X,q8,Q,B,ag,m2,m3,A5,Dn,cX.ps];refine oT (gp.of_eq (by simp only[])) rfl (.inr (by simp[gk])) GE λc' nE r1 u1 g1 jE lO=>?_;rw[show d_ ps++d_ f.places=d_ (ps++f.places) by simp[d_]]at g1;simp only[go_sem,X,q1,q8,Fx,Fy,Q,q5,w2,hsl];rw[Ck];refine⟨?_,u.of_eq (jE 3393536576 aa aa),c',by rw[iM];omega,λp hp=>?_,rfl,g1⟩
   .rcases lO with⟨rfl,rfl⟩|⟨rfl,rfl⟩|⟨rfl,rfl⟩<;>kernel_rfl
   rcases iI.1 hp with an|an
   .exact eD p an
   exact ZQ p an
  have:s=2:=J;subst this;have Z:¬(((2:Nat):Int)<2):=aa;have eh:I (Ew F h k)<=400000:=by
   have N:=awc (sh oD (w9 (zY F h k 2)));rw[YN]at N;have Z:I (w9 (zY F h k 2))=I (zY F h k 2):=by simp[w9]
   unfold Ew;omega
  have H:=afG F h k;have Y:Ew F h k=oN (sh oD (w9 (zY F h k 2))):=rfl;generalize uD F h k=ms at*;generalize Ew F h k=ck at*;generalize zY F h k 2=ps at*;have mU:I (uD F h (k+1))<=400000*(k+1):=by rw[H,iM,ct];omega
  simp only[go_sem,ae6,akK,X,q1,Fx,Fy,Q,q5,B,Z,asE];rcases gp with⟨he,hc⟩|⟨he,D,hc,hC⟩
  .cases hc;refine Pm aH6 (.inl rfl) (λqK _=>azn) λv b y=>?_;obtain⟨rfl,rfl⟩:=y;simp only[go_sem,B,ahk];refine Pm aH6 (.inl rfl) (λqK _=>ar6) λv b2 y=>?_;obtain⟨rfl,rfl⟩:=y;have z0:¬((0:Int)<((0:Nat):Int)):=aa;simp only[go_sem];refine oG ?_;simp only[go_sem,W4,X,q1,Fx,Fy,q5,z0,w1,aw];have am:ps=[]:=by simpa using he
   subst am;subst Y;exact⟨c,mU,rfl,by rw[H];simpa [w9,sh,oN]using u⟩
  cases hc;rw[<-aA8]at hC;have mj:I (w9 ps)=I ps:=by simp[w9]
  have Iy:I (d_ ps)=I (w9 ps):=by simp[w9]
  have ab:(w9 ps).all DQ:=mz.2 λx hx=>by obtain⟨p,hp,rfl⟩:=c_.1 hx;have:=eD p hp;simp only[DQ,cF,fL];omega
  rw[Iy]at B |-;refine Bi hC aH6 (.inl rfl) (λqK o1 o2=>aE9 o1 hC J ab) λv b y=>?_;obtain⟨rfl,rfl⟩:=y;simp only[go_sem,B,ahk];have hsl:=YN oD (w9 ps);rw[<-hsl]at B |-;generalize sh oD (w9 ps)=so at*;subst Y;have Ce:dz L 3393153152 (D,some (.arr 112 2 (rz so))) 3393153152=(D,some (.arr 112 2 (rz so))):=Ao;have C0:a_ 3393536576 mB 7 (cL ms) (.one c) (dz L 3393153152 (D,some (.arr 112 2 (rz so)))):=u.of_eq (cJ aa);generalize dz L 3393153152 (D,some (.arr 112 2 (rz so)))=bt at*;refine Bi Ce aH6 (.inl rfl) (λqK o1 o2=>aww o1 J Ce) λv nE y=>?_;obtain⟨⟨m,cs,hm,dV,iw,rfl,hb⟩,dm⟩:=y;rw[<-iw]at eh H;have ar:I (cs.take m)=m:=ww
  simp only[go_sem];refine cZ (λi E zo=>E 0=.one (.p (fk F h))/\E 1=ai 2/\E 8=ai k/\E 41=ai (I h)/\E 42=ai k/\E 80=.one (.hsl 3393153152 D 2 0 m)/\E 81=ai m/\E 82=ai i/\zo 3393153152=(D,some (.arr 112 2 (rz cs)))/\ ∃c,E 5=.one c/\a_ 3393536576 mB 7 (cL (ms++((cs.take i).map (SW k)))) (.one c) zo) 0 m (bj _) ?_ ?_
  .refine⟨?_,?_,?_,?_,?_,?_,?_,?_,hb,c,?_,by simpa using(C0.of_eq (dm 3393536576 aa))⟩<;>(simp only[go_sem,X,q1,q8,Fx,Fy,q5];first|done|rfl)
  rintro i E zo hi ⟨r0,r1,r8,Oq,Ot,T,R,z,cK,c,r5,u⟩
  by_cases jA:i<m
  .have Ii:((i:Int)<(m:Int)):=J;obtain⟨x,hx⟩:=aP (h:=cs) (k:=i) J;have w3:=cg (n:=i) J;simp only[go_sem,W4,r1,r8,T,R,z,r5,cK,jA,Ii,NL hx];refine mO (u.of_eq ac) f0 (.inl rfl) (by simp only[iM,ct,ko];omega) λc2 Mb ad Dg=>?_;have O:=Dg 3393153152 aa aa;simp only[go_sem,cK]at O;simp only[go_sem,r0,r1,r8,Oq,Ot,T,R,z,w3,jA];exact⟨O,c2,rfl,by rw[Hx hx,iT,<-k9,V_];exact ad⟩
  have:i=m:=J;subst this;simp only[go_sem,W4,r0,r1,Oq,Ot,R,z,r5,ek,w1,aw];exact⟨c,mU,rfl,by rw[H];exact u⟩
 have:k=I h:=J;subst this;simp only[go_sem,wM,HM,rK,oq,h5,ek];exact⟨_,⟨EY,rfl⟩,qN u⟩
end
abbrev aci:Nat:=27
def U_(i:Nat):dR:=[.int .i64 2,.int .i64 0,.int .i64 i,.int .i64 0,.bool false,.bool false,.int .i64 0]
def Gk(n:Nat):dy:=(List.range n).map U_
def aDf(n:Nat):Gk (n+1)=Gk n++[U_ n]:=by simp[Gk,mJ]
def aDN(n:Nat):I (Gk n)=n:=by simp[Gk]
section
variable {F:Nat}
def at0(O:F<=40):aC S 53 [Lv F,ai 2] (.one (bU aci 7 (Gk (F+1)))):=by
 have H:(((0:Nat):Int)==0):=aa;refine ba J3 ?_;simp only[go_sem,i53,H];refine cZ (λk A blk=>A 0=Lv F/\A 1=ai 2/\A 6=ai ((0:Nat):Int)/\A 7=ai k/\ ∃c,A 5=.one c/\a_ 3392448320 aci 7 (Gk k) (.one c) blk) 0 (F+1) (bj _) ?_ ?_
 .simp only[go_sem];first|exact⟨rfl,.p .nils,rfl,.inl ⟨rfl,rfl⟩⟩|exact⟨rfl,rfl,.p .nils,rfl,.inl ⟨rfl,rfl⟩⟩|exact⟨.p .nils,rfl,.inl ⟨rfl,rfl⟩⟩
 rintro k A blk N ⟨E,m,u,f,c,h,j⟩
 by_cases y:k<F+1
 .have z:((k:Int)<=(F:Int)):=J;have v:=cg (n:=k) J;have af:=aDf k;simp only[go_sem,acJ,E,m,h,f,z];refine mO (m:=3392448320) (id:=3392448320) (bytes:=48) (B:=[U_ k]) (rd:=[3392448256]) (j.of_eq (cJ aa)) (by simp[gP,bG,U_]) (.inl rfl) (by simp only[aDN,fF,fB];omega) λx D B L=>?_;simp only[go_sem,E,m,u,f,v,y];refine⟨x,rfl,?_⟩;rw[af];exact B
 have:k=F+1:=J;subst this;have M:¬(((F+1:Nat):Int)<=(F:Int)):=J;simp only[go_sem,acJ,HC,E,u,f,M];refine oG ?_;simp only[go_sem,wM,HM,h,zB];exact qN j
def asp{k:Int}(H:(k==2)=false):aC S 53 [Lv F,ai k] (.one (bU aci 7 [])):=by have h:(((0:Nat):Int)==0):=aa;refine ba J3 ?_;simp only[go_sem,i53,HC,h,H];refine oG ?_;simp only[go_sem,wM,HM,zB];rfl
end
section
variable {F:Nat}
def CJ (F k:Nat):Nat:=if 2<=k then F+1 else 0
end
section
variable {F:Nat} {h:ae}
def af5{g r to:Nat}:∀p∈nZ g r to,p.1<=max g to/\p.2<=r:=by
 intro p hp;unfold nZ at hp
 grind
def anF(g:aU F h){j:Nat}(H:j<I (aA h)):∀p∈l_ F h j,p.1<=1000000/\p.2<=1000000:=by
 have ok:=g.ok;have z:=g.fing;have f:=g.len;have y:=MC ok H;have v:=MC ok (dB (j+1) J);have x:OJ h ((aA h).getD j 0)<=I h:=by
  obtain⟨u,l,_,D,hl,_,m⟩:=Rn ok H;rw[D,Sy hl];have:=m.r1
  grind
 intro p hp;unfold l_ at hp;split at hp
 .have:=af5 p hp;omega
 rcases iI.1 hp with n|n<;>(have:=af5 p n;omega)
def ayQ(g:aU F h){w:aD}(m:∀x∈w,x<aX h):∀k,k<=I w->∀p∈(ze F h w k).places,p.1<=1000000/\p.2<=1000000:=by
 intro k
 induction k with
 |zero=>intro _ p hp;cases hp
 |succ k n=>
  intro u;obtain⟨x,f⟩:=aP (show k<I w by omega);have B:=m x (a8 f);rw[Z9 f];unfold cX.add;by_cases H:x<2*I h
  .grind
  rw[aE H];have j:(x-2*I h)/2<I (aA h):=by unfold aX at B;omega
  intro p hp;rcases iI.1 hp with H|H
  .exact(n J) p H
  split at H
  .exact anF g j p H
  exact anF g j p (List.mem_reverse.1 H)
def avb(g:aU F h):∀f∈dA F h,I f.places<=200000/\ ∀p∈f.places,p.1<=1000000/\p.2<=1000000:=by intro f hf;obtain⟨w,m,rfl⟩:=c_.1 hf;obtain⟨_,n,H⟩:=xR g.ok w m;rw[<-Xo];have u:I (aA h)<=I h:=qp h (I h);have v:=(V2 g.ok H (I w) (cP _)).2.1;have j:=g.len;have y:=g.fing;refine⟨?_,ayQ g H (I w) (cP _)⟩;have x:I w*(2*F+2)<=1600*82:=JG ii J;omega
end
noncomputable def okB (F:Nat) (h:ae) (m:eU):Bool:= @decide (∃M,rD F h m.k m.a m.b m.c m.l m.o m.s=rF F M) (Classical.propDecidable _)
theorem WW{m:eU}:okB F h m↔ ∃M,rD F h m.k m.a m.b m.c m.l m.o m.s=rF F M:=by grind [okB]
def ald{e:Int}(h:e≠0):rF F L≠uF e:=by grind
def S7(g:aU F h){i:Nat}{l:U}(hl:h[i]?=some l): -1000<=l.gate/\l.gate<=1000:=by
 have E:=g.fing;rcases g.ok.kinds l (a8 hl)with hp|f
 .have:=g.HS hl hp;have:=this.g0;have:=(g.HS hl hp).g1;omega
 have H:=g.bad l (a8 hl)
 grind [eK]
def Sv(g:aU F h){d:Nat}(f:d<2*I h):(c8 F h d).places.length<=1000000:=by obtain⟨w,j,m⟩:=c_.1 (Jg f);obtain⟨_,x,Q⟩:=xR g.ok w j;have n:=(V2 g.ok Q (I w) (cP _)).2.1;rw[Xo,m]at n;have H:=g.len;have E:=g.fing;have v:I (aA h)<=I h:=qp h (I h);have u:I w*(2*F+2)<=1600*82:=JG ii J;omega
def abF(F:Nat)(h:ae)(k a b c:Int)(l o:Bool)(sg:Int):Prop:= ∃v,aC S 20 [ic F h,c6 k a b c l o sg] (fH v)/\(v=0↔okB F h ⟨k,a,b,c,l,o,sg⟩=true)
def CX(g:aU F h)(v:I h<=40){k a b c:Int}{l o:Bool}{sg:Int}{p:Bool}(j:dQ F h k a b c l o sg)(pw:aC S 56 [ic F h,c6 k a b c l o sg] (cK (!dQ F h k a b c l o sg)))(u:aC S 57 [ic F h,c6 k a b c l o sg] (cK p))(f:(lQ F h k a.toNat b.toNat c.toNat l o sg).isSome=p):abF F h k a b c l o sg:=by
 rw[j]at pw;have m:(decide (400<(CI (I h:Int) ((aq U.au h/2:Nat):Int) k).1)||decide (100<(CI (I h:Int) ((aq U.au h/2:Nat):Int) k).2))=false:=by grind [CI]
 refine⟨_,HL g.len pw λ_=>u,?_⟩;rw[WW];unfold JJ rD;rw[m,aI j];cases H:lQ F h k a.toNat b.toNat c.toNat l o sg with
 |none=>rw[H]at f;subst f;exact⟨λx=>absurd x aa,λ⟨M,H⟩=>absurd H.symm (ald aa)⟩
 |some M=>
  rw[H]at f;subst f;have n:¬((400:Int)<(I h:Int)+(gU k).1\/(100:Int)<((aq U.au h/2:Nat):Int)+(gU k).2):=by grind [gU]
  exact⟨λ_=>⟨ch M,aE n⟩,λ_=>rfl⟩
def RC(hl:I h<=1000000)(k a b c:Int)(l o:Bool)(sg:Int):aC S 56 [ic F h,c6 k a b c l o sg] (cK (!dQ F h k a b c l o sg)):=by
 by_cases H:k=1\/k=2\/k=3\/k=4\/k=5\/k=6\/k=7\/k=8\/k=9\/k=10
 .exact aC6 hl H
 have q:∀ {x:Int},¬k=x->(k==x)=false:=λf=>by simp[f]
 rw[show dQ F h k a b c l o sg=false by unfold dQ;simp only[Ag]at H;simp[H]];exact aHi (q J) (q J) (q J) (q J) (q J) (q J) (q J) (q J) (q J) (q J)
def aFI(hl:I h<=400){k a b c:Int}{l o:Bool}{sg:Int}(H:dQ F h k a b c l o sg=false):abF F h k a b c l o sg:=by
 have pw:=RC (F:=F) (h:=h) J k a b c l o sg;rw[H]at pw;refine⟨_,HL (p:=false) hl pw (λf=>by cases f),?_⟩
 grind [WW,rD,JJ]
def ai4(g:aU F h)(u:I h<=40)(k a b c:Int)(l o:Bool)(sg:Int):abF F h k a b c l o sg:=by
 have pw:=RC (F:=F) (h:=h) J k a b c l o sg;cases H:dQ F h k a b c l o sg with
 |false=>exact aFI (g.len) H
 |true=>
  have v:=H;unfold dQ at H;by_cases E:k=1
  .subst E;simp only[Int.reduceEq,if_true,if_false,or_false,or_self]at H;simp only[cF,gH,cW]at H;obtain⟨rfl,rfl,rfl,j,rfl,rfl⟩:=H;obtain⟨m,rfl,f⟩:=eZ j;exact CX g u v pw (aqp g f (Mf g f) (Mf g (Cs f))) (alx g f).1
  by_cases y:k=2
  .subst y;simp only[Int.reduceEq,if_true,if_false,or_self]at H;simp only[cF,nK,gH,cW,fL]at H;obtain⟨rfl,rfl,rfl,j,ia,HZ,ui,X⟩:=H;rcases j with j|⟨j,_⟩
   rotate_left
   .exact absurd j (by have:=g.pos;omega)
   obtain⟨m,rfl,f⟩:=eZ j;obtain⟨B,rfl⟩:=lV ia;obtain⟨z,rfl⟩:=lV ui;have Ke:z<=1000:=by have:=ny (jw B) h;simp only[aZ,lJ]at X;omega
   exact CX g u v pw (ahe g f (Sv g J) (Sv g J)) (ahj g f).1
  by_cases O:k=3
  .subst O;simp only[Int.reduceEq,if_true,if_false,or_false,or_self]at H;simp only[cF,gH,cW,fL]at H;obtain⟨rfl,rfl,rfl,j,rfl,x,Z⟩:=H;obtain⟨m,rfl,f⟩:=eZ j;obtain⟨B,rfl,n⟩:=eZ x;exact CX g u v pw (apB g f n) (aqb g f n J).1
  by_cases A:k=4
  .subst A;simp only[Int.reduceEq,if_true,if_false,or_false,or_true,or_self]at H;simp only[cF,gH,cW]at H;obtain⟨rfl,rfl,rfl,j,rfl,rfl⟩:=H;obtain⟨m,rfl,f⟩:=eZ j;exact CX g u v pw (anp g f) (anB g f).1
  by_cases M:k=5
  .subst M;simp only[Int.reduceEq,if_true,if_false,or_self]at H;simp only[cF,nK,gH,cW]at H;obtain⟨rfl,_,j,rfl,rfl⟩:=H;obtain⟨m,rfl,f⟩:=eZ j;exact CX g u v pw amQ rfl
  by_cases Q:k=6
  .subst Q;simp only[Int.reduceEq,if_true,if_false,or_true,or_self]at H;simp only[cF,gH,cW,fL]at H;obtain⟨rfl,rfl,rfl,j,rfl,x,Z⟩:=H;obtain⟨m,rfl,f⟩:=eZ j;obtain⟨B,rfl,n⟩:=eZ x;exact CX g u v pw (amV g f n) (amh g f n).1
  by_cases L:k=7
  .subst L;simp only[Int.reduceEq,if_true,if_false,or_self]at H;simp only[cF,gH,cW,nj]at H;obtain⟨rfl,j,rfl,x,aN⟩:=H;obtain⟨m,rfl,f⟩:=eZ j;obtain⟨B,rfl,n⟩:=eZ x;exact CX g u v pw (agk g f n) (aga g f n J l o).1
  by_cases N:k=8
  .subst N;simp only[Int.reduceEq,if_true,if_false,or_self]at H;simp only[cF,gH,cW,fL]at H;obtain⟨rfl,rfl,rfl,j,x,hz,_⟩:=H;obtain⟨m,rfl,f⟩:=eZ j;obtain⟨B,rfl,n⟩:=eZ x;obtain⟨z,rfl,T⟩:=eZ hz;exact CX g u v pw (ak1 g f n T) (afF g f n T).1
  by_cases R:k=9
  .subst R;simp only[Int.reduceEq,if_true,if_false,or_false,or_true,or_self]at H;simp only[cF,gH,cW]at H;obtain⟨rfl,rfl,rfl,j,rfl,rfl⟩:=H;obtain⟨m,rfl,f⟩:=eZ j;have Y:=S7 g (iQ f);exact CX g u v pw (agE g (iQ f)) (afr g f).1
  by_cases D:k=10
  .subst D;simp only[Int.reduceEq,if_true,if_false,or_true,or_self]at H;simp only[cF,gH,cW]at H;obtain⟨rfl,rfl,rfl,j,rfl,rfl⟩:=H;obtain⟨m,rfl,f⟩:=eZ j;have Y:=S7 g (iQ f);exact CX g u v pw (agz g (iQ f)) (ah9 g f).1
  simp[E,y,O,A,M,Q,L,N,R,D]at H


def ami(L:ae)(D:dK)(blk:aH)(v:V)(A:aH):Prop:= ∃g1 f,v=.agg [.hsl 1792256128 g1 6 0 (I L),.hsl 1792256192 f 1 0 (I D)]/\A 1792256128=(g1,some (.arr fO 6 (bY L)))/\A 1792256192=(f,some (.arr 4 1 (dx D)))/\dk (λi=>lf i=28) blk A
def aD7{al:cD}{blk:aH}(a:Int)(b c:Nat)(l o:Bool)(sg:Int)(O:∀i,lf i=28->al.ok i)(Z:c<=1000):
  ∃v A,ja S 28 [.agg [.p (.int .i64 F),.p (.sl []),.p (.int .i64 0),.p .nils],.agg [.p .nils,.p .nils],c6 2 a b c l o sg] al blk v A/\ami [um b c 1,um b c 2] [true,false] blk v A:=by
 have D:(((0:Int))==0):=rfl;have m:IntKind.i64.wrap ((c:Int)+1)=(c:Int)+1:=iS J J;have Q:IntKind.i64.wrap ((c:Int)+2)=(c:Int)+2:=iS J J;have N:al.ok 1792000000:=O _ rfl;have f:al.ok 1792000064:=O _ rfl;have E:al.ok 1792000128:=O _ rfl;have L:al.ok 1792000192:=O _ rfl;have T:al.ok 1792064384:=O _ rfl;have R:al.ok 1792128384:=O _ rfl;have u:al.ok 1792256128:=O _ rfl;have z:al.ok 1792256192:=O _ rfl;refine mL als (jg rfl) ?_;simp only[go_sem,acH,N,f,E,L,T,R,u,z,D,m,Q];refine⟨_,_,rfl,?_,?_,?_⟩
 .simp only[go_sem];first|done|rfl
 .simp only[go_sem];first|done|rfl
 intro i H;have M:i≠1792000000:=λh=>H EQ;have n:i≠1792000064:=λh=>H EQ;have X:i≠1792000128:=λh=>H EQ;have x:i≠1792000192:=λh=>H EQ;have B:i≠1792064384:=λh=>H EQ;have j:i≠1792128384:=λh=>H EQ;have y:i≠1792256128:=λh=>H EQ;have Y:i≠1792256192:=λh=>H EQ;simp only[go_sem,M,n,X,x,B,j,y,Y]
def aEh(i:Int)(b c:Nat)(l o:Bool)(sg:Int)(E:c<=1000):
  aC S 9 [c7 F [],c6 2 i b c l o sg] (pM F [um b c 1,um b c 2] [true,false]):=by
 have j:aC S 19 [.agg [.p (.int .i64 F),.p (.sl [])]] (.agg [.p (.int .i64 F),.p (.sl []),.p (.int .i64 0),.p .nils]):=adi F;have y:aC S 23 [.agg [.p (.int .i64 F),.p (.sl [])]] (.agg [.p .nils,.p .nils]):=ayP F;have A:S.lone 576064064=false:=ah;have B:S.lone 576128064=false:=ah;have L:S.lone 579136128=false:=ah;refine ba tc ?_;simp only[go_sem,i9,tQ,gN j A (.inl rfl),yS,gN y B (.inl rfl),agw];refine rG (P:=ami [um b c 1,um b c 2] [true,false] _) uS (aD7 i b c l o sg (λq z=>zy (by rw[z,ady];decide)) E) ?_;rintro v O ⟨g1,R,rfl,D,H,h⟩
 have Q:=h 576000000 aa;have n:=h 576000128 aa;have u:=h 576128128 aa;simp only[go_sem]at Q n u;clear h;have N:I ([um b c 1,um b c 2]:ae)=2:=rfl;have M:I ([true,false]:dK)=2:=rfl;generalize([um b c 1,um b c 2]:ae)=L2 at*;generalize([true,false]:dK)=D2 at*;have f:aC S 36 [.agg [.p (fz L2),.p (.sl (dx D2))],.agg [.p (.int .i64 F),.p (.sl [])]] (.agg [.p (.int .i64 F),bU fO 6 (bY (kj L2 D2))]):=ym (F:Int) [] L2 D2 J (M.trans N.symm);have m:I (kj L2 D2)=I L2:=Cv _ _;have x:kj L2 D2≠[]:=λe=>by rw[e]at m;simp only[fB]at m;omega
 simp only[pM];rw[oa (Ah x)]at f |-;simp only[go_sem,D,H,Q,n,u,lz,ri,wX,ya,gN f L (.inr (B6 _ _))];simp[iD,mM,kZ,kD,iN,bG,lg,oE,nq,lz]
def axG(F:Nat)(h:ae)(a b:Nat)(l o:Bool):I (EV F h a b l o)=I h+4:=by unfold EV;rw[akv];split<;>rfl
def azO(h:ae)(a b:Nat):I (FP h a b)=I h+4:=by unfold FP;rw[akv,lL];rfl
def ayN(F:Nat)(h:ae)(a b c:Nat):I (F3 F h a b c)=I h+2:=by unfold F3;rw[lA,ct];split<;>rfl
def axl(h:ae)(a:Nat):I (Hd h a)=I h+2:=by unfold Hd;rw[lA,lL];rfl
def abp{blk:aH}{j ez h A f u m q:Nat}{D:dK}{N:dy}{y z F M B E H O R:PV}(X:blk f=(u,some (.arr tV 5 N)))(T:blk j=(ez,some (.arr fO 6 (bY L))))(Q:blk h=(A,some (.arr 4 1 (dx D)))):
  (([.agg [.p x,.p y,.p z,.hsl f u 5 0 q],zG j ez h A n m,.agg [.p F,.p M,.p B,.p E,.p H,.p O,.p R]]:dG).map (mI blk)).flatten=[f,j,h]:=by
 have a:mI blk (.one (.hsl f u 5 0 q))=[f]:=JR X;have b:=Sp (n:=n) (m:=m) T Q;have e:∀v:PV,oj blk jK (.p v)=[]:=λ_=>rfl;simp[fq,tR,b];simp[mI]at a |-;simp[a,e]
def aES(g:aU F h)(i j:Nat)(c:Int)(l o:Bool)(sg:Int)(H:i<I h)(z:j<I h)(hl:I h<=400):
  aC S 9 [c7 F h,c6 7 i j c l o sg] (pM F (EV F h i j l o) (FP h i j)):=by
 have m:=Ay g;have u:=B4 (F:Int) h J;have A:S.lone 576064064=false:=ah;have B:S.lone 576128064=false:=ah;have v:S.lone 579136128=false:=ah;rw[oa (AK g)]at m;have N:=s3 g.ne (lL h);simp only[uM]at N;rw[N]at u;have x:=auu g i j c l o sg H z hl;have O:S.lone 578304192=false:=ah;have E:=axG F h i j l o;have M:=azO h i j;generalize EV F h i j l o=L at*;generalize FP h i j=D at*;have f:=ym (F:Int) h L D J (M.trans E.symm);have n:I (kj L D)=I L:=Cv _ _;have y:kj L D≠[]:=λe=>by rw[e]at n;simp at n;omega
 simp[pM];rw[oa (Ah y)]at f |-;refine ba tc ?_;simp only[go_sem,i9,tQ,gN m A _];simp only[go_sem,yS,gN u B _,lz,ri,vr,as7,gN x O (.inr (CM _ _)),wX,ya,gN f v (.inr (B6 _ _))];simp[iD,mM,kZ,kD,iN,bG,lg,oE,nq,lz]
def arI(g:aU F h)(i b c:Nat)(l o:Bool)(sg:Int)(Y:i<I h)(R:c<=1000)(hl:I h<=400)(O:∀x∈h,IntKind.i64.wrap (x.ao - -2)=x.ao - -2)(bQ:(c8 F h (2*i)).places.length<=1000000):
  aC S 9 [c7 F h,c6 2 i b c l o sg] (pM F (F3 F h i b c) (Hd h i)):=by
 have f:=Ay g;have y:=B4 (F:Int) h J;have Z:S.lone 576064064=false:=ah;have l2:S.lone 576128064=false:=ah;have T:S.lone 579136128=false:=ah;rw[oa (AK g)]at f;have N:=s3 g.ne (lL h);simp only[uM]at N;rw[N]at y;have n1:=ayN F h i b c;have n2:=axl h i;refine ba tc ?_;simp only[go_sem,i9,tQ,gN f Z (.inl rfl)];simp only[go_sem,yS,gN y l2 (.inl rfl),lz,vr,lL,agw];refine rG uS (at1 g i b c l o sg (uI ?_) (uI ?_) (uI ?_) (λq E=>zy (by rcases E with ab|ab<;>rw[ab,ady]<;>decide)) ?_ aa aa aa aa aa aa aa aa aa Y R hl O d9 d9 d9 bQ) ?_
 .rw[abp (L:=h) (D:=eR h) (N:=ki (dA F h))]
  .simp
  all_goals simp only[go_sem]
 .rw[abp (L:=h) (D:=eR h) (N:=ki (dA F h))]
  .simp
  all_goals simp only[go_sem]
 .rw[abp (L:=h) (D:=eR h) (N:=ki (dA F h))]
  .simp
  all_goals simp only[go_sem]
 .show(S.sites 27).all (S.sites 28).contains=true;rw[SR,ady];decide
 rintro v b1 ⟨g1,g2,rfl,M,B,H⟩
 have Q:=H 576000000 aa;have z:=H 576000128 aa;have A:=H 576128128 aa;simp only[go_sem]at Q z A;clear H;generalize F3 F h i b c=m at*;generalize Hd h i=n at*;have j:=ym (F:Int) h m n J (n2.trans n1.symm);have u:I (kj m n)=I m:=Cv _ _;have X:kj m n≠[]:=λe=>by rw[e]at u;simp only[fB]at u;omega
 simp only[pM];rw[oa (Ah X)]at j |-;simp only[go_sem,M,B,Q,z,A,lz,ri,wX,ya,gN j T (.inr (B6 _ _))];simp[iD,mM,kZ,kD,iN,bG,lg,oE,nq,lz]
end
end Go.Abs
