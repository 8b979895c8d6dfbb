/- A part. -/
import Derived.Test.YtenindeoffokoaaGreatDoorWf
set_option linter.all false
open List renaming length->I
set_option maxRecDepth 100000
set_option maxHeartbeats 16000000
namespace Go.Abs
variable{x:Int}{j:Option aW}{h:cL}{L:af}
section
variable{f:af}{F:Nat}
def arL{blk:aJ}{s:Nat}{x c:PV}{l:Bool}:fR blk [] s ((RV.agg [.p x,.p c]).iA l)=some (.agg [.p x,.p c],[]):=by cases l<;>rfl
def amc(x y:U):uo x y↔x=y:=by
 constructor
 .intro h;unfold uo at h;simp only[cP,c8]at h;obtain⟨m,f,u,j,n,H⟩:=h;cases x;cases y;simp only at m f u j n H;subst m f u j n H;rfl
 rintro rfl;exact H7 x
def ap9{A B:af}(m:I A=I B)(h:∀j,j<I A->uo (nQ A j) (nQ B j)):A=B:=by
 apply pk;intro j;by_cases H:j<I A
 .rw[A7 H,A7 (h:=B) (i:=j) J,(amc _ _).1 (h j H)]
 rw[lS J,lS J]
def apS(A B:af)(hl:I A<=1000000)(mz:I B<=1000000):aL S 54 [.one (.p (gC A)),.one (.p (gC B))] (fv (decide (A=B))):=by
 by_cases D:I A=I B
 .have Y:((I A:Int)==(I B:Int)):=by rw[D];simp
  generalize u:decide (A=B)=r;refine cG agZ ?_;simp only[go_sem,ab6,Y,bne,ai,aB];refine dt (λk m blk=>m 0=.one (.p (gC A))/\m 1=.one (.p (gC B))/\m 12=aI (I A)/\m 13=aI k/\ ∀j,j<k->uo (nQ A j) (nQ B j)) 0 (I A) (bZ _) ?_ ?_
  .simp only[go_sem];exact⟨rfl,λj h=>absurd h (o6 j)⟩
  rintro k m blk hk ⟨F,N,z,v,L⟩
  by_cases y:k<I A
  .have X:=A7 y;have T:=A7 (h:=B) (i:=k) J;have O:=jh X;have Q:=jh T;have M:(k:Int)<(I A:Int):=J;have E:=cS (n:=k) J;have R:k<I B:=J;cases H:uo (nQ A k) (nQ B k)with
   |true=>
    have ym:∀j,j<k+1->uo (nQ A j) (nQ B j):=λj Z=>by
     rcases rH.1 Z with h|rfl
     .exact L j h
     exact H
    simp only[go_sem,S6,F,N,z,v,O,Q,eR,U.ps,M,y,R,E,Ko,H,ai,aB];exact⟨aS,ym⟩
   |false=>
    have x:A≠B:=λe=>by subst e;rw[H7]at H;cases H
    rw[vg x]at u;subst u;simp only[go_sem,S6,F,N,z,v,O,Q,eR,U.ps,M,y,R,E,Ko,H,ai,aB];exact aS
  have:k=I A:=J;subst this;have H:A=B:=ap9 D L;rw[tV H]at u;subst u;simp only[go_sem,S6,ahS,z,v,fF,ai,aB]
 have Y:((I A:Int)==(I B:Int))=false:=by rw[mM];omega
 have x:A≠B:=λe=>D (by rw[e]);rw[vg x];refine cG agZ ?_;simp only[go_sem,ab6,Y,bne,ai,aB]
def XT{blk:aJ}{s:Nat}{x c e:PV}{l:Bool}:fR blk [] s ((RV.tup [.agg [.p x,.p c],.one (.p e)]).iA l)=some (.tup [.agg [.p x,.p c],.one (.p e)],[]):=by cases l<;>rfl
section
def fC(F:Nat)(f:af)(k a b c:Int)(l o:Bool)(sg:Int):Bool:=
 if k=2 then !l&&(!o&&(sg==0&&((l_ (I f) a||(I f==0&&a==0))&&(decide (0<=b)&&(decide (b<=(F:Int))&&(decide (0<=c)&&decide (c<=(aV f b.toNat:Int))))))))
 else if k=3\/k=6 then !l&&(!o&&(sg==0&&(l_ (I f) a&&(c==0&&(l_ (I f) b&&decide (a<b))))))
 else if k=5 then !l&&((sg==1||sg== -1)&&(l_ (I f) a&&(b==0&&c==0)))
 else if k=7 then sg==0&&(l_ (I f) a&&(c==0&&(l_ (I f) b&& !(a==b))))
 else if k=8 then !l&&(!o&&(sg==0&&(l_ (I f) a&&(l_ (I f) b&&(l_ (I f) c&&(decide (a<b)&&decide (b<c)))))))
 else if k=1\/k=4\/k=9\/k=10 then !l&&(!o&&(sg==0&&(l_ (I f) a&&(b==0&&c==0))))
 else false
def BS{y:Int}(h:¬x=y):(x==y)=false/\(x !=y):=by simp[h]
attribute [local go_sem ↓] F9 EX
section
variable {F:Nat} {f:af} {a b c:Int} {l o:Bool} {sg:Int}
def Dh{k:Int}(H:k=1\/k=3\/k=4\/k=5\/k=6\/k=7\/k=8\/k=9\/k=10):aL S 42 [.one (.p (eK F f)),jL k a b c l o sg] (fv (fC F f k a b c l o sg)):=by
 unfold fC;rcases H with rfl|rfl|rfl|rfl|rfl|rfl|rfl|rfl|rfl
 all_goals
  simp only[Int.reduceEq,if_true,if_false,false_or,or_false,or_true,true_or,reduceIte,or_self];refine cG Vo ?_;simp only[go_sem,M4,ng,b_ (yt a _),b_ (yt b _),b_ (yt c _),fx (yt a _),fx (yt b _),fx (yt c _),bY,bne,Bool.false_beq,Bool.true_beq,ai,aB];refine zP [0,3,4,5,6,7,8,9,10,41,60] λE h=>?_;simp only[go_sem]at h;repeat' ((first|apply adt|apply akt|apply amt|apply alk|apply Xo|apply amB)<;>intro j<;>simp only[go_sem, *,ng,b_ (yt a _),b_ (yt b _),b_ (yt c _),fx (yt a _),fx (yt b _),fx (yt c _),bY,bne,Bool.false_beq,Bool.true_beq,ai,aB])
  all_goals(first|done|exact aS|exact⟨aS,rfl⟩|rfl|(rw[eq_of_beq j];rfl))
end
end
section
attribute [local go_sem ↓] F9 EX
def agx{i:Int}{x:Bool}(h:l_ (I f) i=x):aL S 68 [aI i,.one (.p (.box [.int .i64 (I f)]))] (fv x):=h▸yt i (I f)
def abr(h:¬x=0):(x==0)=false/\(x !=0):=by simp[h]
section
variable {F:Nat} {f:af} {a b c:Int} {l o:Bool} {sg:Int}
def anZ:aL S 42 [.one (.p (eK F f)),jL 2 a b c l o sg] (fv (fC F f 2 a b c l o sg)):=by
 obtain⟨v,hv⟩:∃v,fC F f 2 a b c l o sg=v:=⟨_,rfl⟩;rw[hv];refine cG Vo ?_;simp only[go_sem,M4,ng,bY,ai,aB];refine zP [0,3,4,5,6,7,8,9,10,41] λe1 Q=>?_;simp only[go_sem]at Q;cases l with
 |true=>
  obtain rfl:v=false:=by rw[<-hv];simp[fC]
  simp only[go_sem,ng,bY,Q,ai,aB]
 |false=>
  simp only[go_sem,ng,bY,Q,ai,aB];refine zP [0,3,4,5,6,7,8,9,10,53] λe2 R=>?_;simp only[go_sem,Q]at R;cases o with
  |true=>
   obtain rfl:v=false:=by rw[<-hv];simp[fC]
   simp only[go_sem,ng,bY,R,ai,aB]
  |false=>
   simp only[go_sem,ng,bY,R,ai,aB];refine zP [0,3,4,5,6,7,8,9,10,60] λe3 X=>?_;simp only[go_sem,R]at X;by_cases ae:sg=0
   rotate_left
   .have jj:=(abr ae).1;have iK:=(abr ae).2;obtain rfl:v=false:=by rw[<-hv];simp[fC,ae]
    simp only[go_sem,ng,bY,X,iK,ai,aB]
   subst ae;cases H:l_ (I f) a with
   |true=>
    have dE:=agx H;simp only[go_sem,ng,bY,X,fx dE,ai,aB];refine CO [0,3,4,6,7,9,92] λe4 T=>?_;simp only[go_sem,X,fx dE]at T;by_cases L:0<=b
    rotate_left
    .obtain rfl:v=false:=by rw[<-hv];simp[fC,H,L]
     simp only[go_sem,ng,bY,fx dE,T,L,ai,aB];exact aS
    simp only[go_sem,ng,bY,fx dE,T,L,ai,aB];refine CO [0,3,4,6,7,9,101] λe5 y=>?_;simp only[go_sem,fx dE,T,L]at y;by_cases j:b<=(F:Int)
    rotate_left
    .obtain rfl:v=false:=by rw[<-hv];simp[fC,H,L,j]
     simp only[go_sem,ng,bY,fx dE,L,y,j,ai,aB];exact aS
    obtain⟨B,rfl⟩:=ns L;have Y:B<=F:=J;have O:=jy (GN (h:=f) Y);have n:B<F+1:=J;have u:I (gK f F)=F+1:=by simp[gK]
    simp only[go_sem,ng,bY,fx dE,L,y,j,O,n,u,ai,aB];refine CO [0,3,4,6,7,9,106] λe6 z=>?_;simp only[go_sem,fx dE,L,y,j,O,n,u]at z;by_cases A:0<=c
    rotate_left
    .obtain rfl:v=false:=by rw[<-hv];simp[fC,H,L,j,A]
     simp only[go_sem,ng,bY,fx dE,L,j,O,n,u,z,A,ai,aB];exact aS
    by_cases M:c<=(aV f B:Int)
    rotate_left
    .obtain rfl:v=false:=by rw[<-hv];simp[fC,H,L,j,A,M]
     simp only[go_sem,ng,bY,fx dE,L,j,O,n,u,z,A,M,ai,aB];exact aS
    obtain rfl:v:=by rw[<-hv];simp[fC,H,L,j,A,M]
    simp only[go_sem,ng,bY,fx dE,L,j,O,n,u,z,A,M,ai,aB];exact aS
   |false=>
    have dE:=agx H;by_cases x:I f=0
    rotate_left
    .have m:((I f:Int)==0)=false:=beq_false_of_ne J;have Z:f≠[]:=λh=>x (by rw[h];rfl);obtain rfl:v=false:=by rw[<-hv];simp[fC,H,x,Z]
     simp only[go_sem,ng,bY,X,fx dE,m,ai,aB];exact aS
    have m:((I f:Int)==0):=by rw[x];rfl
    have Z:=G5.mp x;by_cases ha:a=0
    rotate_left
    .have FO:=(abr ha).1;obtain rfl:v=false:=by rw[<-hv];simp[fC,H,Z,ha,show l_ 0 a=false by rw[<-x];exact H]
     simp only[go_sem,ng,bY,X,fx dE,m,FO,ai,aB];exact aS
    subst ha;simp only[go_sem,ng,bY,X,fx dE,m,ai,aB];refine CO [0,3,4,6,7,9,92] λe7 N=>?_;simp only[go_sem,X,fx dE,m]at N;by_cases L:0<=b
    rotate_left
    .obtain rfl:v=false:=by rw[<-hv];simp[fC,H,x,L]
     simp only[go_sem,ng,bY,fx dE,m,N,L,ai,aB];exact aS
    simp only[go_sem,ng,bY,fx dE,m,N,L,ai,aB];refine CO [0,3,4,6,7,9,101] λe8 E=>?_;simp only[go_sem,fx dE,m,N,L]at E;by_cases j:b<=(F:Int)
    rotate_left
    .obtain rfl:v=false:=by rw[<-hv];simp[fC,H,x,L,j]
     simp only[go_sem,ng,bY,fx dE,m,L,E,j,ai,aB];exact aS
    obtain⟨B,rfl⟩:=ns L;have Y:B<=F:=J;have O:=jy (GN (h:=f) Y);have n:B<F+1:=J;have u:I (gK f F)=F+1:=by simp[gK]
    simp only[go_sem,ng,bY,fx dE,m,L,E,j,O,n,u,ai,aB];refine CO [0,3,4,6,7,9,106] λe9 D=>?_;simp only[go_sem,fx dE,m,L,E,j,O,n,u]at D;by_cases A:0<=c
    rotate_left
    .obtain rfl:v=false:=by rw[<-hv];simp[fC,H,x,L,j,A]
     simp only[go_sem,ng,bY,fx dE,m,L,j,O,n,u,D,A,ai,aB];exact aS
    by_cases M:c<=(aV f B:Int)
    rotate_left
    .obtain rfl:v=false:=by rw[<-hv];simp[fC,H,x,L,j,A,M]
     simp only[go_sem,ng,bY,fx dE,m,L,j,O,n,u,D,A,M,ai,aB];exact aS
    obtain rfl:v:=by rw[<-hv];simp[fC,H,x,L,j,A,M]
    simp only[go_sem,ng,bY,fx dE,m,L,j,O,n,u,D,A,M,ai,aB];exact aS
def ae6(k:Int):aL S 42 [.one (.p (eK F f)),jL k a b c l o sg] (fv (fC F f k a b c l o sg)):=by
 by_cases x:k=1
 .subst x;exact Dh aa
 by_cases H:k=2
 .subst H;exact anZ
 by_cases j:k=3
 .subst j;exact Dh aa
 by_cases u:k=4
 .subst u;exact Dh aa
 by_cases z:k=5
 .subst z;exact Dh aa
 by_cases m:k=6
 .subst m;exact Dh aa
 by_cases y:k=7
 .subst y;exact Dh aa
 by_cases h:k=8
 .subst h;exact Dh aa
 by_cases n:k=9
 .subst n;exact Dh aa
 by_cases v:k=10
 .subst v;exact Dh aa
 rw[show fC F f k a b c l o sg=false by simp[fC,x,H,j,u,z,m,y,h,n,v]];have M:=(BS x).1;have R:=(BS H).1;have O:=(BS j).1;have Q:=(BS u).1;have A:=(BS z).1;have N:=(BS m).1;have B:=(BS y).1;have D:=(BS h).1;have L:=(BS n).1;have E:=(BS v).1;refine cG Vo ?_;simp only[go_sem,M4,ng,bY,M,R,O,Q,A,N,B,D,L,E,ai,aB]
end
end
abbrev Wq:eO:=[.p .zD,.p (.fn 69 [] []),.p (.fn 70 [] []),.p (.fn 71 [] []),.p (.fn 72 [] []),.p (.fn 73 [] []),.p (.fn 74 [] []),.p (.fn 75 [] []),.p (.fn 76 [] []),.p (.fn 77 [] []),.p (.fn 77 [] [])]
def aud(k:Int):0<=(gL k).1/\(gL k).1<=4/\0<=(gL k).2/\(gL k).2<=2:=by
 unfold gL;split
 .simp
 split
 .simp
 split<;>simp
def BR(X:I f<=400)(eS:aq U.ak f<=200){k ab:Nat}{R:eO}(O:Wq.drop k=.p (.fn ab [] [])::R)(kL:k<11)(MK:S.shared ab=false){a b c:Int}{l o:Bool}{sg:Int}(ha:aL S 42 [.one (.p (eK F f)),jL k a b c l o sg] (fv true))(hm:aL S ab [.one (.p (eK F f)),jL k a b c l o sg] (uU j))(hL:∀L,j=some L->I L<=1000000):
  aL S 21 [.one (.p (eK F f)),jL k a b c l o sg] (ui F f k j):=by
 have uK:=agD F;have v:=acZ k;have kQ:S.lone 1344192384=false:=ah;have n9:S.lone 1344576128=false:=ah;have Z:∀(blk:aJ),fR blk [] 1344192000 ((RV.agg [.p .zD,.p (.fn 69 [] []),.p (.fn 70 [] []),.p (.fn 71 [] []),.p (.fn 72 [] []),.p (.fn 73 [] []),.p (.fn 74 [] []),.p (.fn 75 [] []),.p (.fn 76 [] []),.p (.fn 77 [] []),.p (.fn 77 [] [])]).iA (S.lone 1344192000))=some (.agg Wq,[]):=λblk=>by cases S.lone 1344192000<;>rfl
 have aX:=bY f;obtain⟨g1,Q,g3,Y⟩:=aud k;have m:∀blk:aJ,fR blk [] 1344384128 ((RV.tup [.one (.p (.int .i64 (gL k).1)),.one (.p (.int .i64 (gL k).2))]).iA (S.lone 1344384128))=some (.tup [.one (.p (.int .i64 (gL k).1)),.one (.p (.int .i64 (gL k).2))],[]):=λblk=>dX;obtain⟨Pz,PA,Ao⟩:∃x y,gL k=(x,y):=⟨_,_,rfl⟩;have d4:ui F f k none=oX 4:=rfl;have T:∀L,((400:Int)<(I f:Int)+Pz\/(100:Int)<((aq U.ak f/2:Nat):Int)+PA)->ui F f k (some L)=oX 7:=λL h=>by unfold ui;rw[Ao];exact aD h
 have d0:∀L,¬((400:Int)<(I f:Int)+Pz\/(100:Int)<((aq U.ak f/2:Nat):Int)+PA)->ui F f k (some L)=mQ F (aY L):=λL h=>by unfold ui;rw[Ao];exact aC h
 rw[Ao]at g1 Q g3 Y v;simp only[Ao]at m;simp only at g1 Q g3 Y m v;have D:IntKind.i64.wrap ((I (an f):Int)+Pz)=(I f:Int)+Pz:=by rw[aX];exact nj J J
 have M:IntKind.i64.wrap (((aq U.ak f/2:Nat):Int)+PA)=((aq U.ak f/2:Nat):Int)+PA:=nj J J;unfold uU at hm;generalize Wq=kg at O Z;refine cG XK ?_;simp only[go_sem,UU,VZ,b_ ha,adn,oT afR (Z _),O,kL,MK];refine ac0 hm kQ λcc de w gc N A=>?_;have n:=N 1344000000 aa;have B:=N 1344000064 aa;simp only[go_sem]at n B;cases j with
 |none=>rw[d4];simp only[go_sem,n,B];refine⟨?_,rfl⟩;rcases A with rfl|rfl<;>kernel_rfl
 |some L=>
  simp only[nM]at gc;have u:=uK L (hL L rfl) (.sl (dP (an f))) (.sl (sq (fZ F f))) (.sl (bQ (kX F f))) (.int .i64 (aq U.ay f:Nat)) (.int .i64 ((aq U.ak f/2:Nat):Int)) (.sl (bQ (gK f F)));obtain⟨rs,sR,_⟩:=gc.jl;by_cases H:(400:Int)<(I f:Int)+Pz
  .rw[T L (.inl H)];simp only[go_sem,n,B,LC,cE v (m _),D,M,H];refine⟨?_,rfl⟩;rcases A with rfl|rfl<;>kernel_rfl
  by_cases z:(100:Int)<((aq U.ak f/2:Nat):Int)+PA
  .rw[T L (.inr z)];simp only[go_sem,n,B,LC,cE v (m _),D,M,H,z];refine⟨?_,rfl⟩;rcases A with rfl|rfl<;>kernel_rfl
  rw[d0 L (by rintro(h|h);exact H h;exact z h)];simp only[go_sem,n,B,LC,cE v (m _),D,M,H,z,sR,ado];refine⟨?_,?_⟩
  .rcases A with rfl|rfl<;>kernel_rfl
  refine O6 u n9 rfl (Ih _) λc2 bK uD cV=>?_;have E:=(cV 1344000064 aa).trans B;simp only[go_sem,E];exact Sa (uD.of_eq (ct aa))
def akN{k a b c:Int}{l o:Bool}{sg:Int}(h:aL S 42 [.one (.p (eK F f)),jL k a b c l o sg] (fv false)):aL S 21 [.one (.p (eK F f)),jL k a b c l o sg] (oX 2):=by refine cG XK ?_;simp only[go_sem,UU,VZ,b_ h,ai,aB];try rfl
def jY:cL->cL
 |[]=>[]
 |x::r=>if x∈r then jY r else x::jY r
theorem Dm:∀ {l:cL},x∈jY l↔x∈l:=by
 intro l
 induction l with
 |nil=>simp[jY]
 |cons y r f=>
  unfold jY
  grind
def anW:∀l:cL,(jY l).Nodup:=by
 intro l
 induction l with
 |nil=>exact qK
 |cons y r f=>grind [jY,Dm]
def amY:∀k,k<=I h->(x∈nT h k↔x∈h.take k):=by
 intro k
 induction k with
 |zero=>intro _;simp[nT]
 |succ k f=>grind [nT,List.mem_take_iff_getElem]
def aAI(ae:xx vl h 0 (I h)):∀k,k<=I h->(nT h k).Nodup:=by
 intro k
 induction k with
 |zero=>intro _;exact qK
 |succ k j=>
  intro D;obtain⟨y,m⟩:=aP (h:=h) (k:=k) J;have j:=j J;unfold nT;rw[m];simp only;split
  .exact j
  rename_i E;rw[SZ];refine⟨j,aE,λz v w H=>?_⟩;simp at H;subst H;rintro rfl
  rw[amY k J,List.mem_take_iff_getElem]at v;obtain⟨p,hp,M⟩:=v;obtain⟨u,n⟩:=aP (h:=h) (k:=k-1) J;have A:=ae _ k u z (bZ _) J J n m;have x:u=z:=by
   by_cases e:p=k-1
   .grind
   have B:=ae p _ z u (bZ _) J J (by grind) n;simp at A B;omega
  grind
def agH{E:cL}(hp:h.Perm E)(ae:xx vl h 0 (I h)):I (nT h (I h))=I (jY E):=by refine List.Perm.length_eq ((Lu (aAI ae _ (cJ _)) (anW E)).2 λx=>?_);rw[amY _ (cJ _),jZ,Dm,hp.mem_iff]
def tk(f:af)(e:Nat):Bool:=((dE f e).l.kind==2)&&((dE f (nx f e)).l.kind==2)
def oJ(f:af)(E:aG):cL:=E.flatMap λe:Nat=>[(e:Int),(nx f e:Int)]
def rD(f:af)(E:aG):cL:=E.flatMap λe:Nat=>[(dE f e).l.id,(dE f (nx f e)).l.id]
def JM(F:Nat)(f:af)(a b c:Nat):Bool:=[a,b,c].all (tk f)&&((I (jY (oJ f [a,b,c]))==6)&&((I (jY (rD f [a,b,c]))==3)&&([a,b,c].any (jx f · true)&&([a,b,c].any (jx f · false)&&oF F f 0 [a,b,c] a))))
def sk(F:Nat)(f:af)(a b c:Nat):Option aW:=if JM F f a b c then some (ef f (an f) [a,b,c])else none
def Sx(f:Nat->cL)(hf:∀e,I (f e)=2):∀l:aG,I (l.flatMap f)=2*I l:=by
 intro l
 induction l with
 |nil=>rfl
 |cons a r h=>rw[List.flatMap_cons,gb,h,hf,fP];omega
def ah2(f:Nat->cL)(l:aG)(k e:Nat)(h:l[k]?=some e):(l.take (k+1)).flatMap f=(l.take k).flatMap f++f e:=by rw[k_,h];simp
def aer(f:Nat->Bool)(l:aG)(k e:Nat)(h:l[k]?=some e):(l.take (k+1)).any f=((l.take k).any f||f e):=by rw[k_,h];simp
def auk(f:Nat->Bool)(l:aG)(k e:Nat)(h:l[k]?=some e):(l.take (k+1)).all f=((l.take k).all f&&f e):=by rw[k_,h];simp
def ads(f:Nat->cL)(E:aG)(x y:Int):fJ (E.flatMap f)++[[PV.int .i64 x],[PV.int .i64 y]]=fJ (E.flatMap f++[x,y]):=aE
def azV(g:bj F f){A D M:Nat}(ha:A<I f)(hb:D<I f)(hc:M<I f){k:Int}{l o:Bool}{sg:Int}:
  aL S 76 [.one (.p (eK F f)),jL k A D M l o sg] (uU (sk F f A D M)):=by
 have a5:=g.len;have aX:=bY f;have fi:∀e∈[A,D,M],e<I f:=λe a6=>by simp at a6;rcases a6 with rfl|rfl|rfl<;>assumption
 generalize Y:[A,D,M]=E at*;have dR:I E=3:=by rw[<-Y];rfl
 have MB:bQ [A,D,M]=[[.int .i64 A],[.int .i64 D],[.int .i64 M]]:=rfl;rw[Y]at MB;have w3:((3:Nat):Int)=3:=rfl;refine cG ayT ?_;simp only[go_sem,acL,ai,aB];refine dt (λj B blk=>B 0=.one (.p (eK F f))/\B 6=.one (.hsl 4864064384 1 1 0 3)/\B 22=.one (.hsl 4864064384 1 1 0 3)/\B 23=aI 3/\B 24=aI j/\blk 4864064384=(1,some (.arr 3 1 (bQ E)))/\(E.take j).all (tk f)/\
  B 9=i_ ((E.take j).any (jx f · true))/\B 10=i_ ((E.take j).any (jx f · false))/\ ∃Ej On,B 7=.one Ej/\B 8=.one On/\bh 4864640256 3 1 (fJ (oJ f (E.take j))) (.one Ej) blk/\bh 4864705280 3 1 (fJ (rD f (E.take j))) (.one On) blk) 0 3 (bZ _) ?_ ?_
 .simp only[go_sem];exact⟨rfl,rfl,by rw[MB],rfl,rfl,_,_,rfl,rfl,bh.nil,bh.nil⟩
 rintro j B blk hj ⟨H,u,lV,mr,kK,b6,jI,x,m,Ej,On,h7,h8,g7,g8⟩
 by_cases aw:j<3
 .have aM:((j:Int)<3):=J;obtain⟨e,X⟩:=aP (h:=E) (k:=j) J;have Z:=fi e (a7 X);have Qu:=jy X;have pe:=Df g Z;have hm:=cT (e+1) (show 0<I f by omega);obtain⟨P,z⟩:=aP (h:=an f) (k:=e) J;obtain⟨Q,hQ⟩:=aP (h:=an f) (k:=(e+1)%I f) J;have sM:=jR z;have N:=jR hQ;have w1:=cS (n:=j) J;have po:=II g Z true;have pu:=II g Z false;have eS:tk f e=((P.l.kind==2)&&(Q.l.kind==2)):=by unfold tk;rw[gU z,gU hQ]
  have bc:I (fJ (oJ f (E.take j)))<=100:=by unfold oJ;rw[vZ,Sx _ (λ_=>rfl),jO];omega
  have a9:I (fJ (rD f (E.take j)))<=100:=by unfold rD;rw[vZ,Sx _ (λ_=>rfl),jO];omega
  have eI:tk f e=false->sk F f A D M=none:=λa6=>by
   have:E.all (tk f)=false:=by
    cases hh:E.all (tk f)with
    |false=>rfl
    |true=>rw[j4.1 hh e (a7 X)]at a6;cases a6
   unfold sk JM;rw[Y,this];rfl
  cases k1:(P.l.kind==2)with
  |false=>
   rw[k1]at eS;have O:(P.l.kind !=2):=by simp only[bne,k1];rfl
   rw[eI eS];simp only[go_sem,OT,H,u,lV,mr,kK,b6,aw,aM,Qu,iF,cE pe dX,Z,sM,N,aN.ps,O,aX];rfl
  |true=>
   have O:(P.l.kind !=2)=false:=by simp only[bne,k1];rfl
   cases k2:(Q.l.kind==2)with
   |false=>
    rw[k1,k2]at eS;have ab:(Q.l.kind !=2):=by simp only[bne,k2];rfl
    rw[eI eS];simp only[go_sem,OT,H,u,lV,mr,kK,b6,aw,aM,Qu,iF,cE pe dX,Z,hm,sM,N,aN.ps,O,ab,aX];rfl
   |true=>
    rw[k1,k2]at eS;have ab:(Q.l.kind !=2)=false:=by simp only[bne,k2];rfl
    simp only[go_sem,OT,H,u,h7,lV,mr,kK,b6,aw,aM,Qu,iF,cE pe dX,Z,hm,sM,N,aN.ps,O,ab,aX];refine re (B:=[[.int .i64 (e:Nat)],[.int .i64 ((e+1)%I f:Nat)]]) (g7.of_eq (ct aa)) (by simp only[hU,bG,if_true];rfl) (.inl rfl) (by simp only[fP,ga];omega) λd7 de az dB=>?_;have q6:=dB 4864064384 aa aa;simp only[go_sem,b6]at q6;have aH:=g8.of_eq ((dB 4864705280 aa aa).trans (ct aa));simp only[go_sem,H,u,h8,sM,N,aN.ps,aX,Z,hm];refine s_ (B:=[[.int .i64 P.l.id],[.int .i64 Q.l.id]]) (aH.of_eq (ct aa)) (by simp only[hU,bG,if_true];rfl) (.inl rfl) (by simp only[fP,ga];omega) λd8 bK r w a4 cV hw=>?_
    have p6:=(cV 4864064384 aa aa).trans ((ct aa).trans q6);have ar:=az.of_eq ((cV 4864640256 aa aa).trans (ct aa));simp only[go_sem];refine⟨?_,?_⟩
    .rcases hw with⟨rfl,rfl⟩|⟨rfl,rfl⟩|⟨rfl,rfl⟩<;>kernel_rfl
    generalize a2:(E.take j).any (jx f · true)=x9 at x;generalize aO:(E.take j).any (jx f · false)=KW at m;have e9:=aer (jx f · true) E j e X;have am:=aer (jx f · false) E j e X;have eA:=auk (tk f) E j e X;rw[a2]at e9;rw[aO]at am;rw[jI,eS]at eA;have G7:bh 4864640256 3 1 (fJ (oJ f (E.take (j+1)))) (.one d7) bK:=by have:=ads (λe:Nat=>[(e:Int),(nx f e:Int)]) (E.take j) e (nx f e);have L:=ah2 (λe:Nat=>[(e:Int),(nx f e:Int)]) E j e X;rw[show oJ f (E.take (j+1))=(E.take j).flatMap (λe:Nat=>[(e:Int),(nx f e:Int)])++[(e:Int),(nx f e:Int)]from L,<-this];exact ar
    have G8:bh 4864705280 3 1 (fJ (rD f (E.take (j+1)))) (.one d8) bK:=by have:=ads (λe:Nat=>[(dE f e).l.id,(dE f (nx f e)).l.id]) (E.take j) (dE f e).l.id (dE f (nx f e)).l.id;have L:=ah2 (λe:Nat=>[(dE f e).l.id,(dE f (nx f e)).l.id]) E j e X;rw[show rD f (E.take (j+1))=(E.take j).flatMap (λe:Nat=>[(dE f e).l.id,(dE f (nx f e)).l.id])++[(dE f e).l.id,(dE f (nx f e)).l.id]from L,<-this,gU z,show dE f (nx f e)=Q from gU hQ];exact a4
    cases x9<;>cases KW<;>simp only[go_sem,H,x,m,lV,mr,kK,oQ,b_ po,b_ pu,w1,aw]<;>exact⟨u,p6,by rw[eA];rfl,by rw[e9];rfl,by rw[am];rfl,d7,d8,rfl,rfl,G7,G8⟩
 have:j=3:=J;subst this;have ht:E.take 3=E:=by rw[<-Y];rfl
 rw[ht]at jI x m g7 g8;have n7:I (oJ f E)=6:=by unfold oJ;rw[Sx _ (λ_=>rfl),dR]
 have n8:I (rD f E)=6:=by unfold rD;rw[Sx _ (λ_=>rfl),dR]
 rcases g7 with⟨e,_⟩|⟨_,bb,e,b7⟩
 .have:=congrArg List.length e;rw[vZ,n7]at this;cases this
 cases e;rcases g8 with⟨e,_⟩|⟨_,be,e,b8⟩
 .have:=congrArg List.length e;rw[vZ,n8]at this;cases this
 cases e;have T:S.shared 119:=ah;have R:S.shared 120:=ah;have Jt:¬(((3:Nat):Int)<3):=aa;simp only[go_sem,OT,aj4,H,u,h7,h8,x,m,lV,mr,kK,Jt,T,vZ];refine zG b7 (by rfl) (.inl rfl) (λqc h1 L=>aaC h1 (by rw[L];kernel_rfl) J b7) λv de z=>?_;obtain⟨rfl,⟨h,bw,pw,sw⟩,kw⟩:=z;have ap:=(kw 4864705280 aa).trans b8;have OC:=(kw 4864064384 aa).trans b6;simp only[go_sem,H,u,h7,h8,x,m,T,vZ];refine zG ap (by rfl) (.inl rfl) (λqc h1 L=>aaC h1 (by rw[L];kernel_rfl) J ap) λv bK z=>?_
 obtain⟨rfl,⟨us,bu,pu,su⟩,ku⟩:=z;have ac:=(ku 4864640256 aa).trans bw;have a0:=(ku 4864064384 aa).trans OC;have wl:=pw.length_eq;have ul:=pu.length_eq;have cw:=agH pw sw;have cu:=agH pu su;have y:=aaf g E J (by rw[<-Y];rfl) ha 0;have a1:((0:Nat):Int)=0:=rfl;rw[a1]at y;have a3:=aAK g E fi J;have ao:List.take 3 (bQ E)=bQ E:=f_ (by rw[acy];omega);have hB:JM F f A D M=(((I (jY (oJ f E)):Int)==6)&&(((I (jY (rD f E)):Int)==3)&&(E.any (jx f · true)&&(E.any (jx f · false)&&oF F f 0 E A)))):=by unfold JM;rw[Y,jI,S4,S4];rfl
 unfold sk;rw[hB];clear hB;simp only[go_sem,H,u,h7,h8,x,m,R,vZ,<-wl];refine zG ac (by rfl) (.inl rfl) (λqc h1 L=>aja h1 J ac) λv mO z=>?_;obtain⟨rfl,_,kc⟩:=z;have ad:=(kc 4864705280 aa).trans bu;have aF:=(kc 4864064384 aa).trans a0;rw[cw];have lo:S.lone 4865152128=false:=ah;cases q1:((I (jY (oJ f E)):Int)==6)with
 |false=>
  have Ik:((I (jY (oJ f E)):Int)!=6):=by simp only[bne,q1];rfl
  simp only[go_sem,H,u,h7,h8,x,m,Ik];rfl
 |true=>
  have Ik:((I (jY (oJ f E)):Int)!=6)=false:=by simp only[bne,q1];rfl
  simp only[go_sem,H,u,h7,h8,x,m,Ik,R,vZ,<-ul];refine zG ad (by rfl) (.inl rfl) (λqc h1 L=>aja h1 J ad) λv wg z=>?_;obtain⟨rfl,_,kd⟩:=z;have ag:=(kd 4864064384 aa).trans aF;rw[cu];cases q2:((I (jY (rD f E)):Int)==3)with
  |false=>
   have Gu:((I (jY (rD f E)):Int)!=3):=by simp only[bne,q2];rfl
   simp only[go_sem,H,u,x,m,Gu];rfl
  |true=>
   have Gu:((I (jY (rD f E)):Int)!=3)=false:=by simp only[bne,q2];rfl
   cases q3:E.any (jx f · true)with
   |false=>rw[q3]at x;simp only[go_sem,H,u,x,m,Gu];rfl
   |true=>
    rw[q3]at x;cases q4:E.any (jx f · false)with
    |false=>rw[q4]at m;simp only[go_sem,H,u,x,m,Gu];rfl
    |true=>
     rw[q4]at m;cases q5:oF F f 0 E A with
     |false=>rw[q5]at y;simp only[go_sem,H,u,x,m,Gu,ag,nD,b_ y,dR,acy,ao];rfl
     |true=>rw[q5]at y;simp only[go_sem,H,u,x,m,Gu,ag,nD,b_ y,aoQ,dR,acy,ao];refine nI a3 lo (.inr (r9 (yK _))) λcc OG gc FP=>?_;simp only[go_sem];rw[<-Y]at gc;exact uc gc
abbrev DF(F:Nat):V:=.agg [.p (.int .i64 F),.p (.sl [])]
def we:¬(((0:Int))<((0:Nat):Int)):=aa
def afe:IntKind.i64.wrap (2*((0:Nat):Int))=((0:Nat):Int):=aa
def adJ:(0:Nat)<=140737488355328:=aa
def auv:(0:Nat)*8<=140737488355328:=aa
section
variable {F:Nat}
def aqd(h:F<=40):dk (F:Int) []=0:=by unfold dk;rw[aC (by simp[aq]),aC J,aD rfl]
def as6(h:F<=40):aL S 22 [DF F] (x_ (BW F) (.int .i64 0)):=by have pr:=SM F [] (bZ _);rw[NI (aqd h),aD rfl]at pr;exact pr
def anQ:aL S 66 [.one (.p (BW F))] (.one (.own 4 1 [])):=by refine cG amJ ?_;simp only[go_sem,Yv,ai,aB];refine og ?_;simp only[go_sem,L_,WD,we,ai,aB];rfl
def aB3(H:F<=40):aL S 39 [DF F] (.tup [.one (cU CE 5 []),.one (.p (.int .i64 0))]):=by
 have pr:=as6 H;have h:∀blk:aJ,fR blk [] 2496384064 ((RV.one (.own 4 1 [])).iA (S.lone 2496384064))=some (.one (.hsl 2496384064 ((blk 2496384064).1+1) 1 0 0),[(2496384064,((blk 2496384064).1+1,some (.arr 4 1 [])))]):=by intro blk;rw[show S.lone 2496384064=false by kernel_rfl];rfl
 refine cG adB ?_;simp only[go_sem,acs,Pv,cE pr dX,aiy,cE anQ (h _),afe,adJ];refine og ?_;simp only[go_sem,PU,XC,we];rfl
def S1(u:F<=40):aL S 20 [DF F] (x_ (eK F []) (.int .i64 0)):=by
 have m:=aB3 u;have f:aL S 40 [DF F] (jr ((0:Nat):Int)):=abY F [] (bZ _);have tS:aL S 41 [DF F] (jr ((0:Nat):Int)):=als F [] (bZ _);have lo:S.lone 1280064064=false:=ah;have v:=cS (n:=F) J;have R:(F+1)*8<=140737488355328:=J;have E:List.replicate (F+1) [PV.int .i64 0]=bQ (gK [] F):=by rw[<-XL,ga,W9];simp
 refine cG aj5 ?_;simp only[go_sem,i20,ahu];refine aim m lo λx M z j=>?_;have O:=j 1280000000 aa;simp only[go_sem]at O;obtain⟨_,H⟩|⟨h,_⟩:=z
 .cases H;simp only[go_sem,O,v,R,afe,adJ,auv,Y0,akq,pG f,pG tS,E];refine⟨aS,?_⟩;refine og ?_;simp only[go_sem,Mr,Vi,we];refine og ?_;simp only[go_sem,Sp,St,we];have T:List.take (F+1) (bQ (gK [] F))=bQ (gK [] F):=f_ (by simp[gK]);have N:F+1<=I (gK [] F):=by simp[gK]
  simp only[go_sem,lM,v_,yX,qG,oV,mH,T,N];rfl
 exact absurd rfl h
end
section
variable {F:Nat}
def arU:IntKind.i64.wrap (1:Int)=1:=aa
def aAP:IntKind.i64.wrap (2:Int)=2:=aa
abbrev Ei(F:Nat):V:=.one (.p (.box [.int .i64 F,.sl [],.sl [],.sl [],.int .i64 ((0:Nat):Int),.int .i64 ((0:Nat):Int),.sl (bQ (gK [] F))]))
def at3{b:Nat}(v:b<=F):aL S 42 [Ei F,jL 2 0 b 0 false false 0] (fv true):=by
 have Q:aL S 68 [aI 0,.one (.p (.box [.int .i64 ((0:Nat):Int)]))] (fv false):=yt 0 0;have O:=jy (GN (h:=[]) v);have m:(0:Int)<=(b:Int):=J;have H:(b:Int)<=(F:Int):=J;have j:(0:Int)<=(aV [] b:Int):=J;have u:b<F+1:=J;have h:I (gK [] F)=F+1:=by simp[gK]
 have n:(((0:Nat):Int)==0):=aa;refine cG Vo ?_;simp only[go_sem,M4,ng,fx Q,b_ Q,O,m,H,j,u,h,n,ai,aB];exact aS
abbrev JG(b:Nat):aW:=[⟨⟨1,b,1,0,0,false⟩,true⟩,⟨⟨1,b,2,0,0,false⟩,false⟩]
def awx{b:Nat}{l o:Bool}{sg:Int}:aL S 70 [Ei F,jL 2 0 b 0 l o sg] (uU (some (JG b))):=by have h:(((0:Nat):Int)==0):=aa;refine cG afB ?_;simp only[go_sem,Xu,h,arU,aAP,ai,aB];rfl
end
def ar4(M:I f<=400)(eS:aq U.ak f<=200){a b c:Int}{l o:Bool}{sg:Int}(ha:aL S 42 [.one (.p (eK F f)),jL 2 a b c l o sg] (fv true))(O:aL S 70 [.one (.p (eK F f)),jL 2 a b c l o sg] (uU j))(Y:∀L,j=some L->I L<=1000000):
  aL S 21 [.one (.p (eK F f)),jL 2 a b c l o sg] (ui F f 2 j):=by
 have uK:=agD F;have A:=acZ 2;have kQ:S.lone 1344192384=false:=ah;have X:S.lone 1344576128=false:=ah;have Z:∀(blk:aJ),fR blk [] 1344192000 ((RV.agg [.p .zD,.p (.fn 69 [] []),.p (.fn 70 [] []),.p (.fn 71 [] []),.p (.fn 72 [] []),.p (.fn 73 [] []),.p (.fn 74 [] []),.p (.fn 75 [] []),.p (.fn 76 [] []),.p (.fn 77 [] []),.p (.fn 77 [] [])]).iA (S.lone 1344192000))=some (.agg [.p .zD,.p (.fn 69 [] []),.p (.fn 70 [] []),.p (.fn 71 [] []),.p (.fn 72 [] []),.p (.fn 73 [] []),.p (.fn 74 [] []),.p (.fn 75 [] []),.p (.fn 76 [] []),.p (.fn 77 [] []),.p (.fn 77 [] [])],[]):=λblk=>by cases S.lone 1344192000<;>rfl
 have aX:=bY f;have x:IntKind.i64.wrap ((I (an f):Int)+(gL 2).1)=(I f:Int)+(gL 2).1:=by rw[aX];exact nj (by simp only[gL];simp;omega) (by simp only[gL];simp;omega)
 have D:IntKind.i64.wrap (((aq U.ak f/2:Nat):Int)+(gL 2).2)=((aq U.ak f/2:Nat):Int)+(gL 2).2:=nj (by simp only[gL];simp;omega) (by simp only[gL];simp;omega);have y:∀blk:aJ,fR blk [] 1344384128 ((RV.tup [.one (.p (.int .i64 (gL 2).1)),.one (.p (.int .i64 (gL 2).2))]).iA (S.lone 1344384128))=some (.tup [.one (.p (.int .i64 (gL 2).1)),.one (.p (.int .i64 (gL 2).2))],[]):=λblk=>dX;unfold uU at O;refine cG XK ?_;simp only[go_sem,UU,VZ,b_ ha,adn,oT afR (Z _),ayg];refine ac0 O kQ λcc de w N E v=>?_;have m:=E 1344000000 aa;have B:=E 1344000064 aa;simp only[go_sem]at m B;cases j with
 |none=>simp only[go_sem,m,B];refine⟨?_,rfl⟩;rcases v with rfl|rfl<;>kernel_rfl
 |some L=>
  simp only[nM]at N;have n:=uK L (Y L rfl) (.sl (dP (an f))) (.sl (sq (fZ F f))) (.sl (bQ (kX F f))) (.int .i64 (aq U.ay f:Nat)) (.int .i64 ((aq U.ak f/2:Nat):Int)) (.sl (bQ (gK f F)));obtain⟨rs,T,_⟩:=N.jl;by_cases H:(400:Int)<(I f:Int)+(gL 2).1
  .rw[show ui F f 2 (some L)=oX 7 from aD (.inl H)];simp only[go_sem,m,B,LC,cE A (y _),x,D,H];refine⟨?_,rfl⟩;rcases v with rfl|rfl<;>kernel_rfl
  by_cases u:(100:Int)<((aq U.ak f/2:Nat):Int)+(gL 2).2
  .rw[show ui F f 2 (some L)=oX 7 from aD (.inr u)];simp only[go_sem,m,B,LC,cE A (y _),x,D,H,u];refine⟨?_,rfl⟩;rcases v with rfl|rfl<;>kernel_rfl
  rw[show ui F f 2 (some L)=mQ F (aY L)from aC (by rintro(h|h);exact H h;exact u h)];simp only[go_sem,m,B,LC,cE A (y _),x,D,H,u,T,ado];refine⟨?_,?_⟩
  .rcases v with rfl|rfl<;>kernel_rfl
  refine O6 n X rfl (Ih _) λc2 bK Q R=>?_;have z:=(R 1344000064 aa).trans B;simp only[go_sem,z];exact Sa (Q.of_eq (ct aa))
abbrev nq(b:Nat):af:=[⟨1,b,1,0,0,false⟩,⟨1,b,2,0,0,false⟩]
def aAq(b:Nat):aY (JG b)=nq b:=by unfold aY;rw[show ue (JG b)=some 0 from rfl];rfl
def ayR(F b:Nat):ui F [] 2 (some (JG b))=mQ F (nq b):=by rw[<-aAq];rfl
def Xt{b:Nat}(H:b<=F):aL S 21 [Ei F,jL 2 0 b 0 false false 0] (mQ F (nq b)):=by have:=ar4 (F:=F) (f:=[]) aa aa (a:=0) (b:=b) (c:=0) (l:=false) (o:=false) (sg:=0) (j:=some (JG b)) (at3 H) awx (λL h=>by cases h;exact(by simp:I (JG b)<=1000000));rw[ayR]at this;exact this
def awT{b:Nat}(m:F<=40)(h:b<=F):aL S 7 [DF F,jL 2 0 b 0 false false 0] (mQ F (nq b)):=by have f:aL S 20 [DF F] (x_ (.box [.int .i64 F,.sl [],.sl [],.sl [],.int .i64 ((0:Nat):Int),.int .i64 ((0:Nat):Int),.sl (bQ (gK [] F))]) (.int .i64 0)):=S1 m;have H:=Xt h;have lo:S.lone 448256128=false:=ah;refine cG Ej ?_;simp only[go_sem,Ul,KY,cE f dX,CT];refine RU H lo λn D j h=>?_;have B:=h 448000128 aa;simp only[go_sem]at B;simp only[go_sem,B];exact Sa (j.of_eq (ct aa))
def mg(F:Nat)(f:af)(k:Int)(a b c:Nat)(l o:Bool)(sg:Int):Option aW:=if k=1 then n_ f a else if k=2 then ob F f a b c else if k=3 then rb F f a b else if k=4 then qh f a else if k=5 then some (oo f a sg o)else if k=6 then oY F f a b else if k=7 then s3 F f a b l o else if k=8 then sk F f a b c else if k=9 then th F f a else te f a
def sE(F:Nat)(f:af)(k a b c:Int)(l o:Bool)(sg:Int):RV:=if fC F f k a b c l o sg then ui F f k (mg F f k a.toNat b.toNat c.toNat l o sg)else oX 2
def avt{k a b c:Int}{l o:Bool}{sg:Int}:(∃e,sE F f k a b c l o sg=oX e)\/ ∃L,sE F f k a b c l o sg=mQ F L:=by
 unfold sE;split
 .cases mg F f k a.toNat b.toNat c.toNat l o sg with
  |none=>exact .inl ⟨4,rfl⟩
  |some L=>
   by_cases h:(400:Int)<(I f:Int)+(gL k).1\/(100:Int)<((aq U.ak f/2:Nat):Int)+(gL k).2
   .exact .inl ⟨7,aD h⟩
   exact .inr ⟨aY L,aC h⟩
 exact .inl ⟨2,rfl⟩
def aev{k a b c:Int}{l o:Bool}{sg:Int}{j:RV}(m:aL S 20 [eU F f] (x_ (eK F f) (.int .i64 0)))(h:aL S 21 [.one (.p (eK F f)),jL k a b c l o sg] j)(fin:(∃e,j=oX e)\/ ∃L,j=mQ F L):
  aL S 7 [eU F f,jL k a b c l o sg] j:=by
 have lo:S.lone 448256128=false:=ah;refine cG Ej ?_;rcases fin with⟨e,rfl⟩|⟨L,rfl⟩
 .simp only[go_sem,Ul,KY,cE m dX,CT,cE h afu,ai,aB];rfl
 simp only[go_sem,Ul,KY,cE m dX,CT];refine RU h lo λu D n H=>?_;have B:=H 448000128 aa;simp only[go_sem]at B;simp only[go_sem,B];exact Sa (n.of_eq (ct aa))
theorem jK{n:Nat}{i:Int}(h:l_ n i):∃k:Nat,i=(k:Int)/\k<n:=by unfold l_ at h;simp at h;exact⟨i.toNat,J,J⟩
def WL(l:aW)(drop:Nat->aN->Bool):I (oc l drop)<=I l:=IL l drop (I l)
def amu(l:aW)(i:Nat)(g r:Int):I (pF l i g r)=I l:=by simp[pF]
def ad0{k:Int}{a b c:Nat}{l o:Bool}{sg:Int}{L:aW}(h:mg F f k a b c l o sg=some L):I L<=I f+4:=by
 have hp:=bY f;unfold mg at h;repeat' split at h
 .unfold n_ at h;simp only at h;split at h
  .cases h;have:=WL (an f) (λk _=>decide (k=a)||decide (k=(a+1)%I f));simp only[dO,cg];omega
  cases h
 .unfold ob at h;split at h
  .cases h;simp only[uT,EZ,dO,cg,fP,ga];omega
  split at h
  .cases h;simp only[uT,EZ,dO,cg,fP,ga];omega
  cases h
 .unfold rb at h;split at h
  .cases h;simp only[s6,tf];omega
  cases h
 .unfold qh at h;simp only at h;split at h
  .cases h;have:=WL (an f) (uR [((an f).getD a ⟨ij,false⟩).l.id]);simp only[jA,cg];omega
  cases h
 .cases h;simp only[oo,EZ,fP,ga];omega
 .unfold oY at h;split at h
  .cases h;have:=WL (an f) (uR [(dE f a).l.id,(dE f (nx f a)).l.id]);simp only[jA,cg];omega
  cases h
 .have j:∀s t,uS f a b l o s t=some L->I L<=I f+4:=λs t h=>by
   unfold uS at h;split at h
   .cases h
   simp only[iW]at h;subst h;have H:∀x sg o s,I (j9 x sg o s)=2:=λx sg o s=>by unfold j9;split<;>rfl
   split<;>simp only[EZ,H,fP,ga]<;>omega
  unfold s3 at h;split at h
  .exact j _ _ h
  exact j _ _ h
 .unfold sk at h;split at h
  .cases h;simp only[s6];omega
  cases h
 .unfold th at h;split at h
  .cases h;simp only[amu,dO,cg];omega
  cases h
 unfold te at h;split at h
 .cases h;simp only[amu,dO,cg];omega
 cases h
def aat(g:bj F f)(k a b c:Int)(l o:Bool)(sg:Int):aL S 21 [.one (.p (eK F f)),jL k a b c l o sg] (sE F f k a b c l o sg):=by
 have v:=ae6 (F:=F) (f:=f) (a:=a) (b:=b) (c:=c) (l:=l) (o:=o) (sg:=sg) k;have j:=g.len;have E:=g.cr;unfold sE;cases H:fC F f k a b c l o sg with
 |false=>rw[H]at v;exact akN v
 |true=>
  rw[H]at v;rw[aD rfl];have n:∀L,mg F f k a.toNat b.toNat c.toNat l o sg=some L->I L<=1000000:=λL h=>by have:=ad0 h;omega
  have ne:=g.ne;have nW:¬I f=0:=by have:=gy.2 ne;omega
  unfold fC at H;by_cases N:k=1
  .subst N;simp only[Int.reduceEq,if_true,if_false,false_or,or_false,or_true,true_or,reduceIte,or_self]at H;simp only[cP,ke,c8]at H;obtain⟨rfl,rfl,rfl,m,rfl,rfl⟩:=H;obtain⟨A,rfl,u⟩:=jK m;simp only[js]at n |-;exact BR j E (k:=1) rfl aa ah v (aBr g u) n
  by_cases z:k=2
  .subst z;simp only[Int.reduceEq,if_true,if_false,false_or,or_false,or_true,true_or,reduceIte,or_self]at H;simp only[cP,uW,ke,c8,iJ]at H;obtain⟨rfl,rfl,rfl,m,iD,Mk,Mm,R⟩:=H;rcases m with m|⟨m,_⟩
   rotate_left
   .exact absurd m nW
   obtain⟨A,rfl,u⟩:=jK m;obtain⟨B,rfl⟩:=ns iD;obtain⟨cv,rfl⟩:=ns Mm;simp only[js]at n R |-;have:=vo (jq B) f;exact BR j E (k:=2) rfl aa ah v (anJ g u J (by simp only[aV]at R;omega)) n
  by_cases X:k=3
  .subst X;simp only[Int.reduceEq,if_true,if_false,false_or,or_false,or_true,true_or,reduceIte,or_self]at H;simp only[cP,ke,c8,iJ]at H;obtain⟨rfl,rfl,rfl,m,rfl,y,aw⟩:=H;obtain⟨A,rfl,u⟩:=jK m;obtain⟨B,rfl,x⟩:=jK y;simp only[js]at n |-;exact BR j E (k:=3) rfl aa ah v (aAS g u x) n
  by_cases D:k=4
  .subst D;simp only[Int.reduceEq,if_true,if_false,false_or,or_false,or_true,true_or,reduceIte,or_self]at H;simp only[cP,ke,c8]at H;obtain⟨rfl,rfl,rfl,m,rfl,rfl⟩:=H;obtain⟨A,rfl,u⟩:=jK m;simp only[js]at n |-;exact BR j E (k:=4) rfl aa ah v (azq g u) n
  by_cases Q:k=5
  .subst Q;simp only[Int.reduceEq,if_true,if_false,false_or,or_false,or_true,true_or,reduceIte,or_self]at H;simp only[cP,uW,ke,c8]at H;obtain⟨rfl,ae,m,rfl,rfl⟩:=H;obtain⟨A,rfl,u⟩:=jK m;simp only[js]at n |-;exact BR j E (k:=5) rfl aa ah v (atn g u) n
  by_cases Y:k=6
  .subst Y;simp only[Int.reduceEq,if_true,if_false,false_or,or_false,or_true,true_or,reduceIte,or_self]at H;simp only[cP,ke,c8,iJ]at H;obtain⟨rfl,rfl,rfl,m,rfl,y,aw⟩:=H;obtain⟨A,rfl,u⟩:=jK m;obtain⟨B,rfl,x⟩:=jK y;simp only[js]at n |-;exact BR j E (k:=6) rfl aa ah v (aCc g u x) n
  by_cases O:k=7
  .subst O;simp only[Int.reduceEq,if_true,if_false,false_or,or_false,or_true,true_or,reduceIte,or_self]at H;simp only[cP,ke,c8,mM]at H;obtain⟨rfl,m,rfl,y,aO⟩:=H;obtain⟨A,rfl,u⟩:=jK m;obtain⟨B,rfl,x⟩:=jK y;simp only[js]at n |-;exact BR j E (k:=7) rfl aa ah v (asn g u x J) n
  by_cases T:k=8
  .subst T;simp only[Int.reduceEq,if_true,if_false,false_or,or_false,or_true,true_or,reduceIte,or_self]at H;simp only[cP,ke,c8,iJ]at H;obtain⟨rfl,rfl,rfl,m,y,hz,_,_⟩:=H;obtain⟨A,rfl,u⟩:=jK m;obtain⟨B,rfl,x⟩:=jK y;obtain⟨cv,rfl,hc⟩:=jK hz;simp only[js]at n |-;exact BR j E (k:=8) rfl aa ah v (azV g u x hc) n
  by_cases Z:k=9
  .subst Z;simp only[Int.reduceEq,if_true,if_false,false_or,or_false,or_true,true_or,reduceIte,or_self]at H;simp only[cP,ke,c8]at H;obtain⟨rfl,rfl,rfl,m,rfl,rfl⟩:=H;obtain⟨A,rfl,u⟩:=jK m;simp only[js]at n |-;exact BR j E (k:=9) rfl aa ah v (apY g u) n
  by_cases M:k=10
  .subst M;simp only[Int.reduceEq,if_true,if_false,false_or,or_false,or_true,true_or,reduceIte,or_self]at H;simp only[cP,ke,c8]at H;obtain⟨rfl,rfl,rfl,m,rfl,rfl⟩:=H;obtain⟨A,rfl,u⟩:=jK m;simp only[js]at n |-;exact BR j E (k:=10) rfl aa ah v (ayr g u) n
  simp[N,z,X,D,Q,Y,O,T,Z,M]at H
def ao0(g:bj F f)(k a b c:Int)(l o:Bool)(sg:Int):aL S 7 [eU F f,jL k a b c l o sg] (sE F f k a b c l o sg):=aev (abm g) (aat g k a b c l o sg) avt
def OV(F:Nat)(k a b c:Int)(l o:Bool)(sg:Int):RV:=if fC F [] k a b c l o sg then mQ F (nq b.toNat)else oX 2
def ZY{k a b c:Int}{l o:Bool}{sg:Int}(h:fC F [] k a b c l o sg):∃B:Nat,k=2/\a=0/\b=(B:Int)/\B<=F/\c=0/\l=false/\o=false/\sg=0:=by
 have f:∀i:Int,l_ 0 i=false:=λi=>by unfold l_;simp
 unfold fC at h;by_cases H:k=2
 .subst H;simp only[if_true,ga,f,DC,cP,ke,c8,iJ]at h;obtain⟨rfl,rfl,rfl,⟨_,rfl⟩,m,M,n,j⟩:=h;obtain⟨B,rfl⟩:=ns m;have:aV [] ((B:Int).toNat)=0:=rfl;rw[this]at j;exact⟨B,rfl,rfl,rfl,J,J,rfl,rfl,rfl⟩
 simp[H,f]at h
def awn(j:F<=40)(k a b c:Int)(l o:Bool)(sg:Int):aL S 7 [eU F [],jL k a b c l o sg] (OV F k a b c l o sg):=by
 unfold OV;cases H:fC F [] k a b c l o sg with
 |false=>have h:=ae6 (F:=F) (f:=[]) (a:=a) (b:=b) (c:=c) (l:=l) (o:=o) (sg:=sg) k;rw[H]at h;exact aev (S1 j) (akN h) (.inl ⟨2,rfl⟩)
 |true=>obtain⟨B,rfl,rfl,rfl,m,rfl,rfl,rfl,rfl⟩:=ZY H;exact awT j m

structure dJ where
 k:Int
 a:Int
 b:Int
 c:Int
 l:Bool
 o:Bool
 s:Int
abbrev fM:=List dJ
def dJ.ps(m:dJ):dW:=[.int .i64 m.k,.int .i64 m.a,.int .i64 m.b,.int .i64 m.c,.bool m.l,.bool m.o,.int .i64 m.s]
abbrev Gq(ms:fM):PV:=.sl (ms.map dJ.ps)
def DG{M:fM}{k:Nat}{m:dJ}(h:M[k]?=some m):(M.map dJ.ps)[k]?=some m.ps:=by rw[fz,h];rfl
def EI(L:af)(c:bd)(blk:aJ):Prop:=bh 832256128 ml 6 (cX L) (.one c) blk\/bh 832512129 ml 6 (cX L) (.one c) blk\/(L=[]/\c=.p (.sl []))
def EI.snap{c:bd}{blk:aJ}(h:EI L c blk):∃r,Go.Abs.snap blk jl c=some (gC L,r):=by
 rcases h with h|h|⟨rfl,rfl⟩
 .obtain⟨r,H,_⟩:=h.jl;exact⟨r,H⟩
 .obtain⟨r,H,_⟩:=h.jl;exact⟨r,H⟩
 exact⟨[],rfl⟩
def ab2{f T Z:Nat}{E:dI}{c:bd}{x y z:PV}{blk:aJ}(h:bh f T Z E (.one c) blk):lM blk (.tup [.agg [.p x,c],.one (.p y),.one (.p z)])=some (.tup [.agg [.p x,cU T Z E],.one (.p y),.one (.p z)]):=by obtain⟨A,o,u,H,j⟩:=h.mH;cases u;have m:mH blk (.p x)=some (.p x,[],[]):=rfl;have v:mH blk (.p y)=some (.p y,[],[]):=rfl;have n:mH blk (.p z)=some (.p z,[],[]):=rfl;rcases j with rfl|rfl<;>simp[lM,v_,yX,qG,oV,H,m,v,n,qf,zl,vf,D7]
def EI.of_eq{c:bd}{blk ao:aJ}(h:EI L c blk)(H:ao 832256128=blk 832256128)(f:ao 832512129=blk 832512129):EI L c ao:=by
 rcases h with h|h|h
 .exact .inl (h.of_eq H)
 .exact .inr (.inl (h.of_eq f))
 exact .inr (.inr h)
def ajD{blk:aJ}{rd:aG}{s:Nat}{e:Int}{l:Bool}:fR blk rd s ((oX e).iA l)=some (.tup [.agg [.p (.int .i64 0),.p .nils],.one (.p (.int .i64 e))],[]):=by cases l<;>(unfold fR;rw[aD (.inr rfl)];rfl)
def Oj(f:Int)(L:af)(n:Int)(r:RV):Prop:=r=.tup [.agg [.p (.int .i64 f),cU ml 6 (cX L)],.one (.p (.int .i64 n)),.one (.p (.int .i64 0))]\/(L=[]/\r=.tup [.agg [.p (.int .i64 f),.p (.sl [])],.one (.p (.int .i64 n)),.one (.p (.int .i64 0))])
def XJ(r:RV):Prop:= ∃i e:Int,e≠0/\r=.tup [.agg [.p (.int .i64 0),.p .nils],.one (.p (.int .i64 i)),.one (.p (.int .i64 e))]
abbrev Cl(m:dJ):V:=jL m.k m.a m.b m.c m.l m.o m.s
def Ql(s:Nat)(L:af)(c:bd)(blk:aJ):Prop:=bh s ml 6 (cX L) (.one c) blk\/(L=[]/\c=.p (.sl []))
def Ql.snap{s:Nat}{c:bd}{blk:aJ}(h:Ql s L c blk):∃r,Go.Abs.snap blk jl c=some (gC L,r):=by
 rcases h with h|⟨rfl,rfl⟩
 .obtain⟨r,H,_⟩:=h.jl;exact⟨r,H⟩
 exact⟨[],rfl⟩
def Ql.of_eq{s:Nat}{c:bd}{blk ao:aJ}(h:Ql s L c blk)(H:ao s=blk s):Ql s L c ao:=by
 rcases h with h|h
 .exact .inl (h.of_eq H)
 exact .inr h
end
end Go.Abs
