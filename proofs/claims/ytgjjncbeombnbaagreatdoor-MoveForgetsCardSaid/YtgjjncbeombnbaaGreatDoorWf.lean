/- A part. -/
import Derived.Test.YtgjjncbeombnbaaGreatDoorWe
set_option linter.all false
open List renaming length->I
set_option maxRecDepth 100000
set_option maxHeartbeats 16000000
namespace Go.Abs
variable{n u f F:Nat}{m:dh}{j:af}
section
variable {h:Nat}
def adI{e:Nat}(h:e<n):(e+1)%n=if e+1=n then 0 else e+1:=by
 by_cases c:e+1=n
 .simp_all
 rw[ai c,eN J]
def afG{m:Nat}(h:m<n):(m+n-1)%n=if m=0 then n-1 else m-1:=by
 by_cases c:m=0
 .simp_all
 rw[ai c,show m+n-1=(m-1)+n by omega,mT,eN J]
def kU(f:h<=500000){e:Nat}(H:e<2*h)(c:e%2=0):aO (l_ h) (2*e)=4*h+2*e+1:=by rw[adq f H,adI H,ai (by grind),ai J,afG J,ai J];omega
def v2(f:h<=500000){e:Nat}(H:e<2*h)(c:e%2=1):∃q,q<2*h/\q%2=0/\(e+1<2*h->q=e+1)/\aO (l_ h) (2*e)=4*h+2*q:=by
 rw[adq f H,adI H];by_cases d:e+1=2*h
 .rw[an d];exact⟨0,J,rfl,J,rfl⟩
 rw[ai d,an J];exact⟨e+1,J,J,λ_=>rfl,rfl⟩
def v3(f:h<=500000){e:Nat}(H:e<2*h)(c:e%2=0):∃q,q<2*h/\q%2=1/\(1<=e->q=e-1)/\aO (l_ h) (2*e+1)=4*h+2*q+1:=by
 rw[ajF f H,an c,afG H];by_cases d:e=0
 .rw[an d];exact⟨2*h-1,J,J,J,rfl⟩
 rw[ai d];exact⟨e-1,J,J,λ_=>rfl,rfl⟩
def v4(f:h<=500000){e:Nat}(H:e<2*h)(c:e%2=1):aO (l_ h) (2*e+1)=4*h+2*e:=by rw[ajF f H,ai J]
end
def acr(L:aU):I (cL L)=I L:=by simp[cL,tA]
def C4(l x:aU)(k:Nat):I (ft l x k)=I l+I x:=by grind
section
def an5{al:bU}{blk:aG}{id:Nat}{c:a7}(o:m=[]\/al.ok id)(hl:I m<=1000000)(jk:∀e∈m,I e=7/\ ∀v∈e,v.norm=v)(h:a8 id u 7 m (.one c) blk):
  ∃v A,jG S 115 [.one c] al blk v A/\JW id u 7 m c blk v A:=by
 refine oX auN (jx rfl) ?_;rcases h with⟨rfl,H⟩|⟨aN,g,H,hC⟩
 .cases H;have Q:IntKind.i64.wrap (((0:Nat):Int)-1)= -1:=aa;have hz:¬((0:Int)< -1):=aa;simp only[go_sem,Yz,Q];refine df (λk f A=>k=0/\f 2=aE 0/\f 3=aE (-1)/\A=blk) 0 0 (ct _) ?_ ?_
  .simp only[go_sem]
  rintro k f A _ ⟨rfl,H,x,rfl⟩
  simp only[go_sem,OI,H,x,hz];exact⟨rfl,.inl ⟨rfl,rfl⟩,λ_ _=>rfl⟩
 cases H;have o:=o.resolve_left aN;have Q:=vB (a:=I m) J;simp only[go_sem,Yz,Q];refine df (λk f A=>f 0=.one (.hsl id g 7 0 (I m))/\f 2=aE k/\f 3=aE ((I m:Int)-1-(k:Int))/\ ∃fs,A id=(g,some (.arr u 7 fs))/\wB m fs k/\dL (· =id) blk A) 0 (I m) (bN _) ?_ ?_
 .simp only[go_sem];refine⟨rfl,aH,m,hC,wB.start m,dL.refl _ _⟩
 rintro k f A hk ⟨h0,H,x,fs,M,O,dE⟩
 by_cases aB:k<I m-1-k
 .have e1:((I m:Int)-1-(k:Int))=((I m-1-k:Nat):Int):=J;rw[e1]at x;have y:((k:Int)<((I m-1-k:Nat):Int)):=J;have w1:=cE (n:=k) J;have w2:IntKind.i64.wrap (((I m-1-k:Nat):Int)-1)=((I m:Int)-1-((k+1:Nat):Int)):=by
   rw[vB J];omega
  obtain⟨a,ha⟩:=aM (show k<I m by omega);obtain⟨b,Z⟩:=aM (show I m-1-k<I m by omega);obtain⟨fa,fb,yj⟩:=O.step aB ha Z;obtain⟨la,j⟩:=jk a (aX ha);obtain⟨lb,N⟩:=jk b (aX Z);obtain⟨x0,x1,x2,x3,x4,x5,x6,rfl⟩:=aga la;obtain⟨y0,y1,y2,y3,y4,y5,y6,rfl⟩:=aga lb;have Oc:=j x0 aH;have WC:=j x1 aH;have E:=j x2 aH;have z:=j x3 aH;have T:=j x4 aH;have D:=j x5 aH;have L:=j x6 aH;have Od:=N y0 aH;have WD:=N y1 aH;have F:=N y2 aH;have R:=N y3 aH;have X:=N y4 aH;have Y:=N y5 aH;have B:=N y6 aH;have qM:=O.len;have HL:¬(k=I m-1-k):=J;have ab:¬(I m-1-k=k):=J;have l1:k<I fs:=J;have l2:I m-1-k<I fs:=J
  have l3:k<I m:=J;have l4:I m-1-k<I m:=J;simp only[go_sem,OI,h0,H,x,M,y,fa,fb,w1,w2,o,l1,l3,l4,HL,Oc,WC,E,z,T,D,L,Od,WD,F,R,X,Y,B,pA];refine⟨aS,_,rfl,yj,?_⟩;exact(dE.dN rfl _).dN rfl _
 have y:¬((k:Int)<(I m:Int)-1-(k:Int)):=J;simp only[go_sem,OI,H,x,y];refine⟨rfl,?_,dE⟩;rw[O.done aB]at M;exact .inr ⟨by simpa using aN,g,by rw[qB],M⟩
def axv{Q:gX}{j:bj}{blk:aG}{os:fm}{d:dZ}{id z:Nat}{c:a7}(n:∀ {al:bU}{blk:aG},m=[]\/al.ok id->a8 id u z m (.one c) blk->∃v A,jG S f [.one c] al blk v A/\JW id u z m c blk v A)(H:a8 id u z m (.one c) blk)
  (B:∀A,a8 id u z m.reverse (.one c) A->(∀i,i≠id->A i=blk i)->jP S .all os Q (ef j d (.tup [])) A):jD S .all (.sc f [.one c]) d os Q j blk:=by
 refine wN (P:=JW id u z m c blk) Cp (n ?_ H) ?_
 .rcases Si H with⟨h,_⟩|h
  .exact .inl h
  exact .inr (BD (by simp[h]))
 rintro v A ⟨rfl,y,x⟩
 exact B A y x
abbrev nR(x k:Nat)(sg:Int)(ov:Bool):aK:=⟨⟨2,0,0,((x+k:Nat):Int),sg,ov⟩,false⟩
attribute [local go_sem ↓] Gr E8
abbrev S9(ls:af)(s t:Int)(o:Bool):aU:=[nR (au U.aq ls/2) 2 t o,nR (au U.aq ls/2) 1 s o]
abbrev nK(F:Nat)(ls:af)(d:Nat):Nat:=(kX F ls).getD d 0
abbrev ow(x:Nat)(sg:Int)(o:Bool):aU:=[nR x 1 sg o,nR x 2 (-sg) o]
abbrev l8(x:Nat)(sg:Int)(o same:Bool):aU:=if same then [nR x 2 (-sg) (!o),nR x 1 sg (!o)]else [nR x 1 sg (!o),nR x 2 (-sg) (!o)]
def sA(j:af)(A B:Nat)(l o h other:Bool):Option aU:=
 if !h&& !other then none
 else
  let sg:Int:=if o==(h==l)then 1 else -1
  let first:=ow (au U.aq j/2) sg o
  let f:=l8 (au U.aq j/2) sg o h
  some (if A<B then ft (ft (aA j) f B) first A else ft (ft (aA j) first A) f B)
def tj(F:Nat)(j:af)(A B:Nat)(l o:Bool):Option aU:=
 if l then sA j A B l o ((nK F j (2*B):Int)==(nK F j (2*A):Int)) ((nK F j (2*B+1):Int)==(nK F j (2*A):Int))
 else sA j A B l o ((nK F j (2*B+1):Int)==(nK F j (2*A+1):Int)) ((nK F j (2*B):Int)==(nK F j (2*A+1):Int))
def OR{d:Nat}(h:d<2*I j):(kX F j)[d]?=some (nK F j d):=by obtain⟨f,H⟩:=aM (h:=kX F j) (k:=d) (by rw[Gf];exact h);rw[nK,dz,H];rfl
def aor(g:a_ F j){y v:Nat}(ha:y<I j)(hb:v<I j)(dm:y≠v){k c:Int}{l o:Bool}{sg:Int}:
  aI S 75 [.one (.p (ez F j)),jM k y v c l o sg] (te (tj F j y v l o)):=by
 have a3:=g.len;have fj:=g.cr;have cA:=cZ j;have Cb:=Gf F j;have am:=qg (a:=y) J;have a0:=qg (a:=v) J;have aD:IntKind.i64.wrap (((2*y:Nat):Int)+0)=((2*y:Nat):Int):=(oL (x:=((2*y:Nat):Int)+0) J J).trans J;have aF:=cE (n:=2*y) J;have aj:IntKind.i64.wrap (((2*v:Nat):Int)+0)=((2*v:Nat):Int):=(oL (x:=((2*v:Nat):Int)+0) J J).trans J;have a1:=cE (n:=2*v) J;have az:IntKind.i64.wrap (((2*v+1:Nat):Int)-0)=((2*v+1:Nat):Int):=(oL (x:=((2*v+1:Nat):Int)-0) J J).trans J;have ag:IntKind.i64.wrap (((2*v+1:Nat):Int)-1)=((2*v:Nat):Int):=(oL (x:=((2*v+1:Nat):Int)-1) J J).trans J;have ac:2*y<I (kX F j):=J;have aL:2*y+1<I (kX F j):=J
 have ad:2*v<I (kX F j):=J;have ak:2*v+1<I (kX F j):=J;have ap:=iY (OR (F:=F) (j:=j) (d:=2*y) J);have aN:=iY (OR (F:=F) (j:=j) (d:=2*y+1) J);have ab:=iY (OR (F:=F) (j:=j) (d:=2*v) J);have ar:=iY (OR (F:=F) (j:=j) (d:=2*v+1) J);have fS:S.shared 115:=ah;have Ls:=λ(t:Int) ov a b c d e=>Qa F (au U.aq j/2) t ov a b c d e 1 J J;have Lt:=λ(t:Int) ov a b c d e=>Qa F (au U.aq j/2) t ov a b c d e 2 J J;simp only[show((1:Nat):Int)=1 from rfl,show((2:Nat):Int)=2 from rfl]at Ls Lt;have Z:IntKind.i64.wrap (0-1)= -1:=aa;have N:IntKind.i64.wrap (0 - -1)=1:=aa
 have Be:∀blk:aG,∀s,∀x1 x2 x3 x4 x5 x6 x7:PV,fR blk [] s ((RV.agg [.p x1,.p x2,.p x3,.p x4,.p x5,.p x6,.p x7]).ib (S.lone s))=some (.agg [.p x1,.p x2,.p x3,.p x4,.p x5,.p x6,.p x7],[]):=λblk s x1 x2 x3 x4 x5 x6 x7=>by cases S.lone s<;>rfl
 have wz:=And.intro aD (And.intro aF (And.intro aj (And.intro a1 (And.intro az (And.intro ag (And.intro am (And.intro a0 (And.intro ac (And.intro aL (And.intro ad (And.intro ak (And.intro ap (And.intro aN (And.intro ab ar))))))))))))));unfold tj;refine bR aoS ?_
 let X:=λeH t=>l8 (au U.aq j/2) (if o==(eH==l)then 1 else -1) o t
 let Y:=λeH=>ow (au U.aq j/2) (if o==(eH==l)then 1 else -1) o
 have hX:∀s t,I (X s t)=2:=λs t=>by simp only[X,l8];split<;>rfl
 by_cases NC:y<v
 case' pos=>
  have aB:(y:Int)<v:=J
  let A:=λeH=>X eH eH
  let B:=Y
  have M:∀s,I (A s)=2/\I (B s)=2:=λs=>⟨hX s s,rfl⟩
  let i:=v
  let a2:=y
  have hi:i<I j/\a2<I j:=⟨hb,ha⟩
 case' neg=>
  have aB:¬(y:Int)<v:=J
  let A:=Y
  let B:=λeH=>X eH eH
  have M:∀s,I (A s)=2/\I (B s)=2:=λs=>⟨rfl,hX s s⟩
  let i:=y
  let a2:=v
  have hi:i<I j/\a2<I j:=⟨ha,hb⟩
 all_goals cases l
 case' pos.false|neg.false=>generalize nK F j (2*y+1)=p at*;generalize nK F j (2*v+1)=q at*;generalize nK F j (2*v)=r at*
 case' pos.true|neg.true=>generalize nK F j (2*y)=p at*;generalize nK F j (2*v)=q at*;generalize nK F j (2*v+1)=r at*
 all_goals cases o
 all_goals
  simp only[go_sem,ZX,wz];refine⟨aS,aS,?_⟩;refine Ak [0,3,4,5,6,7,8,9,40] λe1 H=>?_;simp only[go_sem]at H;cases ae:((q:Int)==(p:Int))
  .cases ho:((r:Int)==(p:Int))
   .simp only[go_sem,wz,H,ae,ho,bne];first|rfl|exact aS|exact⟨aS,rfl⟩|exact⟨aS,aS,rfl⟩
   simp only[go_sem,wz,H,ae,ho,bne,sA,NC];refine⟨aS,?_⟩;simp only[go_sem,H,ae,US,pX (Ls _ _ _ _ _ _ _) (Be _ _ _ _ _ _ _ _ _),pX (Lt _ _ _ _ _ _ _) (Be _ _ _ _ _ _ _ _ _),Z,N,aB,Fb];refine⟨aS,aS,?_⟩;refine GN (Ge (aA j) (A false) i J J (by have:=M false;omega)) ah (.inr (sn (xm _))) λc1 cK kU g1 E zS=>?_;obtain⟨r1,WQ,j4⟩:=g1.iC;have O:=E 4800000000 aa;have R:=E 4800640704 aa;have Q:=E 4800704832 aa;simp only[go_sem]at O R Q;simp only[go_sem,H,O,R,Q,WQ,Fb];refine GN (Ge (ft (aA j) (A false) i) (B false) a2 (by rw[C4];omega) (by rw[C4];have:=M false;omega) (by have:=M false;omega)) ah (.inr (sn (xm _))) λc2 aZ v2 g2 bZ qT=>?_
   simp only[go_sem];refine⟨?_,tN g2⟩;rcases j4 with rfl|rfl<;>rcases zS with rfl|rfl<;>rcases qT with rfl|rfl<;>kernel_rfl
  simp only[go_sem,H,ae,sA,NC];refine⟨aS,?_⟩;simp only[go_sem,H,ae,US,pX (Ls _ _ _ _ _ _ _) (Be _ _ _ _ _ _ _ _ _),pX (Lt _ _ _ _ _ _ _) (Be _ _ _ _ _ _ _ _ _),Z,N,fS];refine⟨aS,aS,?_⟩;refine axv (f:=115) (m:=dB (X true false)) (id:=4800704832) (u:=lK) (z:=7) (λo h=>an5 o (by rw[show(dB (X true false)).length=2 from rfl];omega) (asN _) h) (.inr ⟨nofun,_,rfl,by simp only[ba,Nat.reduceEqDiff,if_true,if_false];rfl⟩) λa4 gY T=>?_;have L:=T 4800000000 aa;have D:=T 4800640704 aa;simp only[go_sem]at L D;rcases gY with⟨e,_⟩|⟨_,gg,e,zJ⟩
  .cases e
  cases e;simp only[X]at zJ;simp only[go_sem,H,L,D,zJ,aB,Fb,qB];refine GN (Ge (aA j) (A true) i J J (by have:=M true;omega)) ah (.inr (sn (xm _))) λc1 cK kU g1 E zS=>?_;obtain⟨r1,WQ,j4⟩:=g1.iC;have O:=E 4800000000 aa;have R:=E 4800640704 aa;have Q:=E 4800704832 aa;simp only[go_sem,L,D,zJ]at O R Q;simp only[go_sem,H,O,R,Q,WQ,Fb];refine GN (Ge (ft (aA j) (A true) i) (B true) a2 (by rw[C4];omega) (by rw[C4];have:=M true;omega) (by have:=M true;omega)) ah (.inr (sn (xm _))) λc2 aZ v2 g2 bZ qT=>?_;simp only[go_sem];refine⟨?_,tN g2⟩;rcases j4 with rfl|rfl<;>rcases zS with rfl|rfl<;>rcases qT with rfl|rfl<;>kernel_rfl
end



abbrev Kp:Prop:=aI S 22 [.one (.p (.sl []))] (.one (.p (.sl [])))
def apm{blk:aG}{s:Nat}{x:PV}{l:Bool}:fR blk [] s ((RV.one (.p x)).ib l)=some (.one (.p x),[]):=by cases l<;>rfl

def asS(x y:U):yt x y↔x=y:=by
 constructor
 .intro h;unfold yt at h;simp only[cN,cW]at h;obtain⟨m,f,u,j,n,H⟩:=h;cases x;cases y;simp only at m f u j n H;subst m f u j n H;rfl
 rintro rfl;exact G4 x

section
def eZ(F:Nat)(j:af)(k a b c:Int)(l o:Bool)(sg:Int):Bool:=
 if k=2 then !l&&(!o&&(sg==0&&((nk (I j) a||(I j==0&&a==0))&&(decide (0<=b)&&(decide (b<=(F:Int))&&(decide (0<=c)&&decide (c<=(aJ j b.toNat:Int))))))))
 else if k=3\/k=6 then !l&&(!o&&(sg==0&&(nk (I j) a&&(c==0&&(nk (I j) b&&decide (a<b))))))
 else if k=5 then !l&&((sg==1||sg== -1)&&(nk (I j) a&&(b==0&&c==0)))
 else if k=7 then sg==0&&(nk (I j) a&&(c==0&&(nk (I j) b&& !(a==b))))
 else if k=8 then !l&&(!o&&(sg==0&&(nk (I j) a&&(nk (I j) b&&(nk (I j) c&&(decide (a<b)&&decide (b<c)))))))
 else if k=1\/k=4\/k=9\/k=10 then !l&&(!o&&(sg==0&&(nk (I j) a&&(b==0&&c==0))))
 else false
def AF{x y:Int}(h:¬x=y):(x==y)=false/\(x !=y):=by simp[h]
attribute [local go_sem ↓] Gr E8
section
variable {F:Nat} {j:af} {a b c:Int} {l o:Bool} {sg:Int}
def BZ{k:Int}(H:k=1\/k=3\/k=4\/k=5\/k=6\/k=7\/k=8\/k=9\/k=10):aI S 44 [.one (.p (ez F j)),jM k a b c l o sg] (eh (eZ F j k a b c l o sg)):=by
 unfold eZ;rcases H with rfl|rfl|rfl|rfl|rfl|rfl|rfl|rfl|rfl
 all_goals
  simp only[Int.reduceEq,if_true,if_false,or_false,or_true,or_self];refine bR RA ?_;simp only[go_sem,Nk,cZ,bne,Bool.false_beq,Bool.true_beq];refine yG [0,3,4,5,6,7,8,9,10,41,60] λE h=>?_;simp only[go_sem]at h;repeat' ((first|apply abn|apply aje|apply aeM|apply aaI|apply Un|apply ai3)<;>intro f<;>simp only[go_sem, *,I6,eU (Mg a _),eU (Mg b _),eU (Mg c _),bne,Bool.false_beq,Bool.true_beq])
  all_goals(first|done|exact aS|exact⟨aS,rfl⟩|rfl|(rw[eq_of_beq f];rfl))
end
end
section
attribute [local go_sem ↓] Gr E8
def aeD{i:Int}{x:Bool}(h:nk (I j) i=x):aI S 68 [aE i,.one (.p (.box [.int .i64 (I j)]))] (eh x):=h▸Mg i (I j)
def Yx{x:Int}(h:¬x=0):(x==0)=false/\(x !=0):=by simp[h]
section
variable {F:Nat} {j:af} {a b c:Int} {l o:Bool} {sg:Int}
def are:aI S 44 [.one (.p (ez F j)),jM 2 a b c l o sg] (eh (eZ F j 2 a b c l o sg)):=by
 obtain⟨v,hv⟩:∃v,eZ F j 2 a b c l o sg=v:=⟨_,rfl⟩;rw[hv];refine bR RA ?_;simp only[go_sem,Nk,cZ];refine yG [0,3,4,5,6,7,8,9,10,41] λe1 D=>?_;simp only[go_sem]at D;cases l with
 |true=>
  obtain rfl:v=false:=by rw[<-hv];simp[eZ]
  simp only[go_sem,D]
 |false=>
  simp only[go_sem,D];refine yG [0,3,4,5,6,7,8,9,10,53] λe2 E=>?_;simp only[go_sem,D]at E;cases o with
  |true=>
   obtain rfl:v=false:=by rw[<-hv];simp[eZ]
   simp only[go_sem,E]
  |false=>
   simp only[go_sem,E];refine yG [0,3,4,5,6,7,8,9,10,60] λe3 N=>?_;simp only[go_sem,E]at N;by_cases ae:sg=0
   rotate_left
   .have j6:=(Yx ae).1;have iW:=(Yx ae).2;obtain rfl:v=false:=by rw[<-hv];simp[eZ,ae]
    simp only[go_sem,N,iW]
   subst ae;cases L:nk (I j) a with
   |true=>
    have b_:=aeD L;simp only[go_sem,I6,N,ss b_];refine Ak [0,3,4,6,7,9,92] λe4 M=>?_;simp only[go_sem,N]at M;by_cases T:0<=b
    rotate_left
    .obtain rfl:v=false:=by rw[<-hv];simp[eZ,L,T]
     simp only[go_sem,M,T];exact aS
    simp only[go_sem,M,T];refine Ak [0,3,4,6,7,9,101] λe5 m=>?_;simp only[go_sem,M]at m;by_cases f:b<=(F:Int)
    rotate_left
    .obtain rfl:v=false:=by rw[<-hv];simp[eZ,L,T,f]
     simp only[go_sem,m,f];exact aS
    obtain⟨B,rfl⟩:=lB T;have O:B<=F:=J;have Q:=iY (Ey (h:=j) O);have h5:B<F+1:=J;have h6:I (gb j F)=F+1:=by simp[gb]
    simp only[go_sem,m,f];refine Ak [0,3,4,6,7,9,106] λe6 n=>?_;simp only[go_sem,m]at n;by_cases y:0<=c
    rotate_left
    .obtain rfl:v=false:=by rw[<-hv];simp[eZ,L,T,f,y]
     simp only[go_sem,n,y];exact aS
    by_cases z:c<=(aJ j B:Int)
    rotate_left
    .obtain rfl:v=false:=by rw[<-hv];simp[eZ,L,T,f,y,z]
     simp only[go_sem,Q,n,y,z];exact aS
    obtain rfl:v:=by rw[<-hv];simp[eZ,L,T,f,y,z]
    simp only[go_sem,Q,n,y,z];exact aS
   |false=>
    have b_:=aeD L;by_cases H:I j=0
    rotate_left
    .have Y:((I j:Int)==0)=false:=beq_false_of_ne J;have X:j≠[]:=λh=>H (by rw[h];rfl);obtain rfl:v=false:=by rw[<-hv];simp[eZ,L,H]
     simp only[go_sem,I6,N,ss b_,Y];exact aS
    have Y:((I j:Int)==0):=by rw[H];rfl
    have X:=Ho.mp H;by_cases R:a=0
    rotate_left
    .have Z:=(Yx R).1;obtain rfl:v=false:=by rw[<-hv];simp[eZ,X,R,show nk 0 a=false by rw[<-H];exact L]
     simp only[go_sem,I6,N,ss b_,Y,Z];exact aS
    subst R;simp only[go_sem,I6,N,ss b_,Y];refine Ak [0,3,4,6,7,9,92] λe7 A=>?_;simp only[go_sem,N]at A;by_cases T:0<=b
    rotate_left
    .obtain rfl:v=false:=by rw[<-hv];simp[eZ,H,T]
     simp only[go_sem,A,T];exact aS
    simp only[go_sem,A,T];refine Ak [0,3,4,6,7,9,101] λe8 u=>?_;simp only[go_sem,A]at u;by_cases f:b<=(F:Int)
    rotate_left
    .obtain rfl:v=false:=by rw[<-hv];simp[eZ,H,T,f]
     simp only[go_sem,u,f];exact aS
    obtain⟨B,rfl⟩:=lB T;have O:B<=F:=J;have Q:=iY (Ey (h:=j) O);have h5:B<F+1:=J;have h6:I (gb j F)=F+1:=by simp[gb]
    simp only[go_sem,u,f];refine Ak [0,3,4,6,7,9,106] λe9 x=>?_;simp only[go_sem,u]at x;by_cases y:0<=c
    rotate_left
    .obtain rfl:v=false:=by rw[<-hv];simp[eZ,H,T,f,y]
     simp only[go_sem,x,y];exact aS
    by_cases z:c<=(aJ j B:Int)
    rotate_left
    .obtain rfl:v=false:=by rw[<-hv];simp[eZ,H,T,f,y,z]
     simp only[go_sem,Q,x,y,z];exact aS
    obtain rfl:v:=by rw[<-hv];simp[eZ,H,T,f,y,z]
    simp only[go_sem,Q,x,y,z];exact aS
def ag6(k:Int):aI S 44 [.one (.p (ez F j)),jM k a b c l o sg] (eh (eZ F j k a b c l o sg)):=by
 by_cases u:k=1
 .subst u;exact BZ aa
 by_cases m:k=2
 .subst m;exact are
 by_cases y:k=3
 .subst y;exact BZ aa
 by_cases n:k=4
 .subst n;exact BZ aa
 by_cases x:k=5
 .subst x;exact BZ aa
 by_cases h:k=6
 .subst h;exact BZ aa
 by_cases v:k=7
 .subst v;exact BZ aa
 by_cases f:k=8
 .subst f;exact BZ aa
 by_cases H:k=9
 .subst H;exact BZ aa
 by_cases z:k=10
 .subst z;exact BZ aa
 rw[show eZ F j k a b c l o sg=false by simp[eZ,u,m,y,n,x,h,v,f,H,z]];have E:=(AF x).1;have A:=(AF h).1;have B:=(AF v).1;have D:=(AF f).1;have L:=(AF H).1;refine bR RA ?_;simp only[go_sem,Nk,cZ,(AF u).1,(AF m).1,(AF y).1,(AF n).1,E,A,B,D,L,(AF z).1]
end
end
abbrev Td:dY:=[.p .xx,.p (.fn 69 [] []),.p (.fn 70 [] []),.p (.fn 71 [] []),.p (.fn 72 [] []),.p (.fn 73 [] []),.p (.fn 74 [] []),.p (.fn 75 [] []),.p (.fn 76 [] []),.p (.fn 77 [] []),.p (.fn 77 [] [])]
def akf(k:Int):0<=(gK k).1/\(gK k).1<=4/\0<=(gK k).2/\(gK k).2<=2:=by
 unfold gK;split
 .simp
 split
 .simp
 split<;>simp
def Ao(X:I j<=400)(fj:au U.aq j<=200){k:Nat}{v:dY}(O:Td.drop k=.p (.fn f [] [])::v)(sP:k<11)(KF:S.shared f=false){a b c:Int}{l o:Bool}{sg:Int}{R:Option aU}(ha:aI S 44 [.one (.p (ez F j)),jM k a b c l o sg] (eh true))(hm:aI S f [.one (.p (ez F j)),jM k a b c l o sg] (te R))(hL:∀L,R=some L->I L<=1000000):
  aI S 20 [.one (.p (ez F j)),jM k a b c l o sg] (sH F j k R):=by
 have sM:=aiv F;have u:=aim k;have nU:S.lone 1280192384=false:=ah;have qt:S.lone 1280576128=false:=ah;have Ky:∀(blk:aG),fR blk [] 1280192000 ((RV.agg [.p .xx,.p (.fn 69 [] []),.p (.fn 70 [] []),.p (.fn 71 [] []),.p (.fn 72 [] []),.p (.fn 73 [] []),.p (.fn 74 [] []),.p (.fn 75 [] []),.p (.fn 76 [] []),.p (.fn 77 [] []),.p (.fn 77 [] [])]).ib (S.lone 1280192000))=some (.agg Td,[]):=λblk=>by cases S.lone 1280192000<;>rfl
 have cA:=cZ j;obtain⟨g1,Q,g3,Y⟩:=akf k;have m:∀blk:aG,fR blk [] 1280384128 ((RV.tup [.one (.p (.int .i64 (gK k).1)),.one (.p (.int .i64 (gK k).2))]).ib (S.lone 1280384128))=some (.tup [.one (.p (.int .i64 (gK k).1)),.one (.p (.int .i64 (gK k).2))],[]):=λblk=>jg;obtain⟨Nt,Nu,zN⟩:∃x y,gK k=(x,y):=⟨_,_,rfl⟩;have d4:sH F j k none=oI 4:=rfl;have T:∀L,((400:Int)<(I j:Int)+Nt\/(100:Int)<((au U.aq j/2:Nat):Int)+Nu)->sH F j k (some L)=oI 7:=λL h=>by unfold sH;rw[zN];exact an h
 have d0:∀L,¬((400:Int)<(I j:Int)+Nt\/(100:Int)<((au U.aq j/2:Nat):Int)+Nu)->sH F j k (some L)=mz F (cL L):=λL h=>by unfold sH;rw[zN];exact ai h
 rw[zN]at g1 Q g3 Y u;simp only[zN]at m;simp only at g1 Q g3 Y m u;have E:IntKind.i64.wrap ((I (aA j):Int)+Nt)=(I j:Int)+Nt:=by rw[cA];exact oL J J
 have w2:IntKind.i64.wrap (((au U.aq j/2:Nat):Int)+Nu)=((au U.aq j/2:Nat):Int)+Nu:=oL J J;unfold te at hm;generalize Td=kg at O Ky;refine bR Yo ?_;simp only[go_sem,i20,Zp,eU ha,aan,pX adD (Ky _),O,sP,KF];refine ai7 hm nU λcc cK w Z N D=>?_;have A:=N 1280000000 aa;have B:=N 1280000064 aa;simp only[go_sem]at A B;cases R with
 |none=>rw[d4];simp only[go_sem,B];refine⟨?_,rfl⟩;rcases D with rfl|rfl<;>kernel_rfl
 |some L=>
  simp only[nm]at Z;have n:=sM L (hL L rfl) (.sl (dB (aA j))) (.sl (qO (fB F j))) (.sl (bt (kX F j))) (.int .i64 (au U.aw j:Nat)) (.int .i64 ((au U.aq j/2:Nat):Int)) (.sl (bt (gb j F)));obtain⟨rs,vY,_⟩:=Z.iC;by_cases H:(400:Int)<(I j:Int)+Nt
  .rw[T L (.inl H)];simp only[go_sem,A,B,JQ,dJ u (m _),E,H];refine⟨?_,rfl⟩;rcases D with rfl|rfl<;>kernel_rfl
  by_cases z:(100:Int)<((au U.aq j/2:Nat):Int)+Nu
  .rw[T L (.inr z)];simp only[go_sem,A,B,JQ,dJ u (m _),E,w2,H,z];refine⟨?_,rfl⟩;rcases D with rfl|rfl<;>kernel_rfl
  rw[d0 L (by rintro(h|h);exact H h;exact z h)];simp only[go_sem,A,JQ,dJ u (m _),E,w2,H,z,vY,adm];refine⟨?_,?_⟩
  .rcases D with rfl|rfl<;>kernel_rfl
  refine No n qt rfl (Nd _) λc2 aZ sI bZ=>?_;have M:=(bZ 1280000064 aa).trans B;simp only[go_sem,M];exact Mz (sI.of_eq (cF aa))
def ajP{k a b c:Int}{l o:Bool}{sg:Int}(h:aI S 44 [.one (.p (ez F j)),jM k a b c l o sg] (eh false)):aI S 20 [.one (.p (ez F j)),jM k a b c l o sg] (oI 2):=by refine bR Yo ?_;simp only[go_sem,i20,Zp,eU h];try rfl
end Go.Abs
