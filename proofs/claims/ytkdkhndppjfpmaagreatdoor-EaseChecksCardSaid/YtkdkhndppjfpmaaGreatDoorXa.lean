/-
  EaseChecks: for all codes and every certificate the call returns true and the arguments read as they did. It holds for every input that the row speaks of; the tables that the row lists hold what the text lays.
-/
import Derived.Test.YtkdkhndppjfpmaaGreatDoorDe
import Derived.Test.YtkdkhndppjfpmaaGreatDoorOa
import Derived.Test.YtkdkhndppjfpmaaGreatDoorTie
import Derived.Deep.DeepHandedRow
import Derived.Deep.DeepLaidRun
import Derived.Stop.LaidErr
import Derived.Test.YtkdkhndppjfpmaaGreatDoorSb
import Derived.Test.YtkdkhndppjfpmaaGreatDoorTa
import Derived.Test.YtkdkhndppjfpmaaGreatDoorFa
import Derived.Test.YtkdkhndppjfpmaaGreatDoorGa
set_option linter.all false
open List renaming length->I
set_option maxRecDepth 100000
set_option maxHeartbeats 16000000
namespace Go.Abs
variable{L X h A B:ai}{m:lD}{f g:Int}
section
variable{F:Nat}
theorem asd(f:Int)(A B:ai)(hA:I A<=1000000)(hB:I B<=1000000):aK S 50 [c_ f A,c_ f B] (cO (decide (A=B))):=by
 by_cases hl:I A=I B
 .have N:((I A:Int)!=(I B:Int))=false:=by rw[hl];simp
  refine bj af5 ?_;simp only[go_sem,abL,N,af,ao];refine dy (λk j aj=>j 2=.one (.bm 3200000000 1 0)/\j 3=.one (.bm 3200000064 1 0)/\j 5=aH k/\aj 3200000000=(1,some (.var (qg f A)))/\aj 3200000064=(1,some (.var (qg f B)))/\A.take k=B.take k) 0 (I A) (cG _) ?_ ?_
  .simp only[go_sem];first|done|rfl
  rintro k j aj Z ⟨u,D,O,b0,m,z⟩
  by_cases F:k<I A
  .have X:((k:Int)<(I A:Int)):=J;have v:k<I B:=J;have R:=cN (n:=k) J;obtain⟨x,L⟩:=aT F;obtain⟨y,g⟩:=aT v;have T:=gb L;have H:=gb g;have E:=C0 x y;cases h:my x y with
   |true=>
    rw[h]at E;have Y:=(alo x y).1 h;have M:A.take (k+1)=B.take (k+1):=by rw[jT,jT,z,L,g,Y]
    simp only[go_sem,VG,u,D,O,b0,m,F,X,v,T,H,aa.ps,R,E,bne,af,ao];first|done|exact aA|exact⟨aA,rfl⟩|exact⟨aA,M⟩|exact⟨aA,rfl,M⟩|exact⟨M,aA⟩|trace_state
   |false=>
    rw[h]at E;have Q:decide (A=B)=false:=nr λe=>by subst e;rw[L]at g;cases g;rw[zx]at h;cases h
    rw[Q];simp only[go_sem,VG,u,D,O,b0,m,F,X,v,T,H,aa.ps,R,E,bne,af,ao];first|done|exact aA|exact⟨aA,rfl⟩|trace_state
  have:k=I A:=J;subst this;have h:decide (A=B)=true:=pA (by rw[fx (c3 _),fx J]at z;exact z);rw[h];simp only[go_sem,VG,adU,u,D,O,b0,m,eR,af,ao];first|done|rfl
 have N:((I A:Int)!=(I B:Int)):=by simp;omega
 have Q:decide (A=B)=false:=nr λe=>hl (by rw[e]);rw[Q];refine bj af5 ?_;simp only[go_sem,abL,N,af,ao];first|done|rfl
def Qs(F:Nat)(h:ai)(m:kN):Prop:=
 (∃v,aK S 42 [c_ F h,GK m] (ja v)/\(v=0↔ ∃X,nD F h m=some X))/\ ∀X,nD F h m=some X->aK S 43 [c_ F h,GK m] (.agg [.p (.int .i64 F),cF eo 6 (bP X)])
section
variable {F:Nat} {h:ai}
theorem aDz(g:cE F h):∀x∈h,-1000000<=x.ay/\x.ay<=1000000:=λx f=>by obtain⟨i,H⟩:=j9 f;exact Hh g ⟨x,km h i⟩ (bR (oJ H))
theorem azk(g:cE F h):∀x∈h,-1000000<=x.id/\x.id<=1000000:=λx f=>by obtain⟨i,H⟩:=j9 f;exact acK g ⟨x,km h i⟩ (bR (oJ H))
theorem aby(g:cE F h){d:Nat}(f:d<2*I h):(dF F h d).places.length<=1000000:=by obtain⟨w,j,m⟩:=dY.1 (Gr (F:=F) f);obtain⟨_,A,Q⟩:=yh g.ok w j;have n:=(Xe g.ok Q (I w) (c3 _)).2.1;rw[aab,m]at n;have H:=g.len;have E:=g.fing;have v:I (aE h)<=I h:=sF h (I h);have u:I w*(2*F+2)<=1600*82:=Uv (by unfold bt at A;omega) J;omega
theorem Fe(g:cE F h)(E:I h<=120){k a b c:Int}{l o:Bool}{sg:Int}{p:Bool}{D:dS}(m:dh F h k a b c l o sg)
  (pw:aK S 104 [kQ F h,ep k a b c l o sg] (cO (!dh F h k a b c l o sg))) (A:aK S 105 [kQ F h,ep k a b c l o sg] (cO p))
  (x:(og F h k a.toNat b.toNat c.toNat l o sg).isSome=p/\ ∀M,og F h k a.toNat b.toNat c.toNat l o sg=some M->gH M L D) (pr:aK S 43 [c_ F h,ep k a b c l o sg] (sI F L D)):Qs F h ⟨k,a,b,c,l,o,sg⟩:=by
 rw[m]at pw;have v:=agr g (T_ g.len pw λ_=>A);have Q:an aa.aB h<=I h:=o7 _ _;have B:h≠[]:=λe=>by have:=g.pos;rw[e]at this;simp at this
 obtain⟨z,u⟩:=x;have y:¬((400:Int)<(I h:Int)+(iK k).1\/(100:Int)<((an aa.aB h/2:Nat):Int)+(iK k).2):=by
  unfold iK;repeat' split
  all_goals simp only
  all_goals omega
 have n:(decide (400<(Hy (I h:Int) ((an aa.aB h/2:Nat):Int) k).1)||decide (100<(Hy (I h:Int) ((an aa.aB h/2:Nat):Int) k).2))=false:=by
  unfold Hy;repeat' split
  all_goals(simp only[II,decide_eq_false_iff_not];omega)
 have j:nD F h ⟨k,a,b,c,l,o,sg⟩=(og F h k a.toNat b.toNat c.toNat l o sg).map oF:=by
  unfold nD;rw[aC B,aD m];dsimp only;cases og F h k a.toNat b.toNat c.toNat l o sg with
  |none=>rfl
  |some M=>dsimp only;rw[aC y];rfl
 refine⟨⟨_,v,?_⟩,λX H=>?_⟩
 .rw[j,<-z];unfold Mw;rw[n];cases og F h k a.toNat b.toNat c.toNat l o sg with
  |none=>simp
  |some M=>simp
 rw[j]at H;cases f:og F h k a.toNat b.toNat c.toNat l o sg with
 |none=>rw[f]at H;cases H
 |some M=>rw[f]at H;cases H;rw[(u M f).fin];exact pr
theorem aqs(g:cE F h){k a b c:Int}{l o:Bool}{sg:Int}(f:dh F h k a b c l o sg=false)(pw:aK S 104 [kQ F h,ep k a b c l o sg] (cO (!dh F h k a b c l o sg))):Qs F h ⟨k,a,b,c,l,o,sg⟩:=by
 have A:h≠[]:=λe=>by have:=g.pos;rw[e]at this;simp at this
 rw[f]at pw;have m:=agr g (T_ (p:=false) g.len pw (λn=>by cases n));have j:nD F h ⟨k,a,b,c,l,o,sg⟩=none:=by unfold nD;rw[aC A];dsimp only;rw[f];rfl
 refine⟨⟨_,m,?_⟩,λX H=>by rw[j]at H;cases H⟩;rw[j];unfold Mw;simp
theorem aef(hl:I h<=1000000){k:Int}(H:vi k)(a b c:Int)(l o:Bool)(sg:Int):aK S 104 [kQ F h,ep k a b c l o sg] (cO (!dh F h k a b c l o sg)):=by
 unfold vi at H;rw[c6,iI,iI]at H;rcases(by omega:k=1\/k=2\/k=3\/k=4\/k=5\/k=6\/k=7\/k=8)with rfl|rfl|rfl|rfl|rfl|rfl|rfl|rfl
 .exact aoI hl
 .exact aqG hl
 .exact ay8 hl
 .exact aqk hl
 .exact axh hl
 .exact aqI hl
 .exact aos hl
 exact axP hl
theorem aq6(g:cE F h)(n:I h<=120){k:Int}(E:vi k)(a b c:Int)(l o:Bool)(sg:Int):Qs F h ⟨k,a,b,c,l,o,sg⟩:=by
 have hl:=g.len;have Y:=aDz g;have N:=azk g;have En:=g.fing;have z:∀x∈h,∀k:Nat,k<=4->IntKind.i64.wrap (x.id-(k:Int))=x.id-k:=λx j k E=>by have:=N x j;exact kA J J
 have y:∀(d:Int),-10<=d->d<=10->∀x∈h,IntKind.i64.wrap (x.ay-d)=x.ay-d:=λd Q O x j=>by have:=Y x j;exact kA J J
 have pw:=aef (F:=F) (h:=h) J E a b c l o sg;cases f:dh F h k a b c l o sg with
 |false=>exact aqs g f pw
 |true=>
  have u:=f;unfold dh at f;unfold vi at E;rw[c6,iI,iI]at E;by_cases Q:k=1
  .subst Q;simp only[Int.reduceEq,if_true,if_false,false_or,or_false,or_true,true_or,reduceIte,or_self]at f;simp only[c6,jf,dk]at f;obtain⟨rfl,rfl,rfl,j,rfl,rfl⟩:=f;obtain⟨A,rfl,H⟩:=jL j;exact Fe g n u pw (aqJ g H (Ut g H) (Ut g (Dm H))) (axI g H) (aq3 g A 0 0 false false 0 H hl (y 2 U U))
  by_cases O:k=2
  .subst O;simp only[Int.reduceEq,if_true,if_false,false_or,or_false,or_true,true_or,reduceIte,or_self]at f;simp only[c6,pB,jf,dk,iI]at f;obtain⟨rfl,rfl,rfl,j,fX,Jy,zV,qy⟩:=f;rcases j with j|⟨j,_⟩
   rotate_left
   .exact absurd j (by have:=g.pos;omega)
   obtain⟨A,rfl,H⟩:=jL j;obtain⟨B,rfl⟩:=o_ fX;obtain⟨D,rfl⟩:=o_ zV;have R:D<=1000:=by have:=o7 (oQ B) h;simp only[bU,nP]at qy;omega
   exact Fe g n u pw (azC g H (aby g J) (aby g J)) (aqV g H) (ayW g A B D false false 0 H R hl (y (-2) U U) (aby g J))
  by_cases h3:k=3
  .subst h3;simp only[Int.reduceEq,if_true,if_false,false_or,or_false,or_true,true_or,reduceIte,or_self]at f;simp only[c6,jf,dk,iI]at f;obtain⟨rfl,rfl,rfl,j,rfl,v,X⟩:=f;obtain⟨A,rfl,H⟩:=jL j;obtain⟨B,rfl,m⟩:=jL v;exact Fe g n u pw (aBT g H m) (ayt g H m J) (ayk g A B 0 false false 0 H m g.two hl)
  by_cases Z:k=4
  .subst Z;simp only[Int.reduceEq,if_true,if_false,false_or,or_false,or_true,true_or,reduceIte,or_self]at f;simp only[c6,jf,dk]at f;obtain⟨rfl,rfl,rfl,j,rfl,rfl⟩:=f;obtain⟨A,rfl,H⟩:=jL j;exact Fe g n u pw (aBK g H) (aAk g H) (avG g A 0 0 false false 0 (jx H) hl z)
  by_cases h5:k=5
  .subst h5;simp only[Int.reduceEq,if_true,if_false,false_or,or_false,or_true,true_or,reduceIte,or_self]at f;simp only[c6,pB,jf,dk]at f;obtain⟨rfl,_,j,rfl,rfl⟩:=f;obtain⟨A,rfl,H⟩:=jL j;exact Fe g n u pw asJ ⟨rfl,λM T=>by cases T;exact awX A sg o⟩ (atn g A 0 0 false o sg H hl)
  by_cases h6:k=6
  .subst h6;simp only[Int.reduceEq,if_true,if_false,false_or,or_false,or_true,true_or,reduceIte,or_self]at f;simp only[c6,jf,dk,iI]at f;obtain⟨rfl,rfl,rfl,j,rfl,v,X⟩:=f;obtain⟨A,rfl,H⟩:=jL j;obtain⟨B,rfl,m⟩:=jL v;exact Fe g n u pw (aCe g H m) (ayF g H m) (asH g A B 0 false false 0 H m hl z)
  by_cases h7:k=7
  .subst h7;simp only[Int.reduceEq,if_true,if_false,false_or,or_false,or_true,true_or,reduceIte,or_self]at f;simp only[c6,jf,dk,sK]at f;obtain⟨rfl,j,rfl,v,aO⟩:=f;obtain⟨A,rfl,H⟩:=jL j;obtain⟨B,rfl,m⟩:=jL v;exact Fe g n u pw (azs g H m) (ape g H m J l o) (aoz g A B 0 l o 0 H m hl)
  by_cases h8:k=8
  .subst h8;simp only[Int.reduceEq,if_true,if_false,false_or,or_false,or_true,true_or,reduceIte,or_self]at f;simp only[c6,jf,dk,iI]at f;obtain⟨rfl,rfl,rfl,j,v,hz,_,_⟩:=f;obtain⟨A,rfl,H⟩:=jL j;obtain⟨B,rfl,m⟩:=jL v;obtain⟨D,rfl,L⟩:=jL hz;exact Fe g n u pw (aok g H m L) (aoD g H m L) (aoR g A B D false false 0 H m L g.two hl)
  omega
theorem azD{k:Int}(m:vi k)(a b c:Int)(l o:Bool)(sg:Int):Qs F [] ⟨k,a,b,c,l,o,sg⟩:=by
 have pw:=aef (F:=F) (h:=[]) (cG _) m a b c l o sg;cases f:dh F [] k a b c l o sg with
 |false=>
  rw[f]at pw;have g:=ah0 (T_ (h:=[]) (p:=false) (cG _) pw (λu=>by cases u));have j:nD F [] ⟨k,a,b,c,l,o,sg⟩=none:=by unfold nD;rw[aD rfl];dsimp only;rw[f];rfl
  refine⟨⟨_,g,?_⟩,λX H=>by rw[j]at H;cases H⟩;rw[j];unfold Mw;simp
 |true=>
  rw[f]at pw;have j:nD F [] ⟨k,a,b,c,l,o,sg⟩=some (CY b.toNat):=by unfold nD;rw[aD rfl];dsimp only;rw[f];rfl
  obtain⟨B,rfl,rfl,rfl,n,rfl,rfl,rfl,rfl⟩:=abe f;have g:=ah0 (T_ (h:=[]) (cG _) pw λ_=>aqx);have pr:=awb (F:=F) 0 B 0 false false 0 U;refine⟨⟨_,g,?_⟩,λX H=>?_⟩
  .rw[j];simp[Mw,Hy]
  rw[j]at H;cases H;exact pr
theorem ax3(f:de (F:Int) h=0)(hl:I h<=120){m:kN}(H:vi m.k):Qs F h m:=by
 by_cases A:h=[]
 .subst A;exact azD H m.a m.b m.c m.l m.o m.s
 obtain⟨G,e,g⟩:=EM f A;have:F=G:=J;subst this;exact aq6 g hl H m.a m.b m.c m.l m.o m.s
end
theorem arR(h:de (F:Int) L=0):L=[]\/cE F L:=by
 by_cases A:L=[]
 .exact .inl A
 obtain⟨G,e,g⟩:=EM h A;have:F=G:=J;subst this;exact .inr g
theorem Sg(p:lD)(hp:I p<=1000000):aK S 18 [.one (.p (mA p))] (cO (oV p)):=by
 have g:I (p.map kN.ps)=I p:=cY ..;generalize F:oV p=r;refine bj aAu ?_;simp only[go_sem,amx];refine dy (λk u aj=>u 0=.one (.p (mA p))/\u 3=aH k/\oV (p.drop k)=r) 0 (I p) (cG _) ⟨rfl,rfl,F⟩ ?_;rintro k u aj M ⟨H,f,h⟩
 by_cases A:k<I p
 .have v:((k:Int)<(I p:Int)):=J;obtain⟨m,z⟩:=aT A;have R:=K6 z;have j:=cN (n:=k) J;have B:p.drop k=m::p.drop (k+1):=by
   obtain⟨L,D⟩:=cn.1 z;rw[Kz L,D]
  have ae:oV (m::p.drop (k+1))=(vi m.k&&oV (p.drop (k+1))):=rfl;rw[B,ae]at h;unfold vi at h;by_cases y:m.k<1
  .have E:decide (1<=m.k)=false:=nr J;rw[E,zq,zq]at h;subst h;simp only[go_sem,NU,H,f,g,A,v,R,kN.ps,y,j];first|done|rfl|trace_state
  have E:decide (1<=m.k)=true:=pA J;by_cases Y:8<m.k
  .have x:decide (m.k<9)=false:=nr J;rw[E,x,sf,zq]at h;subst h;simp only[go_sem,NU,H,f,g,A,v,R,kN.ps,y,Y,j];first|done|rfl|trace_state
  have x:decide (m.k<9)=true:=pA J;rw[E,x,sf,sf]at h;simp only[go_sem,NU,H,f,g,A,v,R,kN.ps,y,Y,j];first|done|exact h|exact⟨A,h⟩|trace_state
 have:k=I p:=J;subst this;rw[K7]at h;have h:true=r:=h;subst h;simp only[go_sem,NU,alb,H,f,g,eR];first|done|rfl
theorem ak1{aj:aN}{s:Nat}(lo:S.lone s):fg aj [] s ((RV.agg [.p (.int .i64 F),cF eo 6 (bP X)]).fR (S.lone s))=some (.agg [.p (.int .i64 F),.p (tY (bP X))],[]):=by
 rw[lo];unfold cF tY;by_cases h:bP X=[]
 .rw[aD h,aD h];rfl
 rw[aC h,aC h];rfl
def aso(F:Nat)(o:Option ai)(n:Nat)(r:RV):Prop:=match o with
 |none=>∃(i:Nat) (e:Int),e≠0/\r=.tup [.agg [.p (.int .i64 0),.p .nils],.one (.p (.int .i64 i)),.one (.p (.int .i64 e))]
 |some X=>r=.tup [.agg [.p (.int .i64 F),.p (tY (bP X))],.one (.p (.int .i64 n)),.one (.p (.int .i64 0))]
theorem aaI(j:GV F m):∀ {p:lD}{L X:ai},(∀M∈p,M∈m)->de (F:Int) L=0->mB F L p=some X->de (F:Int) X=0/\I X<=I L+4*I p:=by
 intro p
 induction p with
 |nil=>intro L X _ h e;cases e;exact⟨h,aP⟩
 |cons M p n=>
  intro L X f h e;have e:(match nD F L M with|none=>none|some bY=>mB F bY p)=some X:=e;rcases j L M (f M aP) h with⟨bY,H,u,v,_⟩|⟨H,_⟩
  .rw[H]at e;obtain⟨a,b⟩:=n (λy g=>f y (by simp[g])) u e;refine⟨a,?_⟩;simp only[dW];omega
  rw[H]at e;cases e
theorem aha(h0:de (F:Int) h=0)(hl:I h<=30)(hm:I m<=20)(ae:oV m):∃r,aso F (mB F h m) (I m) r/\aK S 19 [c_ F h,.one (.p (mA m))] r:=by
 have jk:S.lone 1216448320:=ah;have jE:S.lone 1216512064:=ah;have jt:=NR F m;have O:I (m.map kN.ps)=I m:=cY ..;refine tS rfl au3 (jc rfl) ?_;simp only[go_sem,Ti];refine dy (λk A aj=>∃(bY:ai) (x:PV),mB F h (m.take k)=some bY/\x.norm=eg bY/\A 1=.one (.p (mA m))/\A 2=.one (.bm 1216000000 1 0)/\A 4=.one (.bm 1216000064 1 0)/\A 7=aH k/\aj 1216000064=(1,some (.var [.p (.int .i64 0),.p .nils]))/\aj 1216000000=(1,some (.var [.p (.int .i64 F),.p x]))) 0 (I m) (cG _) ?_ ?_
 .simp only[go_sem];exact⟨h,eg h,rfl,rfl,rfl,rfl⟩
 rintro k A aj hk ⟨bY,x,f,L,D,g,z,E,B,b0⟩
 obtain⟨T,Z⟩:=aaI jt (λM hm=>wu hm) h0 f;rw[gX]at Z;by_cases u:k<I m
 .have aM:((k:Int)<(I m:Int)):=J;obtain⟨M,R⟩:=aT u;have rM:=K6 R;have w1:=cN (n:=k) J;have Qd:vi M.k:=kr.1 ae M (bR R);obtain⟨⟨v,pa,hv⟩,pr⟩:=ax3 T J Qd;have Q:m.take (k+1)=m.take k++[M]:=by rw[jT,R];rfl
  have N:=ahO M f;rw[<-Q]at N;have M7:aK S 42 [c_ F bY,.agg [.p (.int .i64 M.k),.p (.int .i64 M.a),.p (.int .i64 M.b),.p (.int .i64 M.c),.p (.bool M.l),.p (.bool M.o),.p (.int .i64 M.s)]] (ja v):=pa;by_cases j:v=0
  .obtain⟨X,H⟩:=hv.1 j;subst j;have Co:((0:Int)!=0)=false:=U;have Y:aK S 43 [c_ F bY,.agg [.p (.int .i64 M.k),.p (.int .i64 M.a),.p (.int .i64 M.b),.p (.int .i64 M.c),.p (.bool M.l),.p (.bool M.o),.p (.int .i64 M.s)]] (.agg [.p (.int .i64 F),cF eo 6 (bP X)]):=pr X H;simp only[go_sem,Si,D,g,z,E,B,b0,L,O,u,aM,rM,kN.ps,w1,ad8,dp M7,Co,apl,fp Y (ak1 jk)];refine⟨aA,aA,?_⟩;exact⟨X,_,N.trans H,ym _,rfl⟩
  have e1:(v !=0):=by simpa using j
  have H:nD F bY M=none:=by
   cases H:nD F bY M with
   |none=>rfl
   |some X=>exact absurd (hv.2 ⟨X,H⟩) j
  have hn:mB F h m=none:=by have:=amy (r:=m.drop (k+1)) (N.trans H);rwa[nu]at this
  simp only[go_sem,Si,Ti,D,g,z,E,B,b0,L,O,u,aM,rM,kN.ps,ad8,dp M7,e1];refine⟨aA,?_⟩;rw[hn];first|exact⟨_,⟨k,v,j,rfl⟩,rfl⟩|trace_state
 have PM:k=I m:=J;subst PM;rw[lA]at f;have y:=Z_ (F:Int) bY J;simp only[go_sem,Si,ahG,Ti,D,g,z,E,B,b0,L,O,eR,VQ,aU y (ak1 jE)];rw[f];first|exact⟨_,rfl,rfl⟩|trace_state
theorem asZ(g:qj)(hl:I h<=1000)(H:de f h≠0):aK S 15 [c_ f h,.one (.p (mA m))] UY:=by
 have n:=SB g f h J H;have j:(de f h==0)=false:=by simpa using H
 generalize de f h=e at*;refine bj KJ ?_;simp only[go_sem,BR,uK,aU n rG,bne,j];rfl
theorem ai7(g:qj)(hl:I h<=1000)(j:I m<=1000)(u:de f h≠0):Bn f h m=none:=by
 have H:=(aaO g (f:=f) (h:=h) (A:=m) hl j).2.Cn (asZ g (m:=m) hl u);cases n:Bn f h m with
 |none=>rfl
 |some x=>obtain⟨b,L⟩:=x;rw[n]at H;cases b<;>simp[Kd]at H
theorem atL(j:qj){p q:lD}(u:I A<=1000)(m:I B<=1000)(hp:I p<=1000)(H:I q<=1000)(v:de f A≠0\/de g B≠0):aK S 5 [c_ f A,c_ g B,DQ p q] (cO false):=by
 have n:=aAE j f g A B p q u m hp H;have:OR f A p g B q=false:=by
  unfold OR;rcases v with h|h
  .rw[ai7 j u hp h]
  rw[ai7 j m H h];cases Bn f A p<;>rfl
 rw[this]at n;exact n
theorem C_{aj:aN}{s:Nat}{x y:PV}{l:Bool}:fg aj [] s ((RV.agg [.p x,.p y]).fR l)=some (.agg [.p x,.p y],[]):=by cases l<;>rfl
theorem VS(H:de (F:Int) h=0):aK S 20 [c_ F h] (.agg [.p (.int .i64 F),.p (tY (bP (gj h)))]):=by
 have A:=Nj H;have f:=aoS (F:=F) (f:=h) J;have E:AF h=gj h:=by
  rcases arR H with rfl|g
  .rfl
  exact aAO g
 rwa[E]at f
theorem azq{Y:ai}(h:de (F:Int) X=0)(H:de (F:Int) Y=0):aK S 21 [c_ F X,c_ F Y] (cO (decide (gj X=gj Y))):=by have g:=VS h;have j:=VS H;have v:=Iv X;have m:=Iv Y;have x:=Nj h;have u:=Nj H;have f:=asd (F:Int) (gj X) (gj Y) J J;have n:=ym (bP (gj X));have N:=ym (bP (gj Y));have f:aK S 50 [.agg [.p (.int .i64 F),.p (.sl (bP (gj X)))],.agg [.p (.int .i64 F),.p (.sl (bP (gj Y)))]] (cO (decide (gj X=gj Y))):=f;generalize decide (gj X=gj Y)=r at*;refine bj atB ?_;simp only[go_sem,alT,P5,fp g C_,fp j C_,n,N,aqC,dq f];first|done|exact aA|exact⟨aA,rfl⟩|trace_state
theorem Gt{aj:aN}{s:Nat}{x c y w:PV}{l:Bool}:fg aj [] s ((RV.tup [.agg [.p x,.p c],.one (.p y),.one (.p w)]).fR l)=some (.tup [.agg [.p x,.p c],.one (.p y),.one (.p w)],[]):=by cases l<;>rfl
theorem avi{p q:lD}(O:de (F:Int) A=0)(Q:de (F:Int) B=0)(hA:I A<=30)(hB:I B<=30)(hp:I p<=20)(hq:I q<=20)(s1:oV p)(s2:oV q):aK S 6 [c_ F A,c_ F B,DQ p q] (cO (G6 F A p F B q)):=by
 have D:=VO (F:Int) A J;have v:=VO (F:Int) B J;rw[O]at D;rw[Q]at v;have y:=Sg p J;have u:=Sg q J;rw[s1]at y;rw[s2]at u;have M:=VS O;have z:=VS Q;have T:=ym (bP (gj A));have Z:=ym (bP (gj B));have l1:=Iv A;have l2:=Iv B;obtain⟨r1,g,N⟩:=aha (m:=p) (Nw O) J hp s1;obtain⟨r2,h,n⟩:=aha (m:=q) (Nw Q) J hq s2;have N:aK S 19 [.agg [.p (.int .i64 F),.p (.sl (bP (gj A)))],.one (.p (mA p))] r1:=N;have n:aK S 19 [.agg [.p (.int .i64 F),.p (.sl (bP (gj B)))],.one (.p (mA q))] r2:=n;have L:((0:Int)!=0)=false:=U;have x:((0:Int)==0):=rfl;have E:((F:Int)!=(F:Int))=false:=aP;have hx:G6 F A p F B q=match mB F (gj A) p,mB F (gj B) q with
  |some X,some Y=>decide (gj X=gj Y)
  |_,_=>false:=by
  unfold G6 E_;rw[aD s1,aD s2];cases mB F (gj A) p with
  |none=>rfl
  |some X=>
   cases mB F (gj B) q with
   |none=>rfl
   |some Y=>show(decide ((F:Int)=(F:Int))&&_)=_;rw[pA rfl,sf]
 rw[hx];refine bj fB ?_;cases ha:mB F (gj A) p with
 |none=>
  rw[ha]at g;obtain⟨i,e,he,rfl⟩:=g;have R:(e==0)=false:=by simpa using he
  cases H:mB F (gj B) q with
  |none=>rw[H]at h;obtain⟨j,e',qA,rfl⟩:=h;simp only[go_sem,Dv,EN,dJ D,dJ v,L,E,KA,au y,au u,P5,fp M C_,fp z C_,T,Z,RF,fp N Gt,fp n Gt,R];first|done|exact⟨aA,aA⟩|exact⟨aA,aA,rfl⟩|trace_state
  |some Y=>rw[H]at h;have h:r2=_:=h;subst h;simp only[go_sem,Dv,EN,dJ D,dJ v,L,E,KA,au y,au u,P5,fp M C_,fp z C_,T,Z,RF,fp N Gt,fp n Gt,R];first|done|exact⟨aA,aA⟩|exact⟨aA,aA,rfl⟩|trace_state
 |some X=>
  rw[ha]at g;have g:r1=_:=g;subst g;cases H:mB F (gj B) q with
  |none=>
   rw[H]at h;obtain⟨j,e',qA,rfl⟩:=h;have R:(e'==0)=false:=by simpa using qA
   simp only[go_sem,Dv,EN,dJ D,dJ v,L,x,E,KA,au y,au u,P5,fp M C_,fp z C_,T,Z,RF,fp N Gt,fp n Gt,R];first|done|exact⟨aA,aA⟩|exact⟨aA,aA,rfl⟩|trace_state
  |some Y=>rw[H]at h;have h:r2=_:=h;subst h;have v1:=(aaI (NR F p) (λab hm=>hm) (Nw O) ha).1;have v2:=(aaI (NR F q) (λab hm=>hm) (Nw Q) H).1;have f:=azq v1 v2;have n3:=ym (bP X);have n4:=ym (bP Y);have f:aK S 21 [.agg [.p (.int .i64 F),.p (.sl (bP X))],.agg [.p (.int .i64 F),.p (.sl (bP Y))]] (cO (decide (gj X=gj Y))):=f;dsimp only;generalize decide (gj X=gj Y)=r at*;simp only[go_sem,Dv,EN,dJ D,dJ v,L,x,E,KA,au y,au u,P5,fp M C_,fp z C_,T,Z,n3,n4,RF,fp N Gt,fp n Gt,ao2,au f];first|done|exact⟨aA,aA⟩|exact⟨aA,aA,rfl⟩|trace_state
theorem akM{p q:lD}(O:I A<=1000)(N:I B<=1000)(hp:I p<=1000)(M:I q<=1000)(h:¬(de f A=0/\de g B=0/\f=g/\oV p/\oV q)):aK S 6 [c_ f A,c_ g B,DQ p q] (cO false):=by
 have D:=VO f A J;have m:=VO g B J;have F:=Sg p J;have y:=Sg q J;have j:((0:Int)!=0)=false:=U;generalize de f A=a at*;generalize de g B=b at*;refine bj fB ?_;by_cases v:a=0
 .subst v;by_cases u:b=0
  .subst u;by_cases H:f=g
   .have E:(f !=g)=false:=by simp[H]
    cases n:oV p with
    |false=>rw[n]at F;simp only[go_sem,Dv,EN,dJ D,dJ m,j,E,KA,au F];first|done|rfl
    |true=>
     rw[n]at F;cases x:oV q with
     |true=>exact absurd ⟨rfl,rfl,H,n,x⟩ h
     |false=>rw[x]at y;simp only[go_sem,Dv,EN,dJ D,dJ m,j,E,KA,au F,au y];first|done|rfl
   have E:(f !=g):=by simpa using H
   simp only[go_sem,Dv,EN,dJ D,dJ m,j,E];first|done|rfl
  have L:(b !=0):=by simpa using u
  simp only[go_sem,Dv,EN,dJ D,dJ m,j,L];first|done|rfl
 have z:(a !=0):=by simpa using v
 simp only[go_sem,Dv,EN,dJ D,z];first|done|rfl
theorem ae5(g:de f A=0):∃F:Nat,f=(F:Int):=by
 by_cases h:A=[]
 .subst h;unfold de at g;rw[aC U]at g;by_cases H:f<0\/40<f
  .rw[aD H]at g;cases g
  exact o_ (show 0<=f by omega)
 obtain⟨F,e,_⟩:=EM g h;exact⟨F,e⟩
theorem avz(L:qj)(H:aK S 4 [] (cO true))(f:Int)(A:ai)(g:Int)(B:ai)(p q:lD):aK S 3 [c_ f A,c_ g B,DQ p q] (cO true):=by
 have M:I (p.map kN.ps)=I p:=cY ..;have E:I (q.map kN.ps)=I q:=cY ..;refine bj c9 ?_;by_cases y:(24:Int)<(I A:Int)
 .simp only[go_sem,i3,y,xW,au H];first|done|rfl
 by_cases n:(24:Int)<(I B:Int)
 .simp only[go_sem,i3,y,n,xW,au H];first|done|rfl
 by_cases v:(20:Int)<(I p:Int)
 .simp only[go_sem,i3,y,n,M,v,xW,au H];first|done|rfl
 by_cases O:(20:Int)<(I q:Int)
 .simp only[go_sem,i3,y,n,M,E,v,O,xW,au H];first|done|rfl
 obtain⟨r,m,pb⟩:∃r,aK S 5 [c_ f A,c_ g B,DQ p q] (cO r)/\aK S 6 [c_ f A,c_ g B,DQ p q] (cO r):=by
  by_cases j:de f A≠0\/de g B≠0
  .exact⟨false,atL L J J J J j,akM J J J J λh=>j.elim (λk=>k h.1) λk=>k h.2.1⟩
  have D:de f A=0:=Classical.not_not.1 λh=>j (.inl h);have z:de g B=0:=Classical.not_not.1 λh=>j (.inr h);obtain⟨F,rfl⟩:=ae5 D;obtain⟨G,rfl⟩:=ae5 z;have m:=ar2 L (NR F p) (NR G q) D z J J J J;by_cases h:(F:Int)=(G:Int)/\oV p/\oV q
  .obtain⟨N,u,x⟩:=h;have:F=G:=J;subst this;exact⟨_,m,avi D z J J J J u x⟩
  refine⟨false,?_,akM J J J J λk=>h k.2.2⟩;have:G6 F A p G B q=false:=by
   unfold G6 E_;cases u:oV p with
   |false=>rfl
   |true=>
    cases x:oV q with
    |false=>simp only[if_true];cases mB F (gj A) p<;>rfl
    |true=>
     have N:¬(F:Int)=(G:Int):=λe=>h ⟨e,u,x⟩;simp only[if_true];cases mB F (gj A) p with
     |none=>rfl
     |some X=>
      cases mB G (gj B) q with
      |none=>rfl
      |some Y=>show(decide _&&_)=false;rw[nr N,zq]
  rwa[this]at m
 have Q:(r==r):=by cases r<;>rfl
 simp only[go_sem,i3,y,n,M,E,v,O,QA,dq m,aB5,dq pb,Q,xW,dq H];first|done|exact aA|exact⟨aA,rfl⟩|trace_state
end
end Go.Abs
namespace Go.Proofs.YtkdkhndppjfpmaaGreatDoor.fnEaseChecks
open Go.Abs Go.ChangeShapes Go.WideShapes Go.ChangeAt Go.RowKit
theorem RW {P : Program}{N n : Nat}{t : TypeId}{fs : Array Field}{p : b_} (H : P.underlying t = some (.struct fs)) (h : mj P N (n + 1) t p) :
    ∃g : q_, p = g.flatten ∧ I g = I fs.toList ∧ ∀(i : Nat) (f : Field) (x : b_), fs.toList[i]?= some f → g[i]?= some x → mj P N n f.type x := by
  simp only [mj, H]at h;exact h
theorem asM {E : q_} (g :∀x ∈ E, ∃l : aa, x = l.ps) :∃h : ai, E = h.map aa.ps := by
  induction E with
  | nil => exact⟨[], rfl⟩
  | cons e E f =>obtain⟨l, rfl⟩ := g e (by simp);obtain⟨h, rfl⟩ := f λx H => g x (by simp [H]);exact⟨l :: h, rfl⟩
theorem azh {N n : Nat}{p : b_} (h : mj S.P N (n + 1 + 1) 32 p) :∃l : aa, p = l.ps := by
  obtain⟨f, rfl, hl, hp⟩ := RW Tryz.underlying32 h;rcases f with _ | ⟨z, _ | ⟨v, _ | ⟨x, _ | ⟨j, _ | ⟨u, _ | ⟨m, _ | ⟨y, r⟩⟩⟩⟩⟩⟩⟩ <;> first
    | (simp at hl; done)
    | skip
  obtain⟨k, rfl, _⟩ := BP Tryz.underlying30 (hp 0 _ _ rfl rfl);obtain⟨g, rfl, _⟩ := BP Tryz.underlying3 (hp 1 _ _ rfl rfl);obtain⟨r, rfl, _⟩ := BP Tryz.underlying3 (hp 2 _ _ rfl rfl);obtain⟨i, rfl, _⟩ := BP Tryz.underlying3 (hp 3 _ _ rfl rfl);obtain⟨s, rfl, _⟩ := BP Tryz.underlying3 (hp 4 _ _ rfl rfl);obtain⟨o, rfl⟩ := V0 Tryz.underlying4 (hp 5 _ _ rfl rfl);exact⟨⟨k, g, r, i, s, o⟩, rfl⟩
theorem aeq {N n : Nat}{p : b_} (v : mj S.P N (n + 1 + 1 + 1 + 1) 24 p) :∃(k : Int) (h : ai), p = [.int .i64 k,.sl (h.map aa.ps)] := by
  obtain⟨f, rfl, hl, hp⟩ := RW Tryz.underlying24 v;rcases f with _ | ⟨u, _ | ⟨j, _ | ⟨m, r⟩⟩⟩ <;> first
    | (simp at hl; done)
    | skip
  obtain⟨k, rfl, _⟩ := BP Tryz.underlying3 (hp 0 _ _ rfl rfl);obtain⟨E, rfl, _, g⟩ := ajO Tryz.underlying22 (hp 1 _ _ rfl rfl);obtain⟨h, rfl⟩ := asM λx H => azh (g x H);exact⟨k, h, rfl⟩
theorem axd {N n : Nat}{p : b_} (h : mj S.P N (n + 1 + 1) 49 p) :∃(k a b c : Int) (l o : Bool) (s : Int), p = [.int .i64 k,.int .i64 a,.int .i64 b,.int .i64 c,.bool l,.bool o,.int .i64 s] := by
  obtain⟨f, rfl, hl, hp⟩ := RW Tryz.underlying49 h;rcases f with _ | ⟨z, _ | ⟨u, _ | ⟨v, _ | ⟨g, _ | ⟨m, _ | ⟨j, _ | ⟨x, _ | ⟨y, r⟩⟩⟩⟩⟩⟩⟩⟩ <;> first
    | (simp at hl; done)
    | skip
  obtain⟨k, rfl, _⟩ := BP Tryz.underlying47 (hp 0 _ _ rfl rfl);obtain⟨a, rfl, _⟩ := BP Tryz.underlying3 (hp 1 _ _ rfl rfl);obtain⟨b, rfl, _⟩ := BP Tryz.underlying3 (hp 2 _ _ rfl rfl);obtain⟨c, rfl, _⟩ := BP Tryz.underlying3 (hp 3 _ _ rfl rfl);obtain⟨l, rfl⟩ := V0 Tryz.underlying4 (hp 4 _ _ rfl rfl);obtain⟨o, rfl⟩ := V0 Tryz.underlying4 (hp 5 _ _ rfl rfl);obtain⟨s, rfl, _⟩ := BP Tryz.underlying3 (hp 6 _ _ rfl rfl);exact⟨k, a, b, c, l, o, s, rfl⟩
theorem afv {N n : Nat}{p : b_} (h : mj S.P N (n + 1 + 1 + 1) 25 p) :∃l : lD, p = [.sl (l.map kN.ps)] := by
  obtain⟨E, rfl, H, f⟩ := ajO Tryz.underlying25 h;clear h H
  suffices ∃l : lD, E = l.map kN.ps by obtain⟨l, rfl⟩ := this; exact⟨l, rfl⟩
  induction E with
  | nil => exact⟨[], rfl⟩
  | cons e E j =>obtain⟨k, a, b, c, l, o, s, rfl⟩ := axd (f e (by simp));obtain⟨m, rfl⟩ := j λx g => f x (by simp [g]);exact⟨⟨k, a, b, c, l, o, s⟩ :: m, rfl⟩
theorem arn {N n : Nat}{p : b_} (h : mj S.P N (n + 1 + 1 + 1 + 1) 27 p) :∃a b : lD, p = [.sl (a.map kN.ps),.sl (b.map kN.ps)] := by
  obtain⟨f, rfl, hl, hp⟩ := RW Tryz.underlying27 h;rcases f with _ | ⟨j, _ | ⟨g, _ | ⟨m, r⟩⟩⟩ <;> first
    | (simp at hl; done)
    | skip
  obtain⟨a, rfl⟩ := afv (hp 0 _ _ rfl rfl);obtain⟨b, rfl⟩ := afv (hp 1 _ _ rfl rfl);exact⟨a, b, rfl⟩
theorem ap7 (g : q_) (h : Q6 S.P maxLen 4 Tryz.f3.params.toList g) : aK S 3 (D8 S.P Tryz.f3.params.toList g) (.one (.p (.bool true))) := by
  have hp : Tryz.f3.params.toList = [24, 24, 27] := by rw [Tryz.params3]
  rw [hp]at h |-;rcases g with _ | ⟨A, _ | ⟨x, _ | ⟨y, _ | ⟨B, z⟩⟩⟩⟩
  · exact h.elim
  · exact h.2.elim
  · exact h.2.2.elim
  · obtain⟨F, L, rfl⟩ := aeq (n := 0) h.1
    obtain⟨v, j, rfl⟩ := aeq (n := 0) h.2.1;obtain⟨m, Q, rfl⟩ := arn (n := 0) h.2.2.1;have u :∀(f : Int) (a : ai), Ik S.P 24 [.int .i64 f,.sl (a.map aa.ps)] = c_ f a := λf a => aj9 (P := S.P) Tryz.underlying24;have E :∀a b : lD, Ik S.P 27 [.sl (a.map kN.ps),.sl (b.map kN.ps)] = DQ a b := λa b => aj9 (P := S.P) Tryz.underlying27;simp only [D8, u, E];exact avz axz atI F L v j m Q
  · exact h.2.2.2.elim
theorem ax5 : Tryz.prog.globalNamed VC = some 0 := by kernel_rfl
theorem au8 : (Tryz.prog.globals[0]?).map (·.type) = some 242 := by kernel_rfl
theorem auf : Tryz.prog.cellsOf 242 = 20 := by kernel_rfl
theorem ax6 : Tryz.prog.cellsOf 227 = 1 := by kernel_rfl
theorem table {ch : World} (h : laidMetH Tryz.prog Rows.easeChecksRow.laid ch) : G ch := by
  have f : laidMet Tryz.prog Rows.easeChecksRow.laid ch := h;have H := f.tail.tail;have e : (Rows.laid_internal_strconv_uint64pow10 : DataW Unit) = Lib.tabData .u64 Lib.pow10Tab := by kernel_rfl
  rw [e]at H;exact Lib.tabIs_of_head (rest := []) ax5 au8 Tryz.underlying242 Tryz.underlying227 ax6 auf H
end Go.Proofs.YtkdkhndppjfpmaaGreatDoor.fnEaseChecks
namespace Go.Proofs.YtkdkhndppjfpmaaGreatDoor.fnEaseChecks
open Go.Abs Go.ChangeShapes Go.WideShapes Go.ChangeAt Go.RowKit
theorem own : ownKnob Tryz.prog.godebug = none := by kernel_rfl
theorem azf (H : Type) (E : TypeId×Value → H) (ch : World) (base : Nat) (A : Array Value) (D F : List (DataW H)) (B : List MemPlace)
    (f :∀(j : Nat) t v, Tryz.f3.params[j]?= some t → A[j]?= some v → Value.okWide Tryz.prog ch .any base t v)
    (u : DataW.Whole E Tryz.prog Tryz.f3.params.toList Rows.easeChecksSpec.vars false ch A.toList D F B) (L : laidMetH Tryz.prog Rows.easeChecksRow.laid ch) :
    Calls Tryz.prog 3 A ch λe N =>∃v, e =.returned v ∧ Rows.easeChecksSpec.post E Tryz.prog Tryz.f3 false true false false ch A v N := by
  have n :∀t ∈ Tryz.f3.params.toList, mK S.P 4 t = true := by
    rw [Tryz.params3];intro t y;have e : t = 24 ∨ t = 27 := by simpa using y
    have z : mK S.P 4 24 = true := by kernel_rfl
    have x : mK S.P 4 27 = true := by kernel_rfl
    rcases e with e | e
    · exact e ▸ z
    · exact e ▸ x
  have g :∀d ∈ D, u4 maxLen d := by obtain⟨p, q, M, _⟩ := u;exact(agu n M).1
  exact axk S_ok (λw h => arU h) (fn := Tryz.f3) (s := Rows.easeChecksSpec) rfl
    (λH D m => by
      rw [Tryz.params3]at m
      match D, m with
      | [R, Q, O], _ => rfl) (tb := 4) (by kernel_rfl) Tryz.underlying4 n ap7 f u (table L) g

noncomputable def azi (d : DataW Unit) : Array Value :=
  match d with
  | .agg l => (l.map fun
    | .lit (.int k z) => Value.int k z
    | _ => undef).toArray
  | _ => #[]
noncomputable def ac4 (d : DataW Unit) : Obj → Obj
  | .cells _ t frozen =>.cells (azi d) t frozen
  | o => o
noncomputable def abR (os : Os) : World :={ World.holding Tryz.prog os ⟨#[], #[], []⟩with heap := (((World.holding Tryz.prog os ⟨#[], #[], []⟩).heap.modify 1 (ac4 Rows.laid_math_bits_deBruijn32tab)).modify 2 (ac4 Rows.laid_math_bits_deBruijn64tab)).modify 0 (ac4 Rows.laid_internal_strconv_uint64pow10) }
theorem axU (os : Os) : laidMet Tryz.prog Rows.easeChecksRow.laid ((abR os).forCall (λ_ _ => 0) ⟨#[], #[Value.agg #[.int .i64 0,.slice none 0 0],.agg #[.int .i64 0,.slice none 0 0],.agg #[.slice none 0 0,.slice none 0 0]], []⟩).memory :=laidMet_of_run' 8 (by kernel_rfl) (by kernel_rfl)
theorem aqB (os : Os) {H : Type} (E : TypeId×Value → H) :∃places, DataW.whole E Tryz.prog ((abR os).forCall (λ_ _ => 0) ⟨#[], #[Value.agg #[.int .i64 0,.slice none 0 0],.agg #[.int .i64 0,.slice none 0 0],.agg #[.slice none 0 0,.slice none 0 0]], []⟩).memory Tryz.f3.params.toList Rows.easeChecksSpec.vars false #[Value.agg #[.int .i64 0,.slice none 0 0],.agg #[.int .i64 0,.slice none 0 0],.agg #[.slice none 0 0,.slice none 0 0]].toList 8 = some ([.agg [.lit (.int .i64 0),.nil],.agg [.lit (.int .i64 0),.nil],.agg [.nil,.nil]], [], places) :=
  ⟨[], by kernel_rfl⟩

theorem ayq (os : Os) (f : os.Started) (H : Type) (E : TypeId×Value → H) (F : Stop.Interp) :
    ReturnsInHanded {} Tryz.checked os 3 .any ((OpenSpec.ofChange Rows.easeChecksSpec).preRow E Tryz.prog Tryz.f3 Rows.easeChecksRow.domain false Rows.easeChecksRow.laid) (((OpenSpec.ofChange Rows.easeChecksSpec).at F).post E Tryz.prog Tryz.f3 false true false false) := by
  obtain⟨places, g⟩ := aqB os E;refine returnsInHanded_of_row (C := Tryz.checked) (s := (OpenSpec.ofChange Rows.easeChecksSpec)) own f (by kernel_rfl) Tryz.func3
    (witness_row_at (enc := E) (C := Tryz.checked) false (abR os) #[Value.agg #[.int .i64 0,.slice none 0 0],.agg #[.int .i64 0,.slice none 0 0],.agg #[.slice none 0 0,.slice none 0 0]] rfl (by kernel_rfl) (by kernel_rfl) (by kernel_rfl)
      (OpenSpec.preRow_of_cond 8 g (by kernel_rfl) (λk m => by cases m) (by kernel_rfl) (axU os))) ?_
  intro ch base A D n B h j _ _ _ u _ _;exact azf H E ch base A D n B h j u
end Go.Proofs.YtkdkhndppjfpmaaGreatDoor.fnEaseChecks
namespace Go.Proofs.YtkdkhndppjfpmaaGreatDoor.fnEaseChecks
open Go.Abs Go.ChangeShapes Go.WideShapes Go.ChangeAt Go.RowKit
theorem asK : Rows.EaseChecksSaid :=
  OpenClaim.holds_of_cond 3 Tryz.f3 rfl rfl rfl rfl rfl rfl rfl ⟨rfl, rfl, rfl, rfl, rfl⟩ rfl rfl rfl rfl rfl (by kernel_rfl) Tryz.func3 closed
    (of_decide_eq_true (by kernel_rfl)) (by unfold Func.isWrapper; first | (rw [if_pos (by decide +kernel)]; kernel_rfl) | (rw [if_neg (by decide +kernel)]; exact⟨rfl, rfl⟩))
    (λos f H E _ F => by rw [OpenClaim.pre_eq_preRow]; exact ayq os f H E F)

theorem auO (f : FuncId) (fn : Func) (H : Tryz.pinned.checked.prog.funcNamed Rows.easeChecksRow.func = some f) (hfn : Tryz.pinned.checked.prog.funcs[f]?= some fn) :
    false = Tryz.pinned.checked.prog.looks [] ∧ ∀(j : Nat) t, fn.params[j]?= some t → Tryz.pinned.checked.prog.wantsStandIn t = false := by
  obtain rfl : f = 3 := Option.some.inj ((show Tryz.prog.funcNamed Rows.easeChecksRow.func = some 3 by kernel_rfl).symm.trans H) |>.symm
  obtain rfl : fn = Tryz.f3 := (Option.some.inj (Tryz.func3.symm.trans hfn)).symm;refine⟨by kernel_rfl, ?_⟩
  · intro j t h
    rw [Tryz.params3]at h;have e : t = 24 ∨ t = 27 := by simpa using Array.mem_of_getElem? h
    have m : Tryz.prog.wantsStandIn 24 = false := by kernel_rfl
    have g : Tryz.prog.wantsStandIn 27 = false := by kernel_rfl
    rcases e with e | e
    · exact e ▸ m
    · exact e ▸ g

theorem aBZ : Rows.easeChecksRow.wfByText (OpenSpec.ofChange Rows.easeChecksSpec) = true := by kernel_rfl
theorem ayC : Tryz.pinned.checked.prog.mainIs = some ((true, "1638891dc747ebd373b2c9264a470f23388753112e7da43dc20cffe88679e4c7").1, (true, "1638891dc747ebd373b2c9264a470f23388753112e7da43dc20cffe88679e4c7").2.toList) := by kernel_rfl
theorem card : Rows.EaseChecksCardSaid :=Claim7.holds_tied_plain_at .later [] _ _ _ _ asK (λ_ h => by cases h) aBZ (λ_ h => by cases h) easeChecks_row_tie rfl ⟨rfl, rfl⟩ ayC rfl auO goes
end Go.Proofs.YtkdkhndppjfpmaaGreatDoor.fnEaseChecks
