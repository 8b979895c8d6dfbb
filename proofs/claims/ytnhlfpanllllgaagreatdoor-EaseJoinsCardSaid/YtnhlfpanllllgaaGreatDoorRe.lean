/-
  The class search.
-/
import Derived.Test.YtnhlfpanllllgaaGreatDoorRd
set_option linter.all false
open List renaming length->I
set_option maxRecDepth 100000
set_option maxHeartbeats 16000000
namespace Go.Abs
variable{F u B f j z:Nat}{L H:ae}{x:aa}{g:s_}{D E A y:PV}{m:dx}{M:dN}
def Wb{n:Int}(H: -1000000<=n)(f:n<=1000000):aJ S 84 [aC n] (.one (.p (.str (mK n)))):=by
 refine⟨1,?_⟩;have e:Uo [aC n]=some (.one (.p (.str (mK n)))):=by show(if -9223372036854775808<=n/\n<=9223372036854775807 then _ else _)=_;rw[aH ⟨J,J⟩]
 have h:S.prim 84 [aC n]=some (some (.one (.p (.str (mK n))))):=by rw[<-e];rfl
 rw[jd];simp only[h]
def anC:∀(k n:Nat) (A:wV),I (tT k n A)<=k+I A:=by
 intro k
 induction k with
 |zero=>intro n A;simp[tT]
 |succ k f=>
  intro n A;unfold tT;cases Nat.blt n 10 with
  |true=>simp only[cond_true,dw];omega
  |false=>simp only[cond_false];have:=f (Nat.div n 10) (UInt8.ofNat (Nat.add 48 (Nat.mod n 10))::A);rw[dw]at this;omega
def Gm(n:Int):(mK n).size<=40:=by
 unfold mK;show(List.toArray _).size<=40;rw[Wj];cases n with
 |ofNat u=>have:=anC 20 u [];simp only[eK]at this;show(tT 20 u []).length<=40;omega
 |negSucc u=>have:=anC 20 (Nat.succ u) [];simp only[eK]at this;show(45::tT 20 (Nat.succ u) []).length<=40;rw[dw];omega
def E4{a b:ByteArray}(h:a.size+b.size<=1000000000):C_ .add a b=some (.str (a++b)):=by unfold C_;exact aH J
def Bn(a b:ByteArray):(a++b).size=a.size+b.size:=ByteArray.size_append
def aea:ByteArray:=⟨#[46]⟩
def QS:ByteArray:=⟨#[117]⟩
def RR:ByteArray:=⟨#[111]⟩
def Tw:ByteArray:=⟨#[43]⟩
def RE:ByteArray:=⟨#[45]⟩
def V6:ByteArray:=⟨#[63]⟩
def Dp:ByteArray:=⟨#[32]⟩
def P7:ByteArray:=⟨#[58]⟩
def tC(l:aa):ByteArray:=
 if l.kind==1 then mK l.gate++aea++mK l.ay
 else if l.kind==2 then(mK l.id++(if l.over then RR else QS))++(if l.sign==1 then Tw else if l.sign== -1 then RE else V6)
 else V6
def ahQ(l:aa):(tC l).size<=100:=by
 have H:=Gm l.gate;have h:=Gm l.ay;have j:=Gm l.id;have m:aea.size=1:=rfl;have f:QS.size=1:=rfl;have g:RR.size=1:=rfl;have c5:Tw.size=1:=rfl;have c4:RE.size=1:=rfl;have ft:V6.size=1:=rfl;unfold tC;split
 .rw[Bn,Bn];omega
 split
 .rw[Bn,Bn];split<;>split
  .omega
  .split<;>omega
  .omega
  split<;>omega
 omega
def aaC(l:aa):Prop:=(-1000000<=l.gate/\l.gate<=1000000)/\(-1000000<=l.ay/\l.ay<=1000000)/\(-1000000<=l.id/\l.id<=1000000)
def az2{l:aa}(h:aaC l):aJ S 85 [xt l] (.one (.p (.str (tC l)))):=by
 obtain⟨⟨g1,A⟩,⟨r1,Y⟩,⟨i1,i2⟩⟩:=h;have Q:=Wb g1 A;have pr:=Wb r1 Y;have m:=Wb i1 i2;have Z:=Gm l.gate;have lr:=Gm l.ay;have li:=Gm l.id;have F:S.shared 84=false:=ah;have z:=E4 (a:=mK l.gate) (b:=⟨#[46]⟩) (by have:(ByteArray.mk #[46]).size=1:=rfl;omega);have T:=E4 (a:=mK l.gate++⟨#[46]⟩) (b:=mK l.ay) (by rw[Bn];have:(ByteArray.mk #[46]).size=1:=rfl;omega);have B:=E4 (a:=mK l.id) (b:=⟨#[117]⟩) (by have:(ByteArray.mk #[117]).size=1:=rfl;omega);have u:=E4 (a:=mK l.id) (b:=⟨#[111]⟩) (by have:(ByteArray.mk #[111]).size=1:=rfl;omega);have fin:∀(x:ByteArray) (c:ByteArray),(x=⟨#[117]⟩\/x=⟨#[111]⟩)->c.size=1->C_ .add (mK l.id++x) c=some (.str (mK l.id++x++c)):=λx c X hc=>by
  refine E4 ?_;rw[Bn];rcases X with rfl|rfl
  .have:(ByteArray.mk #[117]).size=1:=rfl;omega
  have:(ByteArray.mk #[111]).size=1:=rfl;omega
 have E:=fin ⟨#[117]⟩ ⟨#[43]⟩ (.inl rfl) rfl;have D:=fin ⟨#[117]⟩ ⟨#[45]⟩ (.inl rfl) rfl;have L:=fin ⟨#[117]⟩ ⟨#[63]⟩ (.inl rfl) rfl;have M:=fin ⟨#[111]⟩ ⟨#[43]⟩ (.inr rfl) rfl;have O:=fin ⟨#[111]⟩ ⟨#[45]⟩ (.inr rfl) rfl;have R:=fin ⟨#[111]⟩ ⟨#[63]⟩ (.inr rfl) rfl;have N:tC l=if l.kind==1 then mK l.gate++⟨#[46]⟩++mK l.ay
  else if l.kind==2 then(mK l.id++(if l.over then⟨#[111]⟩else⟨#[117]⟩))++(if l.sign==1 then⟨#[43]⟩else if l.sign== -1 then⟨#[45]⟩else⟨#[63]⟩)
  else⟨#[63]⟩:=rfl
 rw[N];cases f:(l.kind==1)with
 |true=>simp only[if_true];refine bt Fc ?_;simp only[go_sem,Dx,aa.ps,f,F,afB Q,afB pr,z,T,af,au];first|done|exact⟨aI,rfl⟩|exact aI
 |false=>
  cases j:(l.kind==2)with
  |true=>
   simp only[eX,if_true,if_false];cases H:l.over with
   |true=>
    cases g:(l.sign==1)with
    |true=>refine bt Fc ?_;simp only[go_sem,Dx,aa.ps,f,j,H,g,F,sh m,B,u,M,af,au];first|done|rfl
    |false=>
     cases y:(l.sign== -1)with
     |true=>refine bt Fc ?_;simp only[go_sem,Dx,aa.ps,f,j,H,g,y,F,sh m,B,u,O,af,au];first|done|rfl
     |false=>refine bt Fc ?_;simp only[go_sem,Dx,aa.ps,f,j,H,g,y,F,sh m,B,u,R,af,au];first|done|rfl
   |false=>
    cases g:(l.sign==1)with
    |true=>refine bt Fc ?_;simp only[go_sem,Dx,aa.ps,f,j,H,g,F,sh m,B,u,E,af,au];first|done|rfl
    |false=>
     cases y:(l.sign== -1)with
     |true=>refine bt Fc ?_;simp only[go_sem,Dx,aa.ps,f,j,H,g,y,F,sh m,B,u,D,af,au];first|done|rfl
     |false=>refine bt Fc ?_;simp only[go_sem,Dx,aa.ps,f,j,H,g,y,F,sh m,B,u,L,af,au];first|done|rfl
  |false=>simp only[eX,if_false];refine bt Fc ?_;simp only[go_sem,Dx,aa.ps,f,j,af,au];first|done|rfl
def s7(F:Int)(L:ae):ByteArray:=L.foldl (λs l=>s++(Dp++tC l)) (mK F++P7)
def avo(F:Int):∀(L:ae) (s:ByteArray) (k:Nat),s.size<=41+101*k->(L.foldl (λs l=>s++(Dp++tC l)) s).size<=41+101*(k+I L):=by
 intro L
 induction L with
 |nil=>intro s k h;exact h
 |cons l L f=>
  intro s k h;have:=f (s++(Dp++tC l)) (k+1) (by have:=ahQ l;rw[Bn,Bn];have c:Dp.size=1:=rfl;omega)
  rw[dw];show(List.foldl (λs l=>s++(Dp++tC l)) (s++(Dp++tC l)) L).size<=_;omega
def D9(F:Int)(L:ae)(k:Nat):ByteArray:=(L.take k).foldl (λs l=>s++(Dp++tC l)) (mK F++P7)
def aCq{F:Int}{k:Nat}(h:L[k]?=some x):D9 F L (k+1)=D9 F L k++(Dp++tC x):=by unfold D9;rw[It h,za];rfl
def aoE{F:Int}(m: -1000000<=F/\F<=1000000)(hl:I L<=1000000)(O:∀l∈L,aaC l):aJ S 43 [df F L] (.one (.p (.str (s7 F L)))):=by
 have E:=Wb m.1 m.2;have Z:=Gm F;have D:S.shared 84=false:=ah;have B:=E4 (a:=mK F) (b:=⟨#[58]⟩) (by have:(ByteArray.mk #[58]).size=1:=rfl;omega);have N:∀k,(D9 F L k).size<=41+101*k:=λk=>by have:=avo F (L.take k) (mK F++P7) 0 (by rw[Bn];have:P7.size=1:=rfl;omega);rw[iM]at this;unfold D9;omega
 have u:D9 F L (I L)=s7 F L:=by unfold D9 s7;rw[jN]
 generalize s7 F L=Y at u;refine bt azJ ?_;simp only[go_sem,aoL,D,sh E,B,af,au];refine c_ (λk h aj=>h 11=.one (.p (c8 L))/\h 12=aC (I L)/\h 13=aC k/\h 3=.one (.p (.str (D9 F L k)))) 0 (I L) (cE _) ?_ ?_
 .simp only[go_sem];first|done|rfl|exact⟨rfl,rfl⟩
 rintro k h aj hk ⟨fe,y,j,H⟩
 by_cases A:k<I L
 .have T:((k:Int)<(I L:Int)):=J;have g:=js A;have R:=fP g;have z:=cP (n:=k) J;have pw:=az2 (O _ (ch g));have lw:=ahQ (aZ L k);have Q:=aCq (F:=F) g;have jk:=N k;generalize aZ L k=x at*;have X:=E4 (a:=⟨#[32]⟩) (b:=tC x) (by have:(ByteArray.mk #[32]).size=1:=rfl;omega);generalize D9 F L k=s at*;have M:=E4 (a:=s) (b:=⟨#[32]⟩++tC x) (by rw[Bn];have:(ByteArray.mk #[32]).size=1:=rfl;omega)
  have f:aJ S 85 [.agg [.p (.int .i64 x.kind),.p (.int .i64 x.gate),.p (.int .i64 x.ay),.p (.int .i64 x.id),.p (.int .i64 x.sign),.p (.bool x.over)]] (.one (.p (.str (tC x)))):=pw;simp only[go_sem,abb,fe,y,j,H,A,T,R,aa.ps,z,aEf,sh f,X,M,af,au];first|(rw[Q];rfl)|exact⟨A,by rw[Q];rfl⟩
 have:k=I L:=J;subst this;rw[u]at H;simp only[go_sem,abb,aif,fe,y,j,H,dW,af,au]
structure dM where
 c:ae
 n:ae
 w:dB
abbrev lT:=List dM
def dM.ps(F:Nat)(m:dM):b_:=[.int .i64 F,c8 m.c,.int .i64 F,c8 m.n,ob m.w]
abbrev gX(F:Nat)(l:lT):s_:=l.map (dM.ps F)
abbrev Qp:Nat:=69
def adk(g:pI){F:Nat}(w:dB)(hl:I L<=1000000)(h:dA (F:Int) L=0):aJ S 42 [df F L,.one (.p (ob w))] (.agg [.p (.int .i64 F),.p (c8 L),.p (.int .i64 F),.p (lV (mF L)),.p (ob w)]):=by have j:=ahA g (f:=F) hl h;generalize lV (mF L)=q at*;refine bt aGe ?_;simp only[go_sem,ahH,amf,a_ j apU];first|done|rfl
abbrev ao0(id:Nat):Prop:=kO id=44
abbrev aCt(id:Nat):Prop:=kO id=47
structure C5 (s gq gi:Nat) (es:s_) (k:Nat) (aj:aB):Prop where
 q:aj 1600192192=(gq,some (.var [.hsl s gi 5 0 (I es),.p (.int .i64 k)]))
 b:aj s=(gi,some (.arr Qp 5 es))
def aqR(s u B:Nat)(g:s_)(k:Nat)(aj:aB)(v:V)(A:aB):Prop:=
 (k=I g/\v=.tup [.agg [.p (.int .i64 0),.p .nils,.p (.int .i64 0),.p .nils,.p .nils],fT false]/\ ∀i,¬ao0 i->A i=aj i)\/
 ∃e,g[k]?=some e/\v=.tup [.agg (e.map .p),fT true]/\C5 s u B g (k+1) A/\ ∀i,¬ao0 i->i≠1600192192->A i=aj i
def aBR{e:b_}(h:I e=5):∃D E A y x4,e=[D,E,A,y,x4]:=by
 match e,h with
 |[D,E,A,y,x4],_=>exact⟨_,_,_,_,_,rfl⟩
def aD7(s u:Nat)(g:s_)(k:Nat)(e:b_)(aj:aB)(v:V)(A:aB):Prop:=v=.tup []/\(∃f,C5 3008064448 u f (g++[e]) k A)/\ ∀i,¬aCt i->i≠1600192192->i≠s->A i=aj i
abbrev wu(s:Nat):Prop:=s=1600192064\/s=3008064448
def axQ{al:cG}{s:Nat}(hs:wu s){aj:aB}{k:Nat}(M:al.ok 1600192192)(os:al.ok s)(Up:al.ok 2816000000)(O:al.ok 2816128000)(h:C5 s u B g k aj)(T:∀e∈g,I e=5)(hl:I g<=1000000)(hk:k<=I g):
  ∃v L,je S 44 [.one (.bh 1600192192 u 0)] al aj v L/\aqR s u B g k aj v L:=by
 rcases hs with rfl|rfl
 all_goals
  obtain⟨F,f⟩:=h;refine nc aCG (jn rfl) ?_;by_cases z:k<I g
  .have Z:(((k:Int))==(I g:Int))=false:=by rw[ng];omega
   obtain⟨e,x⟩:=aR z;obtain⟨D,E,A,y,x4,rfl⟩:=aBR (T e (ch x));have N:=cP (n:=k) J;have Y:IntKind.i64.wrap (((k+1:Nat):Int)-1)=(k:Int):=by rw[nK J J];omega
   simp only[go_sem,aeB,F,f,M,os,Up,O,Z,z,x,N,Y,af,au];refine⟨aI,aI,.inr ⟨_,x,rfl,⟨?_,?_⟩,λi H Q=>?_⟩⟩
   .simp only[aT,Nat.reduceEqDiff,if_true,if_false]
   .simp only[aT,Nat.reduceEqDiff,if_false];exact f
   have m:i≠2816000000:=λe=>H (by rw[e];rfl);simp only[aT,aw Q,aw m]
  have X:k=I g:=J;subst X;have j:(((I g:Int))==(I g:Int)):=aQ;simp only[go_sem,aeB,F,f,M,os,Up,O,j,af,au];refine⟨aI,.inl ⟨rfl,rfl,λi H=>?_⟩⟩;have m:i≠2816000000:=λe=>H (by rw[e];rfl);have R:i≠2816128000:=λe=>H (by rw[e];rfl);simp only[aT,aw m,aw R]
def aqO{al:cG}{s:Nat}(hs:wu s){aj:aB}{k:Nat}{x4:PV}(L:al.ok 1600192192)(os:al.ok s)(F:al.ok 3008000000)(Q:al.ok 3008064384)(O:al.ok 3008064448)(h:C5 s u B g k aj)(aN:g≠[])(hl:I g<=1000000):
  ∃v x,je S 47 [.one (.bh 1600192192 u 0),.agg [.p D,.p E,.p A,.p y,.p x4]] al aj v x/\aD7 s u g k [D.norm,E.norm,A.norm,y.norm,x4.norm] aj v x:=by
 rcases hs with rfl|rfl
 all_goals
  obtain⟨m,f⟩:=h;refine nc ay7 (jn rfl) ?_;simp only[go_sem,alG,m,f,L,os,F,Q,O];refine HY (y:=3008064448) (bytes:=88) (j:=g) (B:=[[D.norm,E.norm,A.norm,y.norm,x4.norm]]) (rd:=[3008064384]) (λi z=>?_) (.inr ⟨aN,B,rfl,?_⟩) ?_ (.inl rfl) (by simp only[dw,eK];omega) λc' fy r1 u1 N j X=>?_
  .simp only[dk,iu,or_false]at z;rcases z with rfl|rfl|rfl<;>assumption
  .simp only[aT,Nat.reduceEqDiff,if_false];exact f
  .simp[fz,aT]
  have b0:=j 1600192192 U U;simp only[aT,Nat.reduceEqDiff,if_false]at b0;have M:=b0.trans m;rcases N with⟨e,_⟩|⟨_,Y,e2,R⟩
  .simp at e
  cases e2;simp only[go_sem,M,L,os,F,Q,O];refine⟨?_,rfl,⟨Y,?_,?_⟩,λi H T h3=>?_⟩
  .rcases X with⟨rfl,rfl⟩|⟨rfl,rfl⟩|⟨rfl,rfl⟩<;>kernel_rfl
  .simp only[aT,if_true]
  .simp only[aT,Nat.reduceEqDiff,if_false];exact R
  have Z:i≠3008000000:=λe=>H (by rw[e];rfl);have h5:i≠3008064384:=λe=>H (by rw[e];rfl);have h6:i≠3008064448:=λe=>H (by rw[e];rfl);simp only[aT,aw T];rw[j i h6 h3];simp only[aT,aw Z,aw h5]
abbrev adT(ps:sK):s_:=ps.map λp=>[.int .i64 p.1,.int .i64 p.2]
def iS:sK->Int
 |[]=>0
 |p::r=>if p.1=p.2 then iS r else if p.1<p.2 then -1 else 1
def arn{ps:sK}{k:Nat}{p:Int×Int}(h:ps[k]?=some p):(adT ps)[k]?=some [.int .i64 p.1,.int .i64 p.2]:=by rw[fY,h];rfl
def Ge{α:Type}{A:List α}{k:Nat}{a:α}(h:A[k]?=some a):A.drop k=a::A.drop (k+1):=by obtain⟨H,e⟩:=cD.1 h;rw[<-e,sQ]
def aox(ps:sK)(hl:I ps<=1000000):aJ S 66 [.one (.p (.sl (adT ps)))] (fQ (iS ps)):=by
 generalize B:iS ps=r;refine bt aG5 ?_;simp only[go_sem,ajT,af,au];refine c_ (λk h aj=>h 5=.one (.p (.sl (adT ps)))/\h 6=aC (I ps)/\h 7=aC k/\iS (ps.drop k)=r) 0 (I ps) (cE _) ?_ ?_
 .simp only[go_sem];first|exact B|exact⟨rfl,B⟩
 rintro k h aj D ⟨m,g,j,H⟩
 by_cases A:k<I ps
 .have z:(k:Int)<(I ps:Int):=J;obtain⟨p,hp⟩:=aR A;have f:=arn hp;have u:=cP (n:=k) J;rw[Ge hp]at H;obtain⟨x,y⟩:=p;unfold iS at H;dsimp only at H f;by_cases e:x=y
  .rw[aH e]at H;subst e;simp only[go_sem,MN,m,g,j,A,z,f,u,af,au];first|exact H|exact⟨rfl,H⟩|exact⟨A,H⟩
  rw[aw e]at H;have E:(x !=y):=by simpa using e
  by_cases l:x<y
  .rw[aH l]at H;subst H;simp only[go_sem,MN,m,g,j,A,z,f,u,E,l,af,au];first|done|rfl
  rw[aw l]at H;subst H;simp only[go_sem,MN,m,g,j,A,z,f,u,E,l,af,au];first|done|rfl
 have:k=I ps:=J;subst this;rw[Ak]at H;have H:0=r:=H;subst H;simp only[go_sem,MN,agv,m,g,j,dW,af,au]
def akj(b:Bool):aJ S 68 [fT b] (fQ (if b then 1 else 0)):=by
 cases b
 .refine bt ajz ?_;simp only[go_sem,adR,af,au];first|done|rfl
 refine bt ajz ?_;simp only[go_sem,adR,af,au];first|done|rfl
def ane{q:aa->Bool}{k:Nat}(h:L[k]?=some x):ai q (L.take (k+1))=ai q (L.take k)+(if q x then 1 else 0):=by rw[It h,Dl];congr 1;show List.countP _ [x]=_;rw[R8]
def anz(F:Int)(L:ae)(hl:I L<=1000000):aJ S 67 [df F L] (fQ ((ai aa.aF L:Nat):Int)):=by
 have M:∀k,ai aa.aF (L.take k)<=k:=λk=>by have:=Hn (p:=aa.aF) (l:=L.take k);rw[iM]at this;show List.countP _ _<=k;omega
 refine bt awV ?_;simp only[go_sem,aoh,af,au];refine c_ (λk h aj=>h 7=.one (.p (c8 L))/\h 8=aC (I L)/\h 9=aC k/\h 3=aC ((ai aa.aF (L.take k):Nat):Int)) 0 (I L) (cE _) ?_ ?_
 .simp only[go_sem];first|done|rfl|exact⟨rfl,rfl⟩
 rintro k h aj N ⟨m,g,j,f⟩
 by_cases A:k<I L
 .have D:(k:Int)<(I L:Int):=J;have y:=js A;have B:=fP y;have u:=cP (n:=k) J;have hs:=ane (q:=aa.aF) y;have O:=M k;have z:=cP (n:=ai aa.aF (L.take k)) J;generalize aZ L k=x at*;have E:x.aF=(x.kind==2):=rfl;rw[E]at hs;generalize ai aa.aF (L.take k)=d at*;cases H:(x.kind==2)with
  |false=>rw[H]at hs;simp only[go_sem,Q0,m,g,j,f,A,D,B,aa.ps,H,u,z,af,au];first|(rw[hs];rfl)|exact⟨A,by rw[hs];rfl⟩
  |true=>rw[H]at hs;simp only[go_sem,Q0,m,g,j,f,A,D,B,aa.ps,H,u,z,af,au];first|(rw[hs];rfl)|exact⟨A,by rw[hs];rfl⟩
 have:k=I L:=J;subst this;rw[jN]at f;simp only[go_sem,Q0,ahi,m,g,j,f,dW,af,au]
def CM(a b:aa):sK:=[(a.kind,b.kind),(a.gate,b.gate),(a.ay,b.ay),(a.id,b.id),(if a.over then 1 else 0,if b.over then 1 else 0),(a.sign,b.sign)]
def L6:ae->ae->Int
 |a::A,b::B=>if iS (CM a b)=0 then L6 A B else iS (CM a b)
 |_,_=>0
def CI(f:Int)(A:ae)(g:Int)(B:ae):sK:=[(f,g),(((ai aa.aF A:Nat):Int),((ai aa.aF B:Nat):Int)),((I A:Int),(I B:Int))]
def yr(f:Int)(A:ae)(g:Int)(B:ae):Int:=if iS (CI f A g B)=0 then L6 A B else iS (CI f A g B)
def ajL{ps:sK}(h:iS ps=0):∀p∈ps,p.1=p.2:=by
 induction ps with
 |nil=>intro p hp;cases hp
 |cons q r f=>
  unfold iS at h;by_cases e:q.1=q.2
  .rw[aH e]at h;intro p hp;rcases dk.1 hp with rfl|hp
   .exact e
   exact f h p hp
  rw[aw e]at h;split at h<;>cases h
def aHK{ps:sK}(h:∀p∈ps,p.1=p.2):iS ps=0:=by
 induction ps with
 |nil=>rfl
 |cons q r f=>unfold iS;rw[aH (h q aQ)];exact f λp hp=>h p (by simp[hp])
def aHS{a b:aa}(h:iS (CM a b)=0):a=b:=by
 have h:=ajL h;unfold CM at h;simp only[dk,iu,or_false,forall_eq_or_imp,forall_eq]at h;obtain⟨u,H,f,m,x,j⟩:=h;cases a with|mk k g r i s o=>cases b with|mk B A R z y O=>
 dsimp only at*;have:o=O:=by revert x;cases o<;>cases O<;>simp
 subst u H f m j this;rfl
def aHO:∀ {A B:ae},I A=I B->L6 A B=0->A=B:=by
 intro A
 induction A with
 |nil=>intro B h _;cases B with
  |nil=>rfl
  |cons _ _=>cases h
 |cons a A f=>
  intro B h H;cases B with
  |nil=>cases h
  |cons b B=>
   unfold L6 at H;by_cases e:iS (CM a b)=0
   .rw[aH e]at H;rw[aHS e,f (by simpa using h) H]
   rw[aw e]at H;exact absurd H e
def aHP(A:ae):L6 A A=0:=by
 induction A with
 |nil=>rfl
 |cons a A f=>unfold L6;rw[aH (aHK (by unfold CM;simp))];exact f
def aHN{f g:Int}{A B:ae}:yr f A g B=0↔f=g/\A=B:=by
 unfold yr;constructor
 .intro h;by_cases e:iS (CI f A g B)=0
  .rw[aH e]at h;have e:=ajL e;unfold CI at e;simp only[dk,iu,or_false,forall_eq_or_imp,forall_eq]at e;exact⟨e.1,aHO J h⟩
  rw[aw e]at h;exact absurd h e
 rintro⟨rfl,rfl⟩
 rw[aH (aHK (by unfold CI;simp))];exact aHP A
def awF(f:Int)(A:ae)(g:Int)(B:ae)(hA:I A<=1000000)(hB:I B<=1000000):aJ S 34 [df f A,df g B] (fQ (yr f A g B)):=by
 have c1:=anz f A hA;have c2:=anz g B hB;have Q:=aox (CI f A g B) (by simp[CI]);have L:aJ S 66 [.one (.p (.sl [[.int .i64 f,.int .i64 g],[.int .i64 ((ai aa.aF A:Nat):Int),.int .i64 ((ai aa.aF B:Nat):Int)],[.int .i64 (I A),.int .i64 (I B)]]))] (fQ (iS (CI f A g B))):=Q;clear Q;generalize m:yr f A g B=r;unfold yr at m;by_cases e:iS (CI f A g B)=0
 .rw[aH e]at m;have T:I A=I B:=by
   have e:=ajL e;unfold CI at e;simp only[dk,iu,or_false,forall_eq_or_imp,forall_eq]at e;omega
  rw[e]at L;refine bt afy ?_;simp only[go_sem,WR,agU,Un,ek c1,ek c2,ek L,af,au];refine⟨aI,?_⟩;refine c_ (λk h aj=>h 2=.one (.bh 2176000000 1 0)/\h 3=.one (.bh 2176000064 1 0)/\aj 2176000000=(1,some (.var [.p (.int .i64 f),.p (c8 A)]))/\aj 2176000064=(1,some (.var [.p (.int .i64 g),.p (c8 B)]))/\h 33=.one (.p (c8 A))/\h 34=aC (I A)/\h 35=aC k/\L6 (A.drop k) (B.drop k)=r) 0 (I A) (cE _) ?_ ?_
  .simp only[go_sem];first|exact m|exact⟨rfl,m⟩|exact⟨rfl,rfl,m⟩|trace_state
  rintro k h aj hk ⟨D,N,b0,z,X,F,j,H⟩
  by_cases u:k<I A
  .have aO:(k:Int)<(I A:Int):=J;have Y:k<I B:=J;have hx:=js u;have hy:=js Y;have R:=fP hx;have Z:=fP hy;have O:=cP (n:=k) J;rw[Ge hx,Ge hy]at H;unfold L6 at H;generalize aZ A k=x at*;generalize aZ B k=y at*;have n1:=akj x.over;have n2:=akj y.over;have pl:=aox (CM x y) (by simp[CM]);have M:aJ S 66 [.one (.p (.sl [[.int .i64 x.kind,.int .i64 y.kind],[.int .i64 x.gate,.int .i64 y.gate],[.int .i64 x.ay,.int .i64 y.ay],[.int .i64 x.id,.int .i64 y.id],[.int .i64 (if x.over then 1 else 0),.int .i64 (if y.over then 1 else 0)],[.int .i64 x.sign,.int .i64 y.sign]]))] (fQ (iS (CM x y))):=pl;clear pl;by_cases e2:iS (CM x y)=0
   .rw[aH e2]at H;rw[e2]at M;simp only[go_sem,Tp,D,N,b0,z,X,F,j,u,Y,aO,R,Z,aa.ps,O,amW,Un,ek n1,ek n2,ek M,af,au];first|exact⟨aI,H⟩|exact⟨aI,u,H⟩|trace_state
   rw[aw e2]at H;subst H;have E:(iS (CM x y)!=0):=by simpa using e2
   simp only[go_sem,Tp,D,N,b0,z,X,F,j,u,Y,aO,R,Z,aa.ps,O,amW,Un,ek n1,ek n2,ek M,E,af,au];first|exact⟨aI,rfl⟩|exact aI|trace_state
  have:k=I A:=J;subst this;rw[Ak]at H;have H:0=r:=by rw[<-H];cases B.drop (I A)<;>rfl
  subst H;simp only[go_sem,Tp,anI,D,N,b0,z,X,F,j,dW,af,au];first|done|rfl
 rw[aw e]at m;subst m;have e':(iS (CI f A g B)!=0):=by simpa using e
 refine bt afy ?_;simp only[go_sem,WR,agU,Un,ek c1,ek c2,ek L,e',af,au];first|exact⟨aI,rfl⟩|exact aI|trace_state
abbrev D6(F:Nat)(l:uk):s_:=l.map λL=>[.int .i64 F,c8 L]
def afw{l:uk}{k:Nat}(h:l[k]?=some L):(D6 F l)[k]?=some [.int .i64 F,c8 L]:=by rw[fY,h];rfl
def qL(F:Nat)(l:uk):Nat->Int
 |0=> -1
 |k+1=>if qL F l k<0 then(k:Int)else if yr F (l.getD k []) F (l.getD (qL F l k).toNat [])<0 then(k:Int)else qL F l k
def T5(F:Nat)(l:uk):∀k,(k=0/\qL F l k= -1)\/(0<=qL F l k/\qL F l k<k):=by
 intro k
 induction k with
 |zero=>exact .inl ⟨rfl,rfl⟩
 |succ k f=>
  right;unfold qL;split
  .omega
  split
  .omega
  omega
def aFc(F:Nat)(l:uk)(hl:I l<=1000000)(Z:∀L∈l,I L<=1000000):aJ S 20 [.one (.p (.sl (D6 F l)))] (fQ (qL F l (I l))):=by
 refine bt aDy ?_;simp only[go_sem,i20,af,au];refine c_ (λk h aj=>h 0=.one (.p (.sl (D6 F l)))/\h 6=.one (.p (.sl (D6 F l)))/\h 7=aC (I l)/\h 8=aC k/\h 3=aC (qL F l k)) 0 (I l) (cE _) ?_ ?_
 .simp only[go_sem];first|done|rfl|exact⟨rfl,rfl⟩
 rintro k h aj hk ⟨y,O,j,u,f⟩
 by_cases A:k<I l
 .have N:(k:Int)<(I l:Int):=J;obtain⟨X,B⟩:=aR A;have H:=afw (F:=F) B;have x:=cP (n:=k) J;have Q:l.getD k []=X:=by rw[dS,B];rfl
  have D:I (D6 F l)=I l:=cH ..;have hs:qL F l (k+1)=if qL F l k<0 then(k:Int)else if yr F X F (l.getD (qL F l k).toNat [])<0 then(k:Int)else qL F l k:=by rw[<-Q];rfl
  rcases T5 F l k with⟨wH,z⟩|⟨nQ,jH⟩
  .rw[z]at hs f;rw[aH U]at hs;have T:((-1:Int)<0):=U;simp only[go_sem,MX,y,O,j,u,f,A,N,H,D,x,T,af,au];first|exact⟨aI,by rw[hs]⟩|exact⟨aI,A,by rw[hs]⟩|trace_state
  obtain⟨b,z⟩:=qX nQ;rw[z]at hs f jH;have R:b<I l:=J;obtain⟨Y,M⟩:=aR R;have g:=afw (F:=F) M;have E:l.getD b []=Y:=by rw[dS,M];rfl
  rw[s9,E,aw J]at hs;have T:¬((b:Int)<0):=J;have pc:=awF F X F Y (Z X (ch B)) (Z Y (ch M));have QY:aJ S 34 [.agg [.p (.int .i64 F),.p (c8 X)],.agg [.p (.int .i64 F),.p (c8 Y)]] (fQ (yr F X F Y)):=pc;clear pc;generalize yr F X F Y=o at*;by_cases m:o<0
  .rw[aH m]at hs;simp only[go_sem,MX,y,O,j,u,f,A,N,R,H,g,D,x,T,agF,ek QY,m,af,au];first|exact⟨aI,by rw[hs]⟩|exact⟨aI,A,by rw[hs]⟩|trace_state
  rw[aw m]at hs;simp only[go_sem,MX,y,O,j,u,f,A,N,R,H,g,D,x,T,agF,ek QY,m,af,au];first|exact⟨aI,by rw[hs]⟩|exact⟨aI,A,by rw[hs]⟩|trace_state
 have:k=I l:=J;subst this;simp only[go_sem,MX,ail,j,u,f,dW,af,au]
def acw(F:Nat)(L:ae)(x:dx×Bool):Prop:=aJ S 27 [df F L] (xY x.1 x.2)/\(x.2->rq F L w8 x.1/\ ¬Ik F L)/\(x.2=false->Ik F L)
def aBW{F:Nat}(h:dA (F:Int) L=0):∃x,acw F L x:=by
 rcases alg h with⟨m,H,g,f⟩|⟨H,f⟩
 .exact⟨(m,true),f,λ_=>⟨H,g⟩,λh=>(by cases h)⟩
 exact⟨(LD,false),f,λh=>(by cases h),λ_=>H⟩
open Classical in
noncomputable def s8 (F:Nat) (L:ae):dx×Bool:=if h:∃x,acw F L x then Classical.choose h else(LD,false)
def ab9{F:Nat}(h:dA (F:Int) L=0):acw F L (s8 F L):=by have H:=aBW h;unfold s8;rw[dif_pos H];exact Classical.choose_spec H
abbrev Bg:cV:=[3,8]
def NM:∀k∈Bg,uC k:=by intro k h;simp only[dk,iu,or_false]at h;unfold uC ef;omega
def adi(F:Nat)(L:ae)(M:dB):Prop:=(I M<=8000/\ ∀m∈M,rq F L Bg m)/\aJ S 45 [df F L,.one (.p (.sl (dR Bg)))] (.tup [.one (aX iN 7 (aS M)),.one (.p (.int .i64 0))])
open Classical in
noncomputable def k9 (F:Nat) (L:ae):dB:=if h:∃m,adi F L m then Classical.choose h else []
def ac8{F:Nat}(h:dA (F:Int) L=0):adi F L (k9 F L):=by have H:∃m,adi F L m:=Y6 h Bg U NM;unfold k9;rw[dif_pos H];exact Classical.choose_spec H
abbrev aGA(id:Nat):Prop:=kO id=26
def asu(f g:Nat)(b:Bool)(aj:aB)(v:V)(A:aB):Prop:=v=fT b/\A f=(g,some (.var [.p (.bool b)]))/\ ∀i,¬aGA i->i≠f->A i=aj i
def aGR{al:cG}{aj:aB}{g:Nat}{x4:PV}{b0:Bool}{b:Bool}(hp:aJ S 27 [df F L] (xY m b))(ov:al.ok 512512000)(O:al.ok 1664000000)(Q:al.ok 1664064128)(h:aj 512512000=(g,some (.var [.p (.bool b0)]))):
  ∃v f,je S 26 [.agg [.p (.int .i64 F),.p (c8 L),.p A,.p y,.p x4],.one (.bh 512512000 g 0)] al aj v f/\asu 512512000 g b aj v f:=by
 refine nc aq9 (jn rfl) ?_;simp only[go_sem,ajr,h,ov,O,Q,RO,af,au];rw[MA hp HE];refine⟨by simp only[Gt,F_,O,wX,jS,lg],?_⟩;simp only[go_sem,h,ov,O,Q,af,au];refine⟨rfl,?_,λi j H=>?_⟩
 .simp only[aT,Nat.reduceEqDiff,if_true,if_false]
 have u:i≠1664000000:=λe=>j (by rw[e];rfl);simp only[aT,aw H,aw u]
section
variable {al:cG} {Q:fM} {h:bn} {aj:aB} {os all:eZ} {tr:fU} {d:eh}
def aCs{s:Nat}{rd:aG}{x:PV}(N:∀i∈s::rd,al.ok i)(hp:aJ S f M (.tup [.one (aX j z g),.one (.p x)]))(F:S.lone s=false)(hs:(g.all λe=>e.all PV.scalar))(D:x.scalar)
  (E:∀(c:c6) A,aY s j z g (.one c) A->(∀i,i≠s->A i=aj i)->iH S al os Q (dF h d (.tup [.one c,.one (.p x)])) A):iU S al (.pc f M rd s) d os Q h aj:=by
 obtain⟨L,m,B⟩:=tZ (aj:=aj) (s:=s) (m:=j) (z:=z) (j:=g);have y:(RV.tup [.one (aX j z g),.one (.p x)]).alone:=by have a:=pA (m:=j) (z:=z) hs;simp only[RV.alone,iV,ja,mN,oc,r5]at a;simp only[RV.alone,iV,oL,ja,nA,fN,lg,mN,oc,r5,a,tg];exact D
 refine(MA (v:=.tup [.one (d_ aj s (aX j z g)).1,.one (.p x)]) (u:=(d_ aj s (aX j z g)).2) hp ?_).2 ⟨DX λi H=>N i ?_,E _ _ L m⟩
 .rw[F,uD];unfold eF;rw[aH (.inr y)];simp[jf,iV,oL,ja,kC,sJ,ti,ox,d_]
 rcases B with O|O<;>rw[O]at H<;>simp at H<;>simp[H]
 rcases H with H|H<;>simp[H]
def aEW{s:Nat}{rd:aG}{x y:PV}(R:∀i∈(s+1)::rd,al.ok i)(hp:aJ S f M (.tup [.agg [.p x,aX j z g],.one (.p y)]))(L:S.lone s=false)(F:x.scalar)(m:y.scalar)(hs:(g.all λe=>e.all PV.scalar))
  (N:∀(c:c6) A,aY (s+1) j z g (.one c) A->(∀i,i≠s+1->A i=aj i)->iH S al os Q (dF h d (.tup [.agg [.p x,c],.one (.p y)])) A):iU S al (.pc f M rd s) d os Q h aj:=by
 obtain⟨O,B,E⟩:=tZ (aj:=aj) (s:=s+1) (m:=j) (z:=z) (j:=g);have D:(RV.tup [.agg [.p x,aX j z g],.one (.p y)]).alone:=by have a:=pA (m:=j) (z:=z) hs;simp only[RV.alone,iV,ja,mN,oc,r5]at a;simp only[RV.alone,iV,oL,ja,nA,fN,lg,mN,oc,r5,a,tg];show(x.scalar&&y.scalar)=true;rw[F,m];rfl
 refine(MA (v:=.tup [.agg [.p x,(d_ aj (s+1) (aX j z g)).1],.one (.p y)]) (u:=(d_ aj (s+1) (aX j z g)).2) hp ?_).2 ⟨DX λi H=>R i ?_,N _ _ O B⟩
 .rw[L,uD];unfold eF;rw[aH (.inr D)];simp[jf,iV,oL,ja,kC,sJ,ti,ox,d_]
 rcases E with T|T<;>rw[T]at H<;>simp at H<;>simp[H]
 rcases H with H|H<;>simp[H]
def WB{s:Nat}{rd:aG}{x4:PV}{l:Bool}(g:rh aj rd):∃u,eF aj rd s ((RV.agg [.p D,.p E,.p A,.p y,.p x4]).fi l)=some (.agg [.p D,.p E,.p A,.p y,.p x4],u)/\(∀i,i∉rd->app u aj i=aj i)/\(∀i∈u.map (·.1),i∈rd)/\(u.map (·.1)=[]\/u.map (·.1)=rd):=by
 have hp:(RV.agg [.p D,.p E,.p A,.p y,.p x4]).fi l=.agg [.p D,.p E,.p A,.p y,.p x4]:=by cases l<;>rfl
 rw[hp];unfold eF;by_cases h:rd=[]\/(RV.agg [.p D,.p E,.p A,.p y,.p x4]).alone
 .rw[aH h];exact⟨[],rfl,λ_ _=>rfl,(λi H=>by cases H),.inl rfl⟩
 rw[aw h];obtain⟨F,j,f⟩:=abE rd rd g;have:t_ aj rd=some F:=j;rw[this];refine⟨F,?_,λi H=>H6 _ _ _ (by rw[f];exact H),λi H=>by rw[f]at H;exact H,.inr f⟩;show some (_,F++[])=_;rw[lg];rfl
end
abbrev CN(l:List ByteArray):w_:=l.map λs=>(PV.str s,[PV.bool true])
def awr(q:ByteArray):∀(l:List ByteArray) (i:Nat),(l.any (λs=>q==s)/\ ∃j,sZ (.str q) (CN l) i=some (some (j,[.bool true])))\/(l.any (λs=>q==s)=false/\sZ (.str q) (CN l) i=some none):=by
 intro l
 induction l with
 |nil=>intro i;exact .inr ⟨rfl,rfl⟩
 |cons a l f=>
  intro i;have e:sZ (.str q) (CN (a::l)) i=match some (q==a)with|some true=>some (some (i,[.bool true]))|some false=>sZ (.str q) (CN l) (i+1)|none=>none:=rfl
  rw[e,QH];cases h:(q==a)with
  |true=>exact .inl ⟨rfl,i,rfl⟩
  |false=>exact f (i+1)
def dM.key(F:Nat)(m:dM):ByteArray:=s7 F m.n
noncomputable def nL (F L:Nat) (a:dM) (f:lT) (m:dx):Nat×lT:=
 if(f.map (dM.key F)).any (λs=>s7 F (fW ((iY F a.c m).getD []))==s)then(0,f)
 else if I f=L then(1,f)
 else(if(s8 F ((iY F a.c m).getD [])).2 then 2 else 0,f++[⟨(iY F a.c m).getD [],fW ((iY F a.c m).getD []),a.w++[m]⟩])
noncomputable def kE (F L:Nat) (a:dM):lT->dB->Nat×lT
 |f,[]=>(0,f)
 |f,m::r=>if(nL F L a f m).1=0 then kE F L a (nL F L a f m).2 r else nL F L a f m
noncomputable def Ap (F L:Nat):Nat->Nat->lT->Nat×lT
 |0,_,g=>(0,g)
 |f+1,i,g=>match g[i]? with
  |none=>(0,g)
  |some a=>if(kE F L a g (k9 F a.c)).1=0 then Ap F L f (i+1) (kE F L a g (k9 F a.c)).2 else kE F L a g (k9 F a.c)
structure uz (F:Nat) (L0:ae) (n:Nat) (m:dM):Prop where
 chk:dA (F:Int) m.c=0
 Et:m.n=fW m.c
 rep:pJ F L0 m.w=some m.c
 kind:∀x∈m.w,x.k∈Bg
 len:I m.w<=n
 same:I m.c=I L0
structure yV (al:cG):Prop where
 c:∀id,kO id=25->al.ok id
 t:al.fs.contains 44
 a:al.fs.contains 47
 s:al.fs.contains 26
 v:al.ok 512512000
def yV.fn{al:cG}{id:Nat}(h:al.fs.contains f)(e:kO id=f):al.ok id:=by unfold cG.ok;rw[e,h];simp
def yV.gH{al:cG}(A:yV al):al.ok 1600000000/\al.ok 1600064128/\al.ok 1600128000/\al.ok 1600192064/\al.ok 1600192192/\al.ok 1600256256/\al.ok 1600448128/\al.ok 1600448192/\al.ok 1600640128/\al.ok 1600704193/\al.ok 1600704448/\al.ok 1600768192/\al.ok 1600768320/\al.ok 1600768384/\al.ok 1600768512:=by
 repeat' apply And.intro
 all_goals exact A.c _ rfl
abbrev Mm(gv:Nat):V:=.one (.hfn 26 [] [.bh 512512000 gv 0])
def oq(i:Nat):Prop:=kO i=25\/kO i=44\/kO i=47\/kO i=26
def wu.ok{al:cG}{s:Nat}(h:wu s)(A:yV al):al.ok s:=by
 rcases h with rfl|rfl
 .exact A.c _ rfl
 exact yV.fn A.a rfl
def wu.own{s:Nat}(h:wu s):oq s:=by
 rcases h with rfl|rfl
 .exact .inl rfl
 exact .inr (.inr (.inl rfl))
def wu.no{s i:Nat}(H:wu s)(h:¬oq i):i≠s:=λe=>h (e▸H.own)
def wu.ne{s:Nat}(h:wu s):¬s=1600000000/\ ¬s=1600064128/\ ¬s=1600128000/\ ¬s=1600192192/\ ¬s=1600256256/\ ¬s=1600448128/\ ¬s=1600448192/\ ¬s=1600640128/\ ¬s=1600704193/\ ¬s=1600704448/\ ¬s=1600768192/\ ¬s=1600768320/\ ¬s=1600768384/\ ¬s=1600768512/\ ¬s=512512000:=by rcases h with rfl|rfl<;>decide
structure ya (F limit:Nat) (L0:ae) (gv:Nat) (r0:aG) (b0:aB) (gq gM:Nat) (st:lT) (k:Nat) (ak:bn) (aj:aB):Prop where
 e1:ak 1=aC limit
 e2:ak 2=Mm gv
 e9:ak 9=.one (.mS 1600128000 gM)
 fD:ak 10=.one (.bh 1600192192 gq 0)
 bM:aj 1600128000=(gM,some (.map false (CN (st.map (dM.key F)))))
 que:∃s,wu s/\ ∃gi,C5 s gq gi (gX F st) k aj
 bv:aj 512512000=(gv,some (.var [.p (.bool false)]))
 ne:st≠[]
 lim:I st<=limit
 all:∀m∈st,uz F L0 (I st) m
 fr:∀i,¬oq i->i≠512512000->i∉r0->aj i=b0 i
def Ad(F:Nat)(l:lT):I (gX F l)=I l:=cH ..
def aCS(F:Nat)(l:lT):∀e∈gX F l,I e=5:=λe h=>by obtain⟨m,_,rfl⟩:=eg.1 h;rfl
def sY{i:Nat}{o:Nat}(h:¬oq i)(e:kO o=f)(H:f=25\/f=44\/f=47\/f=26):i≠o:=λg=>h (by rw[g];unfold oq;rw[e];exact H)
structure MC (F:Nat) (L0:ae) (gv:Nat) (r0:aG) (b0:aB) (r:Nat×lT) (gq:Nat) (ak:bn) (aj:aB):Prop where
 fD:ak 10=.one (.bh 1600192192 gq 0)
 que:∃k s,wu s/\ ∃gi,C5 s gq gi (gX F r.2) k aj
 bv:aj 512512000=(gv,some (.var [.p (.bool (r.1==2))]))
 ne:r.2≠[]
 all:∀m∈r.2,uz F L0 (I r.2) m
 fr:∀i,¬oq i->i≠512512000->i∉r0->aj i=b0 i
def uz.mono{n N:Nat}{m:dM}(h:uz F H n m)(f:n<=N):uz F H N m:=⟨h.chk,h.Et,h.rep,h.kind,lX h.len f,h.same⟩
def anE{F:Nat}(h:dA (F:Int) L=0):∀l∈L,aaC l:=by
 intro l hl;have A:L≠[]:=U6 hl;obtain⟨G,e,g⟩:=uU h A;have x:=g.len;have y:=g.fing;have H:=g.bad l hl;rcases yO H with hp|f
 .obtain⟨g0,g1,r0,r1⟩:=g.ok.ax.fK l hl hp;have:=qk (pP l.gate.toNat) L;have m:l.id=0:=((sU hp).1 H).1.1.2;simp only[di]at r1;refine⟨⟨J,J⟩,⟨J,J⟩,⟨J,J⟩⟩
 obtain⟨i1,i2⟩:=g.ids.1 l hl f;have:=qk aa.aF L;have u:l.gate=0/\l.ay=0:=by unfold eO at H;have j:l.kind=2:=dI.1 f;simp[j]at H;exact⟨by have:=H;omega,by have:=H;omega⟩
 refine⟨⟨J,J⟩,⟨J,J⟩,⟨J,J⟩⟩
def afe{n:Nat}{a:dM}(B:uz F H n a)(x:rq F a.c Bg m):∃M,iY F a.c m=some M/\aJ S 41 [df F a.c,D_ m] (nm F M)/\dA (F:Int) M=0/\M≠[]/\I M=I a.c/\pJ F H (a.w++[m])=some M:=by
 have A:a.c≠[]:=by obtain⟨_,⟨v,z,_⟩,_⟩:=x;intro e;rw[e]at z;exact absurd z (mX v)
 obtain⟨G,e,g⟩:=uU B.chk A;have:F=G:=J;subst this;have u:m.k=3\/m.k=8:=by
  have:=x.1
  simpa using this
 have y:ef m.k:=by unfold ef;omega
 have pa:=alo g y m.a m.b m.c m.l m.o m.s;obtain⟨_,_,R,E⟩:=x;rcases QL g y m.a m.b m.c m.l m.o m.s with⟨e,N,h⟩|⟨M,h,O,_,L,f,D⟩
 .rw[E]at h;exact absurd h (UR N)
 rw[h]at pa;have j:I M=I a.c:=by
  rw[D,akZ];rcases u with u|u
  .rw[u]at f;have f:vQ F a.c m.a.toNat m.b.toNat=some L:=f;unfold vQ at f;split at f
   .cases f;rw[B9,Bq,Bq,cU]
   cases f
  rw[u]at f;have f:ui F a.c m.a.toNat m.b.toNat m.c.toNat=some L:=f;unfold ui at f;split at f
  .cases f;rw[B9,cU]
  cases f
 have Q:=adK A h;refine⟨M,Q,pa,O,?_,j,by rw[ade m B.rep];exact Q⟩;intro e;rw[e]at j;exact A (uE.1 j.symm)
def BU(l:dB):au 7 (aS l):=by simp[au,dx.ps]
def ayT{w:dB}(A:w≠[])(hl:I w<=1000000):aJ S 46 [.one (.p (ob w))] (.one (aX iN 7 (aS w))):=by
 have hs:((aS w).all λe=>I e==7):=BU w;have h:(0+I (aS w))*48<=mi:=by unfold mi;rw[cH];omega
 show aJ S _ [.one (.p (.sl (aS w)))] _;obtain⟨E,g,hq⟩:∃E g,aS w=E::g:=by cases w with
  |nil=>exact absurd rfl A
  |cons a t=>exact⟨_,_,rfl⟩
 rw[hq]at hs h |-;refine bt aF0 ?_;have A:E::g≠[]:=aQ;have u:aX iN 7 (E::g)=.own iN 7 (E::g):=aw A;rw[u];unfold mi at h;simp only[kA,dw]at h;simp only[au,mN]at hs;simp only[go_sem,i46,af,au];simp only[hs,h,not_true_eq_false,if_true,if_false];simp only[go_sem,af,au];exact E3 sW rfl
section
variable {al:cG} {Q:fM} {h:bn} {aj:aB} {os all:eZ} {tr:fU} {d:eh}
def auO{s:Nat}{rd:aG}(D:∀i∈s::rd,al.ok i)(hp:aJ S f M (.one (aX j z g)))(F:S.lone s=false)(T:rd=[]\/(RV.one (aX j z g)).alone)
  (y:∀(c:c6) A w,aY s j z g (.one c) A->(∀i,i≠s->A i=aj i)->(w=[]\/w=[s])->n9 S al all os Q (dF h d (.one c)) A (tr++[⟨rd++w,w,[]⟩])):pM S al (.pc f M rd s) d all os Q h aj tr:=by
 obtain⟨B,x,m⟩:=tZ (aj:=aj) (s:=s) (m:=j) (z:=z) (j:=g);refine(JU (v:=.one (d_ aj s (aX j z g)).1) (u:=(d_ aj s (aX j z g)).2) hp ?_).2 ⟨DX λi H=>D i ?_,y _ _ _ B x m⟩
 .rw[F,uD];unfold eF;rw[aH T];simp[jf,iV,ja,kC,sJ,ox]
 rcases m with E|E<;>rw[E]at H<;>simp at H<;>simp[H]
 rcases H with H|H<;>simp[H]
end
end Go.Abs
