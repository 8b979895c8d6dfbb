/-
  The document makes the form of a code as the program does.
-/
import Derived.Test.YtnhlfpanllllgaaGreatDoorOa
import Derived.Test.YtnhlfpanllllgaaGreatDoorRh
set_option linter.all false
open List renaming length->I
set_option maxRecDepth 100000
set_option maxHeartbeats 16000000
namespace Go.Abs
variable{m:dx}{g O N M z H:Nat}{j:bn}{Q:fM}{y:PV}{E:s_}{L A B:ae}{h:lT}{D:dB}{f:Int}
section
variable{F u:Nat}{x:PV}
def afX(f:Int)(A B:ae)(hA:I A<=1000000)(hB:I B<=1000000):aJ S 15 [df f A,df f B] (dn (decide (A=B))):=by
 by_cases hl:I A=I B
 .have e1:((I A:Int)!=(I B:Int))=false:=by rw[hl];simp
  refine bt akc ?_;simp only[go_sem,adL,e1,af,au];refine c_ (λk j aj=>j 2=.one (.bh 960000000 1 0)/\j 3=.one (.bh 960000064 1 0)/\j 5=aC k/\aj 960000000=(1,some (.var (oz f A)))/\aj 960000064=(1,some (.var (oz f B)))/\A.take k=B.take k) 0 (I A) (cE _) ?_ ?_
  .simp only[go_sem];first|done|rfl
  rintro k j aj Z ⟨z,F,N,b0,u,D⟩
  by_cases M:k<I A
  .have T:((k:Int)<(I A:Int)):=J;have Y:k<I B:=J;have Q:=cP (n:=k) J;obtain⟨x,L⟩:=aR M;obtain⟨y,g⟩:=aR Y;have R:=fP L;have H:=fP g;have E:=ap7 x y;cases h:oE x y with
   |true=>
    rw[h]at E;have X:=(avD x y).1 h;have m:A.take (k+1)=B.take (k+1):=by rw[iJ,iJ,D,L,g,X]
    simp only[go_sem,SQ,z,F,N,b0,u,M,T,Y,R,H,aa.ps,Q,E,bne,af,au];first|done|exact aI|exact⟨aI,rfl⟩|exact⟨aI,m⟩|exact⟨aI,rfl,m⟩|exact⟨m,aI⟩|trace_state
   |false=>
    rw[h]at E;have O:decide (A=B)=false:=tJ λe=>by subst e;rw[L]at g;cases g;rw[OR]at h;cases h
    rw[O];simp only[go_sem,SQ,z,F,N,b0,u,M,T,Y,R,H,aa.ps,Q,E,bne,af,au];first|done|exact aI|exact⟨aI,rfl⟩|trace_state
  have:k=I A:=J;subst this;have h:decide (A=B)=true:=xi (by rw[e_ (cT _),e_ J]at D;exact D);rw[h];simp only[go_sem,SQ,aib,z,F,N,b0,u,dW,af,au];first|done|rfl
 have e1:((I A:Int)!=(I B:Int)):=by simp;omega
 have O:decide (A=B)=false:=tJ λe=>hl (by rw[e]);rw[O];refine bt akc ?_;simp only[go_sem,adL,e1,af,au];first|done|rfl
abbrev Ab:Nat:=79
def Mk{l:lT}{k:Nat}{m:dM}(h:l[k]?=some m):(gX F l)[k]?=some (m.ps F):=by rw[fY,h];rfl
def asP(F:Nat)(h:lT)(A:ae)(hl:I h<=1000000)(hL:∀m∈h,I m.n<=1000000)(Z:I A<=1000000):aJ S 62 [.one (.p (.sl (gX F h))),df F A] (dn (decide (A∈h.map dM.n))):=by
 have u:=Ad F h;refine bt az7 ?_;simp only[go_sem,anY,u,af,au];refine c_ (λk j aj=>j 0=.one (.p (.sl (gX F h)))/\j 3=.one (.bh 3968000000 1 0)/\j 5=aC k/\aj 3968000000=(1,some (.var (oz F A)))/\A∉(h.map dM.n).take k) 0 (I h) (cE _) ?_ ?_
 .simp only[go_sem];first|done|rfl|exact⟨rfl,aQ⟩|simp
 rintro k j aj hk ⟨y,z,L,b0,B⟩
 by_cases f:k<I h
 .have T:((k:Int)<(I h:Int)):=J;have N:=cP (n:=k) J;obtain⟨x,D⟩:=aR f;have O:=Mk (F:=F) D;have X:(h.map dM.n)[k]?=some x.n:=by rw[fY,D];rfl
  have R:(c8 x.n).norm=.sl (bQ x.n):=rfl;have Q:=afX (F:Int) x.n A (hL x (ch D)) Z;have M:aJ S 15 [.agg [.p (.int .i64 F),.p (.sl (bQ x.n))],df F A] (dn (decide (x.n=A))):=Q;clear Q;by_cases H:x.n=A
  .rw[xi H]at M;have E:decide (A∈h.map dM.n)=true:=xi (H▸ch X);rw[E];simp only[go_sem,Re,y,z,L,b0,u,f,T,O,dM.ps,R,N,acK,aD M,dC M];first|done|exact aI|exact⟨aI,rfl⟩|rfl|trace_state
  rw[tJ H]at M;have g:A∉(h.map dM.n).take (k+1):=by
   rw[iJ,X,fc];rintro(Y|Y)
   .exact B Y
   simp at Y;exact H Y.symm
  simp only[go_sem,Re,y,z,L,b0,u,f,T,O,dM.ps,R,N,acK,aD M,dC M];first|done|exact g|exact⟨aI,g⟩|exact⟨f,g⟩|exact⟨aI,f,g⟩|trace_state
 have:k=I h:=J;subst this;have E:decide (A∈h.map dM.n)=false:=tJ (by rw[e_ (by rw[cH];exact cT _)]at B;exact B);rw[E];simp only[go_sem,Re,amz,y,z,L,b0,u,dW];first|done|rfl
def aF3{aj:aB}{s h T z:Nat}{x X m j:PV}{f:c6}{D:s_}(H:aj s=(g,some (.jw O 5 [[.p x,.p X,.p m,.p j,f]])))(gd:aY h T z D (.one f) aj):
  ∃fr,fz aj (.one (.hsl s g 5 0 1))=some ([[x.norm,X.norm,m.norm,j.norm,.sl D]],[s],fr)/\rh aj fr/\(fr=[]\/fr=[h]):=by
 obtain⟨r1,N,A,Q⟩:=gd.Rj;refine⟨r1,?_,A,Q⟩;simp only[fz,H];simp[ic,N,St]
def Sh(a b:Int):aJ S 63 [aC a,aC b] (fQ (iS [(a,b)])):=by
 refine bt aC4 ?_;unfold iS;by_cases e:a=b
 .subst e;have h:¬a<a:=J;rw[aH rfl];simp only[go_sem,QN,h,af,au];first|done|rfl
 rw[aw e];by_cases l:a<b
 .rw[aH l];simp only[go_sem,QN,l,af,au];first|done|rfl
 have g:b<a:=J;rw[aw l];simp only[go_sem,QN,l,g,af,au];first|done|rfl
def am5(b:Bool):aJ S 65 [fT b] (fQ (if b then 1 else 0)):=by
 refine bt aDJ ?_;cases b
 .simp only[go_sem,ace,af,au];first|done|rfl
 simp only[go_sem,ace,af,au];first|done|rfl
def al7(F:Int)(L:ae)(hl:I L<=1000000):aJ S 64 [df F L] (fQ ((ai aa.aF L:Nat):Int)):=by
 have E:∀k,ai aa.aF (L.take k)<=k:=λk=>by have:=Hn (p:=aa.aF) (l:=L.take k);rw[iM]at this;show List.countP _ _<=k;omega
 refine bt Lc ?_;simp only[go_sem,i64,af,au];refine c_ (λk j aj=>j 1=.one (.bh 4096000000 1 0)/\aj 4096000000=(1,some (.var [.p (.int .i64 F),.p (c8 L)]))/\j 4=aC k/\j 3=aC ((ai aa.aF (L.take k):Nat):Int)) 0 (I L) (cE _) ?_ ?_
 .simp only[go_sem];first|done|rfl|exact⟨rfl,rfl⟩
 rintro k j aj M ⟨g,b0,f,H⟩
 by_cases A:k<I L
 .have B:(k:Int)<(I L:Int):=J;have u:=js A;have z:=fP u;have m:=cP (n:=k) J;have hs:=ane (q:=aa.aF) u;have N:=E k;have y:=cP (n:=ai aa.aF (L.take k)) J;generalize aZ L k=x at*;have D:x.aF=(x.kind==2):=rfl;rw[D]at hs;generalize ai aa.aF (L.take k)=d at*;cases h:(x.kind==2)with
  |false=>rw[h]at hs;simp only[go_sem,Rk,g,b0,H,f,A,B,z,aa.ps,h,m,y,af,au];first|(rw[hs];rfl)|exact⟨A,by rw[hs];rfl⟩|trace_state
  |true=>rw[h]at hs;simp only[go_sem,Rk,g,b0,H,f,A,B,z,aa.ps,h,m,y,af,au];first|(rw[hs];rfl)|exact⟨A,by rw[hs];rfl⟩|trace_state
 have:k=I L:=J;subst this;rw[jN]at H;simp only[go_sem,Rk,ame,g,b0,H,f,dW,af,au]
def aca(p:Int×Int)(r:sK):iS (p::r)=if iS [p]=0 then iS r else iS [p]:=by
 by_cases e:p.1=p.2
 .have H:∀r,iS (p::r)=iS r:=λr=>aH e;rw[H,H];rfl
 have h:∀r,iS (p::r)=if p.1<p.2 then -1 else 1:=λr=>aw e;have f:(if p.1<p.2 then(-1:Int)else 1)≠0:=by split<;>decide
 rw[h r,h [],aw f]
abbrev aaG(ps:sK):s_:=ps.map λp=>[.int .i64 p.1]
abbrev adF(ps:sK):s_:=ps.map λp=>[.int .i64 p.2]
def aqQ{ps:sK}{g1 D y Z:Nat}{aj:aB}(hl:I ps<=1000)(fe:j 11=.one (.hsl N g1 1 0 (I ps)))(B:aj N=(g1,some (.arr M 1 (aaG ps))))(F:j 12=.one (.hsl D y 1 0 (I ps)))(R:aj D=(y,some (.arr Z 1 (adF ps))))(lM:j 13=aC 0)
  (hN:∀A,A 2=j 2->A 3=j 3->A 8=j 8->iS ps=0->Q .normal A aj) (hR:∀A,A 4=aC (iS ps)->iS ps≠0->Q .ret A aj):bP S .all (.loop MU) (ld 2 Q) j aj:=by
 refine c_ (λk e b=>b=aj/\e 2=j 2/\e 3=j 3/\e 8=j 8/\e 11=j 11/\e 12=j 12/\e 13=aC k/\iS (ps.drop k)=iS ps) 0 (I ps) (cE _) ⟨rfl,rfl,rfl,rfl,rfl,rfl,lM,rfl⟩ ?_;rintro k e b hk ⟨rfl,e2,E,e8,g,O,ru,h⟩
 rw[fe]at g;rw[F]at O;have T:I (aaG ps)=I ps:=cH ..;have Y:I (adF ps)=I ps:=cH ..;by_cases f:k<I ps
 .have L:(k:Int)<(I ps:Int):=J;obtain⟨p,hp⟩:=aR f;have z:(aaG ps)[k]?=some [.int .i64 p.1]:=by rw[fY,hp];rfl
  have X:(adF ps)[k]?=some [.int .i64 p.2]:=by rw[fY,hp];rfl
  have x:=cP (n:=k) J;have m:=Sh p.1 p.2;rw[Ge hp]at h;rw[aca]at h;by_cases H:iS [(p.1,p.2)]=0
  .rw[aH H]at h;rw[H]at m;have vp:((0:Int)!=0)=false:=U;simp only[go_sem,MU,e2,E,e8,g,O,ru,fe,F,B,R,T,Y,f,L,z,X,x,I_,ek m,vp];first|exact⟨aI,f,h⟩|exact⟨aI,h⟩|trace_state
  rw[aw H]at h;have u:(iS [(p.1,p.2)]!=0):=by simpa using H
  simp only[go_sem,MU,e2,E,e8,g,O,ru,B,R,T,Y,f,L,z,X,x,I_,ek m,u];rw[h]at H |-;first|exact⟨aI,hR _ (by simp only[go_sem]) H⟩|trace_state
 have:k=I ps:=J;subst this;rw[Ak]at h;simp only[go_sem,MU,e2,E,e8,g,O,ru,dW];exact hN _ (by simp only[go_sem,e2]) (by simp only[go_sem,E]) (by simp only[go_sem,e8]) h.symm
def awE(f:Int)(A:ae)(g:Int)(B:ae)(hA:I A<=1000000)(hB:I B<=1000000):aJ S 32 [df f A,df g B] (fQ (yr f A g B)):=by
 have R:=al7 f A hA;have Y:=al7 g B hB;have N:=Sh f g;have m:=Sh ((ai aa.aF A:Nat):Int) ((ai aa.aF B:Nat):Int);have u:=Sh (I A:Int) (I B:Int);have vp:((0:Int)!=0)=false:=U;have hu:iS (CI f A g B)=if iS [(f,g)]=0 then(if iS [(((ai aa.aF A:Nat):Int),((ai aa.aF B:Nat):Int))]=0 then iS [((I A:Int),(I B:Int))]else iS [(((ai aa.aF A:Nat):Int),((ai aa.aF B:Nat):Int))])else iS [(f,g)]:=by unfold CI;rw[aca,aca (_,_) [_]]
 generalize h:yr f A g B=r;unfold yr at h;rw[hu]at h;by_cases D:iS [(f,g)]=0
 .rw[aH D]at h;rw[D]at N;by_cases z:iS [(((ai aa.aF A:Nat):Int),((ai aa.aF B:Nat):Int))]=0
  .rw[aH z]at h;rw[z]at m;by_cases X:iS [((I A:Int),(I B:Int))]=0
   .rw[aH X]at h;have ab:I A=I B:=by
     have:=ajL X _ (kV.2 rfl);dsimp only at this;omega
    rw[X]at u;refine bt VX ?_;simp only[go_sem,Mj,I_,acN,dP N,ek N,dP m,ek m,dP u,ek u,ek R,ek Y,vp];refine⟨aI,?_⟩;refine c_ (λk j aj=>j 2=.one (.bh 2048000000 1 0)/\j 3=.one (.bh 2048000064 1 0)/\aj 2048000000=(1,some (.var [.p (.int .i64 f),.p (c8 A)]))/\aj 2048000064=(1,some (.var [.p (.int .i64 g),.p (c8 B)]))/\j 8=aC k/\L6 (A.drop k) (B.drop k)=r) 0 (I A) (cE _) ?_ ?_
    .simp only[go_sem];first|exact h|exact⟨rfl,h⟩|trace_state
    rintro k j aj hk ⟨F,h3,b0,E,Z,H⟩
    by_cases O:k<I A
    .have aO:(k:Int)<(I A:Int):=J;have yI:k<I B:=J;have hx:=js O;have hy:=js yI;have jz:=fP hx;have Jp:=fP hy;have w1:=cP (n:=k) J;rw[Ge hx,Ge hy]at H;unfold L6 at H;generalize aZ A k=x at*;generalize aZ B k=y at*;have m1:=am5 x.over;have m2:=am5 y.over;simp only[go_sem,acR,F,h3,b0,E,Z,O,yI,aO,jz,Jp,aa.ps,w1,aEH,ek m1,ek m2];refine⟨aI,aI,aI,?_⟩;refine aqQ (ps:=CM x y) (by simp[CM]) (by simp only[go_sem];rfl) (by simp only[go_sem];rfl) (by simp only[go_sem];rfl) (by simp only[go_sem];rfl) (by simp only[go_sem]) (λaE q2 q3 q8 M=>?_) λaE q4 M=>?_
     .rw[aH M]at H;simp only[go_sem,F,h3,Z]at q2 q3 q8;simp only[go_sem,akL,q2,q3,q8,b0,E,w1];first|exact⟨O,H⟩|exact H|trace_state
     rw[aw M]at H;subst H;simp only[go_sem,Mj,q4];first|done|rfl|trace_state
    have:k=I A:=J;subst this;rw[Ak]at H;have H:0=r:=by rw[<-H];cases B.drop (I A)<;>rfl
    subst H;simp only[go_sem,acR,afM,F,h3,b0,E,Z,dW];first|done|rfl
   rw[aw X]at h;subst h;have Q:(iS [((I A:Int),(I B:Int))]!=0):=by simpa using X
   refine bt VX ?_;simp only[go_sem,Mj,I_,acN,dP N,ek N,dP m,ek m,dP u,ek u,ek R,ek Y,vp,Q];first|done|exact aI|exact⟨aI,rfl⟩|trace_state
  rw[aw z]at h;rw[aw z]at h;subst h;have T:(iS [(((ai aa.aF A:Nat):Int),((ai aa.aF B:Nat):Int))]!=0):=by simpa using z
  refine bt VX ?_;simp only[go_sem,Mj,I_,acN,dP N,ek N,ek m,ek R,ek Y,vp,T];first|done|exact aI|exact⟨aI,rfl⟩|trace_state
 rw[aw D]at h;rw[aw D]at h;subst h;have L:(iS [(f,g)]!=0):=by simpa using D
 refine bt VX ?_;simp only[go_sem,Mj,I_,dP N,ek N,L];first|done|exact aI|exact⟨aI,rfl⟩|trace_state
def W9(s:Nat):Prop:=s=1984064256\/s=1984897088
def W9.ne{s:Nat}(h:W9 s):¬s=1984000000/\ ¬s=1984576576/\ ¬s=1984576640/\ ¬s=1984640064/\ ¬s=1984640128/\ ¬s=1984896512/\ ¬s=1984896832/\ ¬s=1984896896/\ ¬s=1984897024/\ ¬s=1984960320:=by rcases h with rfl|rfl<;>decide
structure KF (F limit:Nat) (L0:ae) (st:lT) (i s g:Nat) (ak:bn) (aj:aB):Prop where
 e1:ak 1=aC limit
 e2:ak 2=fT true
 fD:ak 10=aC i
 e9:ak 9=.one (.hsl s g 5 0 (I st))
 bs:aj s=(g,some (.arr Ab 5 (gX F st)))
 hs:W9 s
 ne:st≠[]
 lim:I st<=limit
 alls:∀m∈st,uz F L0 (I st) m
structure ahP (F:Nat) (r:Nat×lT) (ak:bn) (aj:aB):Prop where
 e7:ak 7=fT false
 e8:ak 8=fT (r.1==2)
 ne:r.2≠[]
 e6:∃s g,ak 6=.one (.hsl s g 5 0 (I r.2))/\aj s=(g,some (.arr Ab 5 (gX F r.2)))
def Qx{aj:aB}{s:Nat}{l:Bool}:eF aj [] s ((RV.agg [.p x,.p y]).fi l)=some (.agg [.p x,.p y],[]):=by cases l<;>rfl
def aHo{aj:aB}{s:Nat}(h:E≠[])(lo:S.lone s):eF aj [] s ((RV.agg [.p x,aX O z E]).fi (S.lone s))=some (.agg [.p x,.p (.sl E)],[]):=by rw[lo];unfold aX;rw[aw h];rfl
def aDn{a b c e:PV}{id o l:Nat}:Ce [[.p a,.p b,.p c,.p e,.hsl id g z o l]]=none:=rfl
def Ot(h:E≠[]):ki E=.sl E:=aw h
def an5{a b:ByteArray}:(a==b)↔a=b:=by obtain⟨x⟩:=a;obtain⟨y⟩:=b;show(x==y)=true↔_;rw[dI,ByteArray.mk.injEq]
def arP{n:Nat}(j:dA (F:Int) A=0)(D:∀m∈h,uz F L n m):((h.map (dM.key F)).any λs=>s7 F A==s)=decide (A∈h.map dM.n):=by
 rw[sH,CQ,kB];constructor
 .rintro ⟨x,u,f⟩
  obtain⟨m,H,rfl⟩:=eg.1 u;have g:=D m H;have e:s7 (F:Int) A=s7 (F:Int) m.n:=an5.1 f;rw[ar5 j (by rw[g.Et];exact Oh g.chk) e];exact eg.2 ⟨m,H,rfl⟩
 intro f;obtain⟨m,H,rfl⟩:=eg.1 f;exact⟨_,eg.2 ⟨m,H,rfl⟩,an5.2 rfl⟩
def atG{F u:Nat}{a:dM}{i a3 s g:Nat}{aj:aB}(dZ:1<=u)(gO:u<=20000)(DO:h[i]?=some a)(hj:D[a3]?=some m)(iB:I D<=8000)(FW:rq F a.c Bg m)
  (hI:KF F u L h i s g j aj) (z:j 11=.one (.p (.sl (aS D)))) (O:j 12=aC a3)
  (hN:∀jt s' g' (X:bn) (ao:aB),nL F u a h m=(0,jt)->KF F u L jt i s' g' X ao->jt[i]?=some a->X 11=.one (.p (.sl (aS D)))->X 12=aC ((a3+1:Nat):Int)->Q .normal X ao)
  (hX:∀(X:bn) (ao:aB),(nL F u a h m).1≠0->ahP F (nL F u a h m) X ao->Q .ret X ao):bP S .all IC Q j aj:=by
 obtain⟨e1,e2,fD,e9,bs,hs,ne,lim,alls⟩:=hI;have ha:=alls a (ch DO);have f:=hs.ne;have iI:S.lone 1984576576:=ah;have aq:=(cD.1 hj).1;have aO:((a3:Int)<(I D:Int)):=J;have mR:=(cD.1 DO).1;have jR:=Ii hj;have ag:=Mk (F:=F) DO;have Y:I (gX F h)=I h:=Ad F h;have T:=cP (n:=a3) J;have LZ:I (aS D)=I D:=k_ D;obtain⟨M,qm,_,my,Lv,an,wN⟩:=afe ha FW;have vA:=w7 my;have iX:=ha.len;obtain⟨_,a0,_⟩:=abR ha.chk NM FW;have Hp:m.k=3\/m.k=8:=by simpa using FW.1
 have aN:(c8 a.c).norm=.sl (bQ a.c):=rfl;have a4:ki (bQ M)=.sl (bQ M):=Ot (by simpa using Lv);have Z:=aw1 a0 Hp qm;have ar:aJ S 60 [.agg [.p (.int .i64 F),.p (.sl (bQ a.c))],.agg [.p (.int .i64 m.k),.p (.int .i64 m.a),.p (.int .i64 m.b),.p (.int .i64 m.c),.p (.bool m.l),.p (.bool m.o),.p (.int .i64 m.s)]] (.agg [.p (.int .i64 F),aX fI 6 (bQ M)]):=Z;have R:cK F M:=(Ld my).resolve_left Lv;have pn:=acO (F:=F) (f:=M) J;rw[Xm R]at pn;have az:fW M≠[]:=λe=>by have:=Sx ((Gj R.even).2 R.Et.2.1);rw[e]at this;exact Lv (uE.1 this.symm)
 have N:aJ S 29 [.agg [.p (.int .i64 F),.p (.sl (bQ M))]] (.agg [.p (.int .i64 F),.p (ki (bQ (fW M)))]):=pn;rw[Ot (by simpa using az)]at N;have ab:=asP F h (fW M) J (λx H=>by have:=w7 (alls x H).chk;have:=Bi x.c;rw[(alls x H).Et];omega) (by have:=Bi M;omega);have QV:aJ S 62 [.one (.p (.sl (gX F h))),.agg [.p (.int .i64 F),.p (.sl (bQ (fW M)))]] (dn (decide (fW M∈h.map dM.n))):=ab;have ac:=at0 my;have aA:aJ S 59 [.agg [.p (.int .i64 F),.p (.sl (bQ M))]] (xY (s8 F M).1 (s8 F M).2):=ac;clear Z pn ab ac;have A:nL F u a h m=if decide (fW M∈h.map dM.n)=true then(0,h)else if I h=u then(1,h)else(if(s8 F M).2 then 2 else 0,h++[⟨M,fW M,a.w++[m]⟩]):=by unfold nL;rw[qm];rw[show(some M).getD []=M from rfl,arP (Oh my) alls]
 have gC:(gX F h).take (I h)=gX F h:=e_ (by rw[Y];exact cT _);have pQ:decide ((I h:Int)≥(u:Int))=decide (I h=u):=decide_eq_decide.2 J;simp only[go_sem,IC,e1,e2,e9,fD,z,O,bs,aq,aO,mR,Y,ag,jR,LZ,dM.ps,dx.ps,aN,T,f,ahz,ow ar (aHo (by simpa using Lv) iI)];refine⟨by rcases hs with rfl|rfl<;>exact aI,?_⟩;cases lf:decide (fW M∈h.map dM.n)with
 |true=>rw[lf]at QV A;rw[aH rfl]at A;simp only[go_sem,e1,e2,e9,fD,z,O,bs,f,ME,a_ N Qx,aaL,gC,aD QV,PV.norm,T];refine hN h s g _ _ A ⟨?_,?_,?_,?_,?_,hs,ne,lim,alls⟩ DO ?_ ?_;all_goals(simp only[go_sem,e1,e2,e9,fD,z,O,bs,f];first|done|rfl|trace_state)
 |false=>
  rw[lf]at QV A;rw[aw U]at A;cases hL:decide (I h=u)with
  |true=>rw[aH (lp hL)]at A;rw[hL]at pQ;simp only[go_sem,e1,e2,e9,fD,z,O,bs,f,ME,a_ N Qx,aaL,gC,aD QV,PV.norm,pQ,T];have Cf:=hX;rw[A]at Cf;refine Cf _ _ (by show(1:Nat)≠0;decide) ⟨?_,?_,ne,s,g,?_,?_⟩;all_goals(simp only[go_sem,e1,e2,e9,fD,z,O,bs,f];first|done|rfl|trace_state)
  |false=>
   rw[aw (gU hL)]at A;rw[hL]at pQ;simp only[go_sem,e1,e2,e9,fD,z,O,bs,f,mR,Y,ag,aq,jR,LZ,dM.ps,dx.ps,ME,a_ N Qx,aaL,gC,aD QV,PV.norm,pQ,T];refine nP (bytes:=48) (id:=1984896512) (y:=1984896512) (j:=[]) (B:=aS a.w) (rd:=[]) aY.nil rfl (.inr (BU _)) (by simp only[k_,eK];omega) λc1 bY r1 v1 g1 cF iQ=>?_
   rw[fN]at g1;have q0:=cF s f.2.2.2.2.2.1 f.2.2.2.2.2.1;have q1:=cF 1984576640 U U;simp only[go_sem,bs,f]at q0 q1;clear cF;simp only[go_sem,e1,e2,e9,fD,z,O,q0,q1,f,aq,jR,LZ,dx.ps];refine nP (bytes:=48) (id:=1984896512) (y:=1984896896) (j:=aS a.w) (B:=[m.ps]) (rd:=[1984896832]) (g1.of_eq (bU U)) (by simp only[fz,aT,if_true];rfl) (.inl rfl) (by simp only[k_,dw,eK];omega) λc2 bJ r2 v2 g2 bl sE=>?_;rw[show aS a.w++[m.ps]=aS (a.w++[m]) by simp[aS]]at g2;have p0:=bl s f.2.2.2.2.2.2.2.1 f.2.2.2.2.2.1;have p1:=bl 1984576640 U U;simp only[go_sem,q0,q1,f]at p0 p1;clear bl;rcases g2 with⟨e,_⟩|⟨_,gw,e,av⟩
   .exact absurd e (by simp[aS])
   cases e;simp only[go_sem,e1,e2,e9,fD,z,O,p0,p1,f,aDn];have ap:aY 1984896896 nW 7 (aS (a.w++[m])) (.one (.hsl 1984896896 gw 7 0 (I (a.w++[m])))) bJ:=.inr ⟨by simp[aS],gw,by rw[k_],av⟩;obtain⟨fr,H,yF,A4⟩:=aF3 (aj:=dE bJ 1984897024 ((bJ 1984897024).1+1,some (.jw Ab 5 [[.p (.int .i64 F),.p (.sl (bQ M)),.p (.int .i64 F),.p (.sl (bQ (fW M))),.hsl 1984896896 gw 7 0 (I (a.w++[m]))]]))) (s:=1984897024) sW (ap.of_eq (bU U));have nf:∀i,i≠1984896896->i∉fr:=λi a a5=>by
    rcases A4 with rfl|rfl
    .cases a5
    exact a (kV.1 a5)
   have gs:aY s Ab 5 (gX F h) (.one (.hsl s g 5 0 (I (gX F h)))) bJ:=.inr ⟨by simpa using ne,g,rfl,p0⟩;rw[Y]at gs;refine ajF (bytes:=88) (y:=1984897088) (id:=s) (gs.of_eq (bU f.2.2.2.2.2.2.2.2.1)) H yF (nf _ f.2.2.2.2.2.2.2.1) (nf _ U) (.inl rfl) (by simp only[Y,dw,eK];omega) λc3 fy r3 v3 g3 dO PW=>?_;have k1:=dO 1984576640 U (λe=>f.2.2.1 e.symm) (nf _ U);simp only[go_sem,p1]at k1;clear dO;rcases g3 with⟨e,_⟩|⟨_,gn,e,a1⟩
   .exact absurd e aQ
   cases e;simp only[go_sem,e1,e2,e9,fD,z,O,k1,f,W7,a_ aA HE,PV.norm,T];refine⟨?_,?_⟩
   .rcases hs with rfl|rfl<;>rcases A4 with rfl|rfl<;>rcases iQ with⟨rfl,rfl⟩|⟨rfl,rfl⟩|⟨rfl,rfl⟩<;>rcases sE with⟨rfl,rfl⟩|⟨rfl,rfl⟩|⟨rfl,rfl⟩<;>rcases PW with⟨rfl,rfl⟩|⟨rfl,rfl⟩|⟨rfl,rfl⟩<;>exact aI
   have zM:∀x∈h++[(⟨M,fW M,a.w++[m]⟩:dM)],uz F L (I (h++[(⟨M,fW M,a.w++[m]⟩:dM)])) x:=λx H=>by
    rcases fc.1 H with H|H
    .exact(alls x H).mono aQ
    rw[kV.1 H];refine⟨my,rfl,wN,λy hy=>?_,by simp;omega,by rw[an,ha.same]⟩;rcases fc.1 hy with hy|hy
    .exact ha.kind y hy
    rw[kV.1 hy];exact FW.1
   have j8:(h++[(⟨M,fW M,a.w++[m]⟩:dM)])[i]?=some a:=by rw[xv mR];exact DO
   have ad:fy 1984897088=(gn,some (.arr Ab 5 (gX F (h++[⟨M,fW M,a.w++[m]⟩])))):=by rw[a1];unfold gX;rw[lU];rfl
   have a2:I (h++[(⟨M,fW M,a.w++[m]⟩:dM)])<=u:=by rw[fv];simp only[dw,eK];have:=gU hL;omega
   generalize(s8 F M).1=rm at*;cases rH:(s8 F M).2 with
   |false=>rw[rH,aw U]at A;simp only[go_sem,e1,e2,e9,fD,z,O,k1,f,T];refine hN _ 1984897088 gn _ _ A ⟨?_,?_,?_,?_,?_,.inr rfl,aQ,a2,zM⟩ j8 ?_ ?_;all_goals(simp only[go_sem,e1,e2,e9,fD,z,O,f];first|done|rfl|exact ad|(rw[fv,fv,Y];rfl)|trace_state)
   |true=>rw[rH,aH rfl]at A;simp only[go_sem,e1,e2,e9,fD,z,O,k1,f,T];have Cf:=hX;rw[A]at Cf;refine Cf _ _ (by show(2:Nat)≠0;decide) ⟨?_,?_,aQ,1984897088,gn,?_,?_⟩;all_goals(simp only[go_sem,e1,e2,e9,fD,z,O,f];first|done|rfl|exact ad|(rw[fv,fv,Y];rfl)|trace_state)
def atH{a:dM}:I h<=(nL F u a h m).2.length:=by
 unfold nL;split
 .exact cT _
 split
 .exact cT _
 simp
def awU{F u:Nat}{O:lT}{a:dM}{i s g:Nat}{aj:aB}(dZ:1<=u)(gO:u<=20000)(T:O[i]?=some a)
  (N:KF F u L O i s g j aj) (x:j 11=.one (.p (ki (aS (k9 F a.c))))) (E:j 12=aC 0)
  (hN:∀M X Z (A:bn) (f:aB),kE F u a O (k9 F a.c)=(0,M)->KF F u L M i X Z A f->I O<=I M->Q .normal A f)
  (hX:∀(A:bn) (f:aB),(kE F u a O (k9 F a.c)).1≠0->ahP F (kE F u a O (k9 F a.c)) A f->Q .ret A f):bP S .all (.loop IC) (ld 2 Q) j aj:=by
 obtain⟨⟨h8,aA⟩,_⟩:=ac8 (N.alls a (ch T)).chk;generalize k9 F a.c=D at*;refine c_ (λY j aj=>∃h s g,KF F u L h i s g j aj/\j 11=.one (.p (ki (aS D)))/\j 12=aC Y/\kE F u a h (D.drop Y)=kE F u a O D/\h[i]?=some a/\I O<=I h) 0 (I D) (cE _) ⟨O,s,g,N,x,E,rfl,T,cT _⟩ ?_;rintro Y j aj hj ⟨h,s,g,N,x,E,H,T,z⟩
 by_cases aq:Y<I D
 .obtain⟨m,hm⟩:=aR aq;have hd:D.drop Y=m::D.drop (Y+1):=by
   obtain⟨y,B⟩:=cD.1 hm;rw[Kv y,B]
  have aN:aS D≠[]:=λe=>by
   have:I (aS D)=0:=by rw[e];rfl
   rw[k_]at this;omega
  have R:=x;rw[Ot aN]at R;rw[hd,Vd]at H;refine atG dZ gO T hm h8 (aA m (ch hm)) N R E (λM X Z A f y B h3 h4 h5=>?_) λA f y B=>?_
  .have hl:=atH (F:=F) (u:=u) (a:=a) (h:=h) (m:=m);rw[y]at H hl;rw[aH rfl]at H;exact⟨aq,M,X,Z,B,by rw[h4,Ot aN],h5,H,h3,lX z hl⟩
  rw[aw y]at H;rw[H]at y B;exact hX A f y B
 have PB:Y=I D:=J;subst PB;rw[Ak]at H;have H:(0,h)=kE F u a O D:=H;obtain⟨e1,e2,fD,e9,bs,hs,ne,lim,alls⟩:=N;have iB:I (aS D)=I D:=k_ D;by_cases tj:aS D=[]
 .have lO:I D=0:=by rw[<-iB,tj];rfl
  have x:j 11=.one (.p .nils):=by rw[x];unfold ki;rw[aH tj]
  rw[lO]at E;have z0:decide (((0:Nat):Int)<((0:Nat):Int))=false:=U;simp only[go_sem,IC,x,E,z0];refine hN h s g _ _ H.symm ⟨?_,?_,?_,?_,bs,hs,ne,lim,alls⟩ z;all_goals(simp only[go_sem,e1,e2,e9,fD];first|done|rfl)
 rw[Ot tj]at x;simp only[go_sem,IC,x,E,iB,dW];refine hN h s g _ _ H.symm ⟨?_,?_,?_,?_,bs,hs,ne,lim,alls⟩ z;all_goals(simp only[go_sem,e1,e2,e9,fD];first|done|rfl)
def auj{c:c6}{aj:aB}(h:aY N M H E (.one c) aj):gr aj (.tup [.one c,.one (.p x),.one (.p y)])=some (.tup [.one (aX M H E),.one (.p x),.one (.p y)]):=by obtain⟨m,o,j,f,g⟩:=h.gR;cases j;have e1:∀v:PV,gR aj (.p v)=some (.p v,[],[]):=λ_=>rfl;rcases g with rfl|rfl<;>simp[gr,nx,tH,k5,kj,f,e1,lG,pB,nD,zu]
abbrev Xs(F:Nat)(r:Nat×lT):RV:=.tup [.one (aX Ab 5 (gX F r.2)),.one (.p (.bool (r.1==0))),.one (.p (.bool (r.1==2)))]
def anB{s:Nat}{aj:aB}(ne:h≠[])(H:aj s=(g,some (.arr Ab 5 (gX F h)))):gr aj (.tup [.one (.hsl s g 5 0 (I h)),.one (.p x),.one (.p y)])=some (.tup [.one (aX Ab 5 (gX F h)),.one (.p x),.one (.p y)]):=by have f:aY s Ab 5 (gX F h) (.one (.hsl s g 5 0 (I (gX F h)))) aj:=.inr ⟨by simpa using ne,g,rfl,H⟩;rw[Ad]at f;exact auj f
def arW(dZ:1<=u)(gO:u<=20000)(A:dA (F:Int) L=0):aJ S 31 [df F L,aC u,fT true] (Xs F (iw F u L)):=by
 have vA:=w7 A;have pn:=acO (F:=F) (f:=L) J;have eV:yx L=fW L:=by
  rcases Ld A with rfl|g
  .rfl
  exact Xm g
 rw[eV]at pn;have I5:uz F L 1 ⟨L,fW L,[]⟩:=⟨A,rfl,rfl,(λx hx=>by cases hx),aQ,rfl⟩;refine bt axf ?_;simp only[go_sem,Vm,ME,ow pn Qx];refine⟨aI,?_⟩;refine c_ (λk j b=>∃h s g,KF F u L h k s g j b/\k<=I h/\Ap F u (u+1-k) k h=iw F u L) 0 u (cE _) ?_ ?_
 .refine⟨[⟨L,fW L,[]⟩],1984064256,1,⟨?_,?_,?_,?_,?_,.inl rfl,aQ,dZ,λm hm=>?_⟩,cE _,rfl⟩;all_goals first
   |(rw[kV.1 hm];exact I5)
   |(simp only[go_sem];first|done|rfl|(rw[AD];rfl)|trace_state)
 rintro k j b hk ⟨h,s,g,R,LV,H⟩
 have ab:=R.lim;have hf:u+1-k=(u-k)+1:=J;rw[hf]at H;have ac:=R;obtain⟨e1,e2,fD,e9,bs,hs,ne,lim,alls⟩:=R;have gQ:=hs.ne;have ke:I (gX F h)=I h:=Ad F h;by_cases aq:k<I h
 .have aO:((k:Int)<(I h:Int)):=J;obtain⟨a,z⟩:=aR aq;have O:=Mk (F:=F) z;have T:=alls a (ch z);have D:=awS T.chk;have Y:aJ S 61 [.agg [.p (.int .i64 F),.p (.sl (bQ a.c))]] (.one (aX nW 7 (aS (k9 F a.c)))):=D;have lo:S.lone 1984320320:=ah;have E:(c8 a.c).norm=.sl (bQ a.c):=rfl;have w1:=cP (n:=k) J;rw[Nz z]at H;simp only[go_sem,abH,e1,e2,e9,fD,bs,aq,aO,ke,O,dM.ps,E,arw,a_ Y (FE lo)];refine awU (L:=L) (O:=h) (a:=a) (i:=k) (s:=s) (g:=g) dZ gO z ⟨?_,?_,?_,?_,bs,hs,ne,lim,alls⟩ ?_ ?_ (λjt s' g' aE ao f y h3=>?_) λaE ao f y=>?_;all_goals try(simp only[go_sem,e1,e2,e9,fD];first|done|rfl)
  .rw[f,aH rfl]at H;obtain⟨q1,q2,Q,q9,Z,Qa,N,M,X⟩:=y;simp only[go_sem,anu,Q,w1];refine⟨J,jt,s',g',⟨?_,?_,?_,?_,Z,Qa,N,M,X⟩,J,by rw[show u+1-(k+1)=u-k by omega];exact H⟩;all_goals(simp only[go_sem,q1,q2,q9,Q];first|done|rfl)
  rw[aw f]at H;rw[H]at f y;obtain⟨q7,q8,N,s',g',q6,Z⟩:=y;have ue:((iw F u L).1==0)=false:=ng.2 f;simp only[go_sem,Vm,q6,q7,q8];unfold Xs;rw[ue];exact anB N Z
 have Cu:k=I h:=J;subst Cu;rw[VY (oF (cT _))]at H;rw[<-H];simp only[go_sem,abH,aoN,Vm,e1,e2,e9,fD,dW];exact anB ne bs
def Sw(s:Nat):Prop:=s=704256128\/s=704576192
def Sw.ne{s:Nat}(h:Sw s):¬s=704000064/\ ¬s=704064128/\ ¬s=704192320/\ ¬s=704384384/\ ¬s=704640192/\ ¬s=705024320:=by rcases h with rfl|rfl<;>decide
abbrev LA(F:Nat)(x:ae×dB×Bool):RV:=.agg [.p (.int .i64 F),.p (c8 x.1),aX nW 7 (aS x.2.1),.p (.bool x.2.2)]
structure Wq (F limit:Nat) (a:ae) (p:dB) (ak:bn) (aj:aB):Prop where
 e1:ak 1=aC limit
 e4:ak 4=.one (.bh 704000064 1 0)
 e5:ak 5=.one (.bh 704064128 1 0)
 qh:∃c0 c1 c2 c3,aj 704000064=(1,some (.var [c0,c1,c2,c3]))
 ba:∃x,aj 704064128=(1,some (.var [.p (.int .i64 F),.p x]))/\x.norm=c8 a
 pa:∃s c,Sw s/\ak 6=.one c/\aY s nW 7 (aS p) (.one c) aj
def aBf{c:c6}{w:PV}{aj:aB}(h:aY N M H E (.one c) aj):gr aj (.agg [.p x,.p y,c,.p w])=some (.agg [.p x,.p y,aX M H E,.p w]):=by obtain⟨m,o,j,f,g⟩:=h.gR;cases j;have e1:∀v:PV,gR aj (.p v)=some (.p v,[],[]):=λ_=>rfl;rcases g with rfl|rfl<;>simp[gr,nx,k5,kj,f,e1,lG,pB,nD]
def at4{M:ae}{s:Nat}(lo:S.lone s){aj:aB}:eF aj [] s ((RV.tup [.agg [.p (.int .i64 F),.p (ki (bQ M))],.one (aX nW 7 (aS D))]).fi (S.lone s))=some (.tup [.agg [.p (.int .i64 F),.p (ki (bQ M))],.one (.p (ki (aS D)))],[]):=by
 rw[lo];unfold aX;by_cases h:aS D=[]
 .rw[aH h,h];rfl
 rw[aw h];unfold ki;rw[aw h];rfl
def aEn{l:lT}{aj:aB}{s:Nat}(h:l≠[])(f:S.lone s):eF aj [] s ((RV.tup [.one (aX Ab 5 (gX F l)),.one (.p x),.one (.p y)]).fi (S.lone s))=some (.tup [.one (.p (.sl (gX F l))),.one (.p x),.one (.p y)],[]):=by
 have A:gX F l≠[]:=by simpa [gX]using h
 rw[f,vq A];rfl
def axe(g:h≠[]):∃b:Nat,qL F (h.map dM.n) (I h)=(b:Int)/\h[b]?=some (nG F h):=by
 have A:1<=I h:=jr.2 g;unfold nG;rcases T5 F (h.map dM.n) (I h) with⟨u,_⟩|⟨N,j⟩
 .omega
 obtain⟨b,f⟩:=qX N;rw[f]at j |-;obtain⟨m,H⟩:=aR (L:=h) (k:=b) J;exact⟨b,rfl,by rw[s9,H];rfl⟩
def aCY{F:Nat}{M:Bool}{p:dB}{s D:Nat}{c c0 c1 c2 c3:c6}{aj:aB}{R:dM}(hs:Sw s)(aN:h≠[])(hl:I h<=20000)(Y:∀m∈h,I m.n<=400)(hW:∀m∈h,I m.w<=20000)(hp:I p<=60000000)(h0:h[0]?=some R)
  (e4:j 4=.one (.bh 704000064 1 0)) (e6:j 6=.one c) (e9:j 9=.one (.p (.sl (gX F h)))) (fD:j 10=fT M) (ru:j 13=.one (.bh 704640192 D 0)) (uH:j 14=aC 1) (qh:aj 704000064=(1,some (.var [c0,c1,c2,c3]))) (f:aj 704640192=(D,some (.var ((R.ps F).map .p)))) (gp:aY s nW 7 (aS p) (.one c) aj)
  (hR:∀(aE:bn) (X:aB),(ns .all KP.results λv aj=>gr aj v=some (LA F ((nG F h).n,p++(nG F h).w,M))) .ret aE X->Q .ret aE X):bP S .all (.loop PF) (ld 2 (vb S .all aae (ld 1 Q))) j aj:=by
 have iv:1<=I h:=jr.2 aN;have gQ:=hs.ne;have O:I (gX F h)=I h:=Ad F h;refine c_ (λk e b=>e 4=.one (.bh 704000064 1 0)/\e 6=.one c/\e 9=.one (.p (.sl (gX F h)))/\e 10=fT M/\e 13=.one (.bh 704640192 D 0)/\e 14=aC k/\b 704000064=(1,some (.var [c0,c1,c2,c3]))/\aY s nW 7 (aS p) (.one c) b/\1<=k/\ ∃(B:Nat) (m:dM),qL F (h.map dM.n) k=(B:Int)/\h[B]?=some m/\b 704640192=(D,some (.var ((m.ps F).map .p)))) 1 (I h) iv ⟨e4,e6,e9,fD,ru,uH,qh,gp,cT _,0,R,?_,h0,f⟩ ?_
 .unfold qL;have:qL F (h.map dM.n) 0= -1:=rfl;rw[this,aH U]
 clear e4 e6 e9 fD ru uH qh f gp h0;rintro k e b hk ⟨e4,e6,e9,fD,ru,uH,qh,gp,dd,B,m,H,y,f⟩
 have ab:=Y m (ch y);have ub:∀x:dM,(c8 x.n).norm=.sl (bQ x.n):=λ_=>rfl;by_cases N:k<I h
 .have Z:(k:Int)<(I h:Int):=J;obtain⟨x,z⟩:=aR N;have g:=Mk (F:=F) z;have Qi:=Y x (ch z);have w1:=cP (n:=k) J;have pc:=awE (F:Int) x.n (F:Int) m.n J J;have QY:aJ S 32 [.agg [.p (.int .i64 F),.p (.sl (bQ x.n))],.agg [.p (.int .i64 F),.p (.sl (bQ m.n))]] (fQ (yr (F:Int) x.n (F:Int) m.n)):=pc;clear pc;have zN:(h.map dM.n).getD k []=x.n:=by rw[dS,fY,z];rfl
  have I6:(h.map dM.n).getD B []=m.n:=by rw[dS,fY,y];rfl
  have L:qL F (h.map dM.n) (k+1)=if yr F x.n F m.n<0 then(k:Int)else(B:Int):=by
   conv=>lhs;unfold qL
   rw[H,aw J,s9,zN,I6]
  by_cases A:yr (F:Int) x.n (F:Int) m.n<0
  .rw[aH A]at L;simp only[go_sem,PF,e4,e6,e9,fD,ru,uH,qh,f,O,N,Z,g,dM.ps,ub,w1,aoy,ek QY,A];exact⟨aI,gp.of_eq (bU gQ.2.2.2.2.1),k,x,L,z,rfl⟩
  rw[aw A]at L;simp only[go_sem,PF,e4,e6,e9,fD,ru,uH,qh,f,O,N,Z,g,dM.ps,ub,w1,aoy,ek QY,A];exact⟨aI,gp,B,m,L,y,rfl⟩
 have:k=I h:=J;subst this;obtain⟨bj,T,u⟩:=axe (F:=F) aN;rw[H]at T;have:B=bj:=J;subst this;rw[y]at u;cases u;have ac:=hW _ (ch y);simp only[go_sem,PF,aae,e4,e6,e9,fD,ru,uH,qh,f,O,dM.ps,dW];refine nP (bytes:=48) (id:=s) (y:=705024320) (j:=aS p) (B:=aS (nG F h).w) (rd:=[]) gp rfl (.inr (BU _)) (by simp only[k_];omega) λd1 bY r1 v1 g1 cF iQ=>?_;have q1:=cF 704000064 U (λe=>gQ.1 e.symm);rw[qh]at q1;rw[show aS p++aS (nG F h).w=aS (p++(nG F h).w) by simp[aS]]at g1;have xH:(c8 (nG F h).n).norm=c8 (nG F h).n:=rfl;simp only[go_sem,e4,fD,q1];refine⟨?_,?_⟩
 .rcases hs with rfl|rfl<;>rcases iQ with⟨rfl,rfl⟩|⟨rfl,rfl⟩|⟨rfl,rfl⟩<;>exact aI
 refine hR _ _ ?_;simp only[go_sem,KP,e4];exact aBf (g1.of_eq (bU U))
def aGh(l:dB)(b:aB):fz b (.one (.p (ki (aS l))))=some (aS l,[],[]):=by
 unfold ki;split
 .rename_i h;rw[h];rfl
 rfl
def aFt(cN:pI){F u:Nat}{a:ae}{p:dB}{aj:aB}(dZ:1<=u)(gO:u<=20000)(my:dA (F:Int) a=0)(hp:I p<=50000000)(hI:Wq F u a p j aj)
  (hN:∀(y:bn) (A:aB),(iw F u (gE F a).2).1=2->Wq F u (sX (iw F u (gE F a).2).2).c (p++(gE F a).1++(sX (iw F u (gE F a).2).2).w) y A->Q .normal y A)
  (hR:∀(y:bn) (A:aB),(iw F u (gE F a).2).1≠2->(ns .all KP.results λv aj=>gr aj v=some (LA F ((nG F (iw F u (gE F a).2).2).n,p++(gE F a).1++(nG F (iw F u (gE F a).2).2).w,(iw F u (gE F a).2).1==0))) .ret y A->Q .ret y A):bP S .all SE Q j aj:=by
 obtain⟨e1,e4,e5,⟨c0,c1,c2,c3,qh⟩,⟨x,ba,hx⟩,⟨s,c,hs,e6,gp⟩⟩:=hI;have M:=hs.ne;have hJ:=w7 my;obtain⟨D,dL,_⟩:=Nq my;have Y:=aGk my hJ D dL;have f:=arW dZ gO D.chk;have iB:=D.len;obtain⟨O,X⟩:=Gd cN dZ gO D.chk;have IZ:=W6 (F:=F) (B:=(gE F a).2) dZ;have Lw:=w7 D.chk;generalize gE F a=q at*;unfold Xs at f;generalize iw F u q.2=cr at*;have iI:S.lone 704192064:=ah;have mU:S.lone 704320128:=ah;obtain⟨pR,Z⟩:=J_ O;have iv:1<=I cr.2:=jr.2 O;have ad:=Mk (F:=F) pR;have E:I (gX F cr.2)=I cr.2:=Ad F cr.2;have hw:IntKind.i64.wrap ((I cr.2:Int)-1)=((I cr.2-1:Nat):Int):=by rw[nK J J];omega
 have TV:I cr.2-1<I cr.2:=J;have ab:=AD (bQ q.2);have ac:aJ S 31 [.agg [.p (.int .i64 F),.p (.sl (bQ q.2))],aC u,fT true] (.tup [.one (aX Ab 5 (gX F cr.2)),.one (.p (.bool (cr.1==0))),.one (.p (.bool (cr.1==2)))]):=f;clear f;simp only[go_sem,SE,e1,e4,e5,e6,ba,hx,auU,a_ Y (at4 iI)];refine l_ (y:=704256128) (id:=s) (bytes:=48) (B:=aS q.1) (rd:=[]) (gp.of_eq (by simp only[aT,M,if_false])) (aGh _ _) (.inr (BU _)) (by simp only[k_];omega) λc' fy g1 H=>?_
 have z:=H 704000064 U (λe=>M.1 e.symm);have N:=H 704064128 U (λe=>M.2.1 e.symm);have R:=H 704192320 U (λe=>M.2.2.1 e.symm);simp only[go_sem,qh,ba]at z N R;rw[show aS p++aS q.1=aS (p++q.1) by simp[aS]]at g1;clear H gp;simp only[go_sem,e1,e4,e5,R,ab,ayX,a_ ac (aEn O mU),E,hw,TV,ad,dM.ps];cases T:(cr.1==2)with
 |true=>have ar:=(X _ Z).len;simp only[go_sem,e1,e4,e5,z,N,R];refine l_ (y:=704576192) (id:=704256128) (bytes:=48) (B:=aS (sX cr.2).w) (rd:=[]) (g1.of_eq (by simp only[aT,Nat.reduceEqDiff,if_false])) rfl (.inr (BU _)) (by simp only[k_,fv];omega) λap jF g2 eQ=>?_;have k1:=eQ 704000064 U U;have k2:=eQ 704064128 U U;simp only[go_sem,z,N]at k1 k2;rw[show aS (p++q.1)++aS (sX cr.2).w=aS (p++q.1++(sX cr.2).w) by simp[aS]]at g2;simp only[go_sem];refine hN _ _ (dI.1 T) ⟨?_,?_,?_,⟨_,_,_,_,k1⟩,⟨_,k2,rfl⟩,⟨704576192,ap,.inr rfl,?_,g2⟩⟩;all_goals simp only[go_sem,e1,e4,e5]
 |false=>
  obtain⟨m0,lO⟩:=aR (L:=cr.2) (k:=0) J;have an:=Mk (F:=F) lO;have IP:0<I cr.2:=iv;simp only[go_sem,e1,e4,e5,z,N,R,E,IP,an,dM.ps];have aq:∀m∈cr.2,I m.n<=400:=λm hm=>by have g:=X m hm;rw[g.Et];have:=w7 g.chk;have:=Bi m.c;omega
  have ag:∀m∈cr.2,I m.w<=20000:=λm hm=>by have:=(X m hm).len;omega
  refine aCY (F:=F) (h:=cr.2) (M:=cr.1==0) (p:=p++q.1) (s:=704256128) (c:=c') (R:=m0) (D:=(fy 704640192).1+1) (c0:=c0) (c1:=c1) (c2:=c2) (c3:=c3) (.inl rfl) O J aq ag (by rw[fv];omega) lO ?_ ?_ ?_ ?_ ?_ ?_ ?_ ?_ ?_ λy A av=>hR _ _ (λe=>by rw[e]at T;exact absurd T U) av;all_goals first
   |(simp only[go_sem,e4,z];first|done|rfl|trace_state)
   |exact g1.of_eq (by simp only[aT,Nat.reduceEqDiff,if_false])
def aFF(x:pI){N:ae}(D:1<=u)(y:u<=20000)(hN:I N<=1000):∀(f:Nat) {a:ae}{p:dB}{b:Nat}{j:bn}{aj:aB}{Q:fM},Fg F a<f->sL F N b a p->b+f*u<=40000000->Wq F u a p j aj->
  (∀(A:bn) (g:aB),(ns .all KP.results λv aj=>gr aj v=some (LA F (Bc F u f a p))) .ret A g->Q .ret A g)->bP S .all (.loop SE) Q j aj:=by
 intro f
 induction f with
 |zero=>intro a p b j aj Q O;omega
 |succ f R=>
  intro a p b j aj Q O H B E z;have bN:=H.len;have hz:0<=f*u:=cE _;rw[Ie]at B;refine aoH (aFt x D y H.chk J E (λA g m X=>?_) λA g m L=>?_)
  .obtain⟨T,Z⟩:=Gd x D y H.red.chk;obtain⟨M,_⟩:=H.round x D y (J_ T).2;have Y:=aeM x D y H.chk m;exact R J M J X λA g h=>z _ _ (by rw[acH m];exact h)
  exact z _ _ (by rw[ac2 m];exact L)
def at1(m:pI)(D:1<=u)(j:u<=20000)(h:dA (F:Int) B=0):aJ S 11 [df F B,aC u] (LA F (HZ F u B)):=by
 have x:=w7 h;have f:=acO (F:=F) (f:=B) J;have E:yx B=fW B:=by
  rcases Ld h with rfl|g
  .rfl
  exact Xm g
 rw[E]at f;refine bt KV ?_;simp only[go_sem,KP,ME,a_ f Qx];have z:=Bi B;have L:(I B+2)*u<=402*20000:=PR J j;refine aFF m D j J (I B+2) (adM B) (sL.start h) J ⟨rfl,rfl,rfl,⟨.p (.int .i64 0),.p .nils,.p .nils,.p (.bool false),?_⟩,⟨_,?_,AD _⟩,⟨704256128,.p .nils,.inl rfl,rfl,aY.nil⟩⟩ λy A H=>?_
 .simp only[go_sem]
 .simp only[go_sem]
 exact H
def zm(e n:Int):Int:=if e≠0 then e else if n<1\/20000<n then 2 else 0
def aFa{n:Int}(hl:I B<=1000000):aJ S 22 [df f B,aC n] (fQ (zm (dA f B) n)):=by
 have pc:=aju f B hl;generalize dA f B=e at*;unfold zm;refine bt ajR ?_;by_cases h:e=0
 .subst h;have j:((0:Int)!=0)=false:=U;rw[aw aQ];by_cases A:n<1
  .rw[aH (.inl A)];simp only[go_sem,GG,LO,dP pc,j,A,af,au];first|done|rfl
  by_cases g:20000<n
  .rw[aH (.inr g)];simp only[go_sem,GG,LO,dP pc,j,A,g,af,au];first|done|rfl
  rw[aw J];simp only[go_sem,GG,LO,dP pc,j,A,g,af,au];first|done|rfl
 have e1:(e !=0):=by simpa using h
 rw[aH h];simp only[go_sem,GG,LO,dP pc,e1,af,au];first|done|rfl
def agB(n m:Int):aJ S 6 [aC n,aC m] (dn (decide (n<=m)||decide (20000<n))):=by
 refine bt ft ?_;by_cases A:n<=m
 .simp only[go_sem,Vg,A,af,au];first|done|rfl
 by_cases f:20000<n
 .simp only[go_sem,Vg,A,f,af,au];first|done|rfl
 simp only[go_sem,Vg,A,f,af,au];first|done|rfl
def aAM{n:Int}(hl:I B<=1000000):aJ S 9 [aC n,.one (.p (.sl [[.int .i64 f,c8 B]]))] (fQ (zm (dA f B) n)):=by
 have pc:=aFk f B hl;generalize dA f B=e at*;have u:(c8 B).norm=.sl (bQ B):=rfl;have pc:aJ S 28 [.agg [.p (.int .i64 f),.p (.sl (bQ B))]] (fQ e):=pc;have H:(0:Int)<((1:Nat):Int):=U;have z:¬(1:Int)<((1:Nat):Int):=U;have Z:(((1:Nat):Int)==2)=false:=U;have j:IntKind.i64.wrap 1=1:=U;unfold zm;refine bt L3 ?_;simp only[go_sem,i9];refine mx ?_;by_cases h:e=0
 .subst h;have m:((0:Int)!=0)=false:=U;rw[aw aQ];simp only[go_sem,RN,H,u,af5,dP pc,m,j];refine mx ?_;simp only[go_sem,RN,z,aon];by_cases A:n<1
  .rw[aH (.inl A)];simp only[go_sem,A];first|done|exact aI|exact⟨aI,rfl⟩|trace_state
  by_cases g:20000<n
  .rw[aH (.inr g)];simp only[go_sem,A,g];first|done|exact aI|exact⟨aI,rfl⟩|trace_state
  rw[aw J];simp only[go_sem,A,g,Z];first|done|exact aI|exact⟨aI,rfl⟩|trace_state
 have e1:(e !=0):=by simpa using h
 rw[aH h];simp only[go_sem,RN,H,u,af5,dP pc,e1];first|done|rfl
def auW{n:Int}(H:zm (dA f A) n=0):dA f A=0/\ ∃F k:Nat,f=(F:Int)/\n=(k:Int)/\1<=k/\k<=20000:=by
 have g:dA f A=0:=by
  unfold zm at H;by_cases h:dA f A≠0
  .rw[aH h]at H;exact H
  exact Classical.not_not.1 h
 have u:¬(n<1\/20000<n):=λh=>by unfold zm at H;rw[aw (by simpa using g),aH h]at H;cases H
 obtain⟨k,rfl⟩:=qX (show 0<=n by omega);refine⟨g,?_⟩;by_cases j:A=[]
 .subst j;unfold dA at g;rw[aw U]at g;by_cases m:f<0\/40<f
  .rw[aH m]at g;cases g
  obtain⟨F,rfl⟩:=qX (show 0<=f by omega);exact⟨F,k,rfl,rfl,J,J⟩
 obtain⟨F,e,_⟩:=uU g j;exact⟨F,k,e,rfl,J,J⟩
def ava(p:dB)(hp:I p<=100000000):aJ S 13 [.one (.p (ob p)),.one (.p (ob p))] (dn true):=by
 refine bt ast ?_;have h:((I p:Int)!=(I p:Int))=false:=aQ;simp only[go_sem,aic,h];refine c_ (λk j aj=>j 0=.one (.p (ob p))/\j 1=.one (.p (ob p))/\j 5=aC k) 0 (I p) (cE _) ⟨rfl,rfl,rfl⟩ ?_;rintro k j aj B ⟨g,H,f⟩
 by_cases A:k<I p
 .have z:((k:Int)<(I p:Int)):=J;obtain⟨m,x⟩:=aR A;have y:=Ii x;have u:=cP (n:=k) J;simp only[go_sem,Wv,g,H,f,A,z,y,dx.ps,u,uF,vD];first|done|exact aI|exact⟨aI,rfl⟩
 have:k=I p:=J;subst this;simp only[go_sem,Wv,aqf,g,H,f,dW];first|done|rfl
def aB7{n:Int}(hl:I B<=1000000)(h:zm (dA f B) n≠0):aJ S 8 [df f B,aC n] (.tup [.agg [.p (.int .i64 0),.p .nils,.p .nils,.p (.bool false)],.one (.p (.int .i64 (zm (dA f B) n)))]):=by
 have pl:=aFa (f:=f) (n:=n) hl;generalize zm (dA f B) n=e at*;have e1:(e !=0):=by simpa using h
 refine bt Dt ?_;simp only[go_sem,zX,aoW,dP pl,e1];first|done|rfl|trace_state
def aA8{x:ae×dB×Bool}{aj:aB}{s:Nat}(lo:S.lone s):eF aj [] s ((H_ F x).fi (S.lone s))=some (.tup [.agg [.p (.int .i64 F),.p (c8 x.1),.p (ki (aS x.2.1)),.p (.bool x.2.2)],.one (.p (.int .i64 0))],[]):=by
 rw[lo];unfold H_ aX;by_cases h:aS x.2.1=[]
 .rw[aH h,h];rfl
 rw[aw h];unfold ki;rw[aw h];rfl
def avq{x:ae×dB×Bool}{aj:aB}{s:Nat}(lo:S.lone s):eF aj [] s ((LA F x).fi (S.lone s))=some (.agg [.p (.int .i64 F),.p (c8 x.1),.p (ki (aS x.2.1)),.p (.bool x.2.2)],[]):=by
 rw[lo];unfold LA aX;by_cases h:aS x.2.1=[]
 .rw[aH h,h];rfl
 rw[aw h];unfold ki;rw[aw h];rfl
def aGa(m:pI)(D:1<=u)(g:u<=20000)(h:dA (F:Int) B=0):(HZ F u B).1.length<=400/\(HZ F u B).2.1.length<=100000000:=by obtain⟨bK,f,j⟩:=aCM m D g h;have x:=w7 h;have H:(I B+2)*u<=402*20000:=PR J g;have y:=Bi B;have:=f.len;rw[j];exact⟨lX (Bi bK) (w7 f.chk),J⟩
end
end Go.Abs
