/- A part. -/
import Derived.Test.YtenindeoffokoaaGreatDoorWh
set_option linter.all false
open List renaming length->I
set_option maxRecDepth 100000
set_option maxHeartbeats 16000000
namespace Go.Abs
variable{j F:Nat}{m:dJ}{h:Int->fM}{n:cL}{u:fM}
section
variable {F:Nat}
def EV (F k:Nat):Nat:=if 2<=k then F+1 else 0
def ax3{k:Nat}(h:k≠1):EV F (k+1)=EV F k:=by
 unfold EV;by_cases c:2<=k
 .rw[aD c,aD J]
 rw[aC c,aC J]
def avV(hF:F<=40):aL S 65 [Ei F,.one (.p (.sl (bQ (kinds 10))))] (.tup [.one (cU FN 7 (vT (F+1))),.one (cU QT 2 (Fv F (F+1)))]):=by
 have kQ:S.lone 4160448128=false:=ah;have n9:S.lone 4160640128=false:=ah;refine cG aka ?_;simp only[go_sem,aaj];refine dt (λk A blk=>A 0=Ei F/\A 1=.one (.p (.sl (bQ (kinds 10))))/\A 8=aI ((k+1:Nat):Int)/\ ∃c d,A 6=.one c/\A 7=.one d/\bh 4160768192 FN 7 (vT (EV F k)) (.one c) blk/\bh 4160768448 QT 2 (Fv F (EV F k)) (.one d) blk) 0 10 (bZ _) ?_ ?_
 .simp only[go_sem];first|exact⟨rfl,.p .nils,.p .nils,rfl,rfl,.inl ⟨rfl,rfl⟩,.inl ⟨rfl,rfl⟩⟩|exact⟨rfl,rfl,.p .nils,.p .nils,rfl,rfl,.inl ⟨rfl,rfl⟩,.inl ⟨rfl,rfl⟩⟩
 rintro k A blk hk ⟨E,B,T,c,d,O,L,f,m⟩
 by_cases aw:k<10
 .have aM:((k+1:Nat):Int)<=10:=J;have ph:=aBa aw;have w1:=cS (n:=k+1) J;simp only[go_sem,Jk,E,B,O,L,T,aM,V6,b_ ph,W5];by_cases h1:k=1
  .subst h1;refine nI (ah3 hF) kQ (.inl rfl) λcc de gl D=>?_;have Ae:=f.of_eq (D 4160768192 aa);have Cm:=m.of_eq (D 4160768448 aa);rcases gl with⟨e,_⟩|⟨_,gg,e,mu⟩
   .exact absurd (congrArg List.length e) (by rw[VC];simp)
   cases e;rw[VC];simp only[go_sem];refine dt (λj A blk=>A 0=Ei F/\A 1=.one (.p (.sl (bQ (kinds 10))))/\A 8=aI 2/\A 23=.one (.hsl 4160448128 gg 7 0 (F+1))/\A 24=aI ((F+1:Nat):Int)/\A 25=aI j/\blk 4160448128=(gg,some (.arr FN 7 (vT (F+1))))/\ ∃c d,A 6=.one c/\A 7=.one d/\bh 4160768192 FN 7 (vT j) (.one c) blk/\bh 4160768448 QT 2 (Fv F j) (.one d) blk) 0 (F+1) (bZ _) ?_ ?_
   .simp only[go_sem,E,B,O,L,T];exact⟨rfl,rfl,mu,c,d,rfl,rfl,Ae,Cm⟩
   rintro j A blk hj ⟨u,y,Q,N,M,z,bL,c,d,x,v,f,m⟩
   by_cases rW:j<F+1
   .have F0:((j:Int)<((F+1:Nat):Int)):=J;have w2:=cS (n:=j) J;have jU:=anD rW;have pd:=Xt (F:=F) (b:=j) J;have hm:=ajM j;have hc:=atr F j;simp only[go_sem,EA,u,y,x,v,Q,N,M,z,bL,rW,F0,jU,Fi,CT];refine RU pd n9 λcx bK gx R=>?_;have Lv:=R 4160576128 aa;simp only[go_sem]at Lv;have Z:=(R 4160448128 aa).trans ((ct aa).trans bL);have wH:=f.of_eq ((R 4160768192 aa).trans (ct aa));have uD:=m.of_eq ((R 4160768448 aa).trans (ct aa));rcases gx with⟨e,_⟩|⟨aO,g2,e,P0⟩
    .cases e
    cases e;simp only[go_sem,Lv,Lr,u,y,x,v,Q,N,M,z];refine s_ (m:=4160768192) (id:=4160768192) (bytes:=48) (B:=[Fi j]) (rd:=[4160768128]) (wH.of_eq (by simp only[ct,bG,Nat.reduceEqDiff,if_false])) (by simp[hU,bG,Fi]) (.inl rfl) (by simp only[VC,fP,ga];omega) λc' mO r1 u1 ib X kN=>?_;have Bk:=X 4160640384 aa aa;simp only[go_sem]at Bk;simp only[go_sem,Bk,Lr,u,y,x,v,Q,N,M,z];have OK:=(X (4160640128+1) aa aa);simp only[Nat.reduceAdd,bG,Nat.reduceEqDiff,if_false]at OK P0;have MR:=OK.trans P0;have Y:bh (4160640128+1) ml 6 (cX (nq j)) (.one (.hsl (4160640128+1) g2 6 0 2)) mO:=.inr ⟨aO,g2,rfl,MR⟩
    obtain⟨fr,hx,BE,DN⟩:=adU (blk:=dV mO 4160768384 ((mO 4160768384).1+1,some (.lh QT 2 [[.p (.int .i64 F),.hsl (4160640128+1) g2 6 0 2]]))) (s:=4160768384) zI (Y.of_eq (ct aa));have FL:=uD.of_eq ((X 4160768448 aa aa).trans (by simp only[bG,Nat.reduceEqDiff,if_false]:_=bK 4160768448));have H:∀i,i≠4160640128+1->i∉fr:=λi a h=>by
     rcases DN with rfl|rfl
     .cases h
     exact a (mj.1 h)
    refine aef (m:=4160768448) (id:=4160768448) (bytes:=32) (FL.of_eq (ct aa)) hx BE (H _ aa) (H _ aa) (.inl rfl) (by simp only[aCe,fP,ga];omega) λd' wg r2 u2 vu rT uN=>?_;have GU:=(rT 4160448128 aa aa (H _ aa)).trans ((ct aa).trans (X 4160448128 aa aa));simp only[bG,Nat.reduceEqDiff,if_false]at GU;have OE:=GU.trans Z;simp only[go_sem,u,y,x,v,Q,N,M,z,OE,w2,rW];refine⟨?_,c',d',rfl,rfl,?_,?_⟩
    .rcases DN with rfl|rfl<;>rcases kN with⟨rfl,rfl⟩|⟨rfl,rfl⟩|⟨rfl,rfl⟩<;>rcases uN with⟨rfl,rfl⟩|⟨rfl,rfl⟩|⟨rfl,rfl⟩<;>kernel_rfl
    .rw[hm];exact ib.of_eq ((rT 4160768192 aa aa (H _ aa)).trans (ct aa))
    rw[hc];exact vu
   have:j=F+1:=J;subst this;simp only[go_sem,EA,IV,u,y,x,v,Q,N,M,z,fF,w1];exact⟨rfl,c,d,rfl,rfl,f,m⟩
  have kL:(((k+1:Nat):Int)==2)=false:=by rw[mM];omega
  refine nI (ai5 kL) kQ (.inl rfl) λcc de gl D=>?_;have Ae:=f.of_eq (D 4160768192 aa);have Cm:=m.of_eq (D 4160768448 aa);rcases gl with⟨_,e⟩|⟨h,_⟩
  .cases e;simp only[go_sem];refine og ?_;simp only[go_sem,EA,IV,E,B,O,L,T,we,w1];rw[ax3 h1];exact⟨aw,c,d,rfl,rfl,Ae,Cm⟩
  exact absurd rfl h
 have:k=10:=J;subst this;have nW:¬(((10+1:Nat):Int)<=10):=aa;simp only[go_sem,Jk,XN,E,B,O,L,T,nW];exact Mp aa f m
def ans(h:F<=40):aL S 38 [DF F,.one (.p (.sl (bQ (kinds 10))))] (.tup [.one (cU FN 7 (vT (F+1))),.one (.p (.int .i64 0))]):=by have f:aL S 20 [DF F] (x_ (.box [.int .i64 F,.sl [],.sl [],.sl [],.int .i64 ((0:Nat):Int),.int .i64 ((0:Nat):Int),.sl (bQ (gK [] F))]) (.int .i64 0)):=S1 h;have ps:=avV h;have lo:S.lone 2432256128=false:=ah;refine cG afw ?_;simp only[go_sem,Wa,KY,cE f dX,akX];refine ahg ps lo λc d D j gd H=>?_;simp only[go_sem];exact uc j
end
section
variable {F:Nat} {f:af}
def alP{g r to:Nat}:∀p∈pD g r to,p.1<=max g to/\p.2<=r:=by
 intro p hp;unfold pD at hp
 grind
def ali(g:bj F f)(H:j<I (aA f)):∀p∈mL F f j,p.1<=1000000/\p.2<=1000000:=by
 have ok:=g.ok;have z:=g.fing;have m:=g.len;have y:=IE ok H;have v:=IE ok (cT (j+1) J);have x:GJ f ((aA f).getD j 0)<=I f:=by
  obtain⟨u,l,_,D,hl,_,n⟩:=Jr ok H;rw[D,JS hl];have:=n.r1
  grind
 intro p hp;unfold mL at hp;split at hp
 .have:=alP p hp;omega
 rcases gn.1 hp with h|h<;>(have:=alP p h;omega)
def asa(g:bj F f){w:aG}(m:∀x∈w,x<aT f):∀k,k<=I w->∀p∈(Em F f w k).places,p.1<=1000000/\p.2<=1000000:=by
 intro k
 induction k with
 |zero=>intro _ p hp;cases hp
 |succ k n=>
  intro u;obtain⟨x,H⟩:=aP (show k<I w by omega);have y:=m x (a7 H);rw[ai8 H];unfold dL.add;by_cases h:x<2*I f
  .grind
  rw[aC h];have j:(x-2*I f)/2<I (aA f):=by unfold aT at y;omega
  intro p hp;rcases gn.1 hp with h|h
  .exact(n J) p h
  split at h
  .exact ali g j p h
  exact ali g j p (zJ.1 h)
def ap6(g:bj F f):∀m∈fZ F f,I m.places<=200000/\ ∀p∈m.places,p.1<=1000000/\p.2<=1000000:=by intro m hf;obtain⟨w,j,rfl⟩:=ch.1 hf;obtain⟨_,n,h⟩:=AY g.ok w j;rw[<-ajZ];have u:I (aA f)<=I f:=xo f (I f);have v:=(ac2 g.ok h (I w) (cJ _)).2.1;have H:=g.len;have y:=g.fing;refine⟨?_,asa g h (I w) (cJ _)⟩;have x:I w*(2*F+2)<=1600*82:=O0 (by grind) J;omega
end
abbrev E4:Nat:=24
noncomputable def okB (F:Nat) (f:af) (m:dJ):Bool:= @decide (∃M,sE F f m.k m.a m.b m.c m.l m.o m.s=mQ F M) (Classical.propDecidable _)
def Ws{f:af}:okB F f m↔ ∃M,sE F f m.k m.a m.b m.c m.l m.o m.s=mQ F M:=by grind [okB]
def ahy{L:af}{e:Int}(h:e≠0):mQ F L≠oX e:=by grind
def FC(ok:dJ->Bool)(h:Int->fM)(n:cL)(k:Nat):fM:=if n.contains ((k+1:Nat):Int)then(h ((k+1:Nat):Int)).filter ok else []
def zc(ok:dJ->Bool)(h:Int->fM)(n:cL)(N:Nat):fM:=(List.range N).flatMap (FC ok h n)
def Ro(ok:dJ->Bool)(h:Int->fM)(n:cL)(N:Nat):zc ok h n (N+1)=zc ok h n N++FC ok h n N:=by simp[zc,nJ]
def acR{ok:dJ->Bool}{N B:Nat}(H:I (h ((N+1:Nat):Int))<=B):I (FC ok h n N)<=B:=by
 unfold FC;split
 .exact oO (Xc _ _) H
 exact bZ _
def aiJ{ok:dJ->Bool}{h:Int->fM}{n:cL}{B:Nat}:∀ {N:Nat},(∀k,k<N->I (h ((k+1:Nat):Int))<=B)->I (zc ok h n N)<=B*N
 |0,_=>bZ _
 |N+1,f=>by have m:=aiJ (n:=n) (ok:=ok) λk H=>f k (Nat.lt_succ_of_lt H);have j:=acR (ok:=ok) (n:=n) (f N (Rk N));rw[Ro,gb,Nat.mul_succ];omega
def asT{p:dJ->Bool}{l:fM}(h:l[j]?=some m):(l.take (j+1)).filter p=(l.take j).filter p++if p m then [m]else []:=by rw[Dx h,xK];cases hp:p m<;>simp[hp]
section
variable {F:Nat} {f:af}
def ayN{ok:dJ->Bool}(ad:∀k:Nat,k<10->∀m∈h ((k+1:Nat):Int),(∃e:Int,e≠0/\ok m=false/\aL S 21 [.one (.p (eK F f)),jL m.k m.a m.b m.c m.l m.o m.s] (oX e))\/ ∃M,ok m/\aL S 21 [.one (.p (eK F f)),jL m.k m.a m.b m.c m.l m.o m.s] (mQ F M))(hc:∀k:Nat,k<10->I (h ((k+1:Nat):Int))<=200000000/\aL S 53 [.one (.p (eK F f)),aI ((k+1:Nat):Int)] (.one (cU iG 7 (cO (h ((k+1:Nat):Int)))))){wv:PV}
  (ac:wv.norm=.sl (fJ n)) (tM:I n<=1000000):∃v,aL S 65 [.one (.p (eK F f)),.one (.p wv)] (.tup [.one (cU iG 7 (cO (zc ok h n 10))),.one (cU E4 2 v)]):=by
 have kQ:S.lone 4160448128=false:=ah;have n9:S.lone 4160640128=false:=ah
 suffices av:∃r,(∃v,r=.tup [.one (cU iG 7 (cO (zc ok h n 10))),.one (cU E4 2 v)])/\aL S 65 [.one (.p (eK F f)),.one (.p wv)] r by obtain⟨r,⟨v,rfl⟩,h2⟩:=av;exact⟨v,h2⟩
 refine AQ rfl aka (ju rfl) ?_;simp only[go_sem,aaj];refine dt (λk A blk=>A 0=.one (.p (eK F f))/\A 1=.one (.p wv)/\A 8=aI ((k+1:Nat):Int)/\ ∃v c d,I v<=200000000*k/\A 6=.one c/\A 7=.one d/\bh 4160768192 iG 7 (cO (zc ok h n k)) (.one c) blk/\bh 4160768448 E4 2 v (.one d) blk) 0 10 (bZ _) ?_ ?_
 .simp only[go_sem];exact⟨rfl,[],.p .nils,.p .nils,aE,rfl,rfl,bh.nil,bh.nil⟩
 rintro k A blk hk ⟨T,X,e8,v,c,d,eh,Z,Y,x,O⟩
 by_cases aw:k<10
 .have aM:((k+1:Nat):Int)<=10:=J;have w1:=cS (n:=k+1) J;have ph:=anb n ((k+1:Nat):Int) tM;cases uH:n.contains ((k+1:Nat):Int)with
  |false=>rw[uH]at ph;simp only[go_sem,Jk,IV,T,X,Z,Y,e8,aM,ac,V6,b_ ph,w1];exact⟨aw,v,c,d,J,rfl,rfl,by rw[Ro,FC,uH,aC aa,ic];exact x,O⟩
  |true=>
   obtain⟨az,pc⟩:=hc k aw;have ap:=ad k aw;have hsl:=aiJ (ok:=ok) (n:=n) λi (hi:i<k)=>(hc i J).1;have BI:FC ok h n k=(h ((k+1:Nat):Int)).filter ok:=by rw[FC,uH,aD rfl]
   have Ka:=Ro ok h n k;rw[BI]at Ka;generalize zc ok h n k=u at*;generalize h ((k+1:Nat):Int)=N at*;rw[uH]at ph;simp only[go_sem,Jk,T,X,Z,Y,e8,aM,ac,V6,b_ ph,W5];refine nI pc kQ (.inl rfl) λcc de gl dB=>?_;have Ae:=x.of_eq (dB 4160768192 aa);have Cm:=O.of_eq (dB 4160768448 aa);rcases gl with⟨e,e2⟩|⟨_,gg,e,mu⟩
   .cases e2;simp only[go_sem];refine og ?_;simp only[go_sem,EA,IV,T,X,Z,Y,e8,we,w1];exact⟨aw,v,c,d,J,rfl,rfl,by rw[Ka,show N=[] by simpa [cO]using e,List.filter_nil,ic];exact Ae,Cm⟩
   cases e;rw[oI];simp only[go_sem];refine dt (λj A blk=>A 0=.one (.p (eK F f))/\A 1=.one (.p wv)/\A 8=aI ((k+1:Nat):Int)/\A 23=.one (.hsl 4160448128 gg 7 0 (I N))/\A 24=aI (I N)/\A 25=aI j/\blk 4160448128=(gg,some (.arr iG 7 (cO N)))/\ ∃v c d,I v<=200000000*k+j/\A 6=.one c/\A 7=.one d/\bh 4160768192 iG 7 (cO (u++(N.take j).filter ok)) (.one c) blk/\bh 4160768448 E4 2 v (.one d) blk) 0 (I N) (bZ _) ?_ ?_
   .simp only[go_sem,T,X,Z,Y,e8];exact⟨rfl,mu,v,c,d,J,rfl,rfl,by simpa using Ae,Cm⟩
   clear x O Ae Cm eh mu dB T X Z Y e8;rintro j A blk hj ⟨z,H,Q,y,B,L,bL,v,c,d,eh,E,D,x,O⟩
   by_cases rW:j<I N
   .have F0:((j:Int)<(I N:Int)):=J;have w2:=cS (n:=j) J;obtain⟨m,vD⟩:=aP rW;have jU:=DG vD;have rU:=asT (p:=ok) vD;have ar:I (u++(N.take j).filter ok)<=2000000000:=by
     have h1:=Xc ok (N.take j);have h2:=List.length_take_le j N;rw[gb];omega
    have ao:I (cO N)=I N:=oI N;rcases ap m (a7 vD)with⟨e,he,eI,pd⟩|⟨M,UJ,pd⟩
    .have Am:(e==0)=false:=by simpa using he
     rw[eI]at rU;simp only[if_false,ic,fE]at rU;simp only[go_sem,EA,z,H,E,D,Q,y,B,L,bL,rW,F0,jU,dJ.ps,CT,cE pd ajD,Am,w2];exact⟨v,c,d,J,rfl,rfl,by rw[rU];exact x.of_eq (by simp only[bG,Nat.reduceEqDiff,if_false]),O.of_eq (by simp only[bG,Nat.reduceEqDiff,if_false])⟩
    rw[UJ,aD rfl]at rU;simp only[go_sem,EA,z,H,E,D,Q,y,B,L,bL,rW,F0,jU,dJ.ps,CT];refine RU pd n9 λcx bK gx cV=>?_;have Lv:=cV 4160576128 aa;simp only[go_sem]at Lv;have ab:=(cV 4160448128 aa).trans ((ct aa).trans ((ct aa).trans bL));have wH:=x.of_eq ((cV 4160768192 aa).trans (by simp only[bG,Nat.reduceEqDiff,if_false]));have uD:=O.of_eq ((cV 4160768448 aa).trans (by simp only[bG,Nat.reduceEqDiff,if_false]));have As:cO (u++(N.take (j+1)).filter ok)=cO (u++(N.take j).filter ok)++[dJ.ps m]:=by rw[rU,<-lf];simp[cO]
    rcases gx with⟨eM,e2⟩|⟨ag,g2,e2,P0⟩
    .cases e2;simp only[go_sem,Lv,Lr,z,H,E,D,Q,y,B,L];refine s_ (m:=4160768192) (id:=4160768192) (bytes:=48) (B:=[dJ.ps m]) (rd:=[4160768128]) (wH.of_eq (by simp only[ct,bG,Nat.reduceEqDiff,if_false])) (by simp[hU,bG,dJ.ps]) (.inl rfl) (by simp only[oI,fP,ga];omega) λc' mO r1 u1 ib R kN=>?_
     have Bk:=R 4160640384 aa aa;simp only[go_sem]at Bk;simp only[go_sem,Bk,Lr,z,H,E,D,Q,y,B,L];have FL:=uD.of_eq ((R 4160768448 aa aa).trans (by simp only[bG,Nat.reduceEqDiff,if_false]:_=bK 4160768448));refine s_ (m:=4160768448) (id:=4160768448) (bytes:=32) (B:=[[.int .i64 F,.sl []]]) (rd:=[4160768384]) (FL.of_eq (ct aa)) (by simp[hU,bG]) (.inl rfl) (by simp only[fP,ga];omega) λd' wg r2 u2 vu rT uN=>?_;have GU:=(rT 4160448128 aa aa).trans ((ct aa).trans (R 4160448128 aa aa));simp only[bG,Nat.reduceEqDiff,if_false]at GU;have OE:=GU.trans ab;simp only[go_sem,z,H,E,D,Q,y,B,L,OE,w2,rW];refine⟨?_,_,c',d',by simp;omega,rfl,rfl,?_,vu⟩
     .rcases kN with⟨rfl,rfl⟩|⟨rfl,rfl⟩|⟨rfl,rfl⟩<;>rcases uN with⟨rfl,rfl⟩|⟨rfl,rfl⟩|⟨rfl,rfl⟩<;>kernel_rfl
     rw[As];exact ib.of_eq ((rT 4160768192 aa aa).trans (ct aa))
    cases e2;simp only[go_sem,Lv,Lr,z,H,E,D,Q,y,B,L];refine s_ (m:=4160768192) (id:=4160768192) (bytes:=48) (B:=[dJ.ps m]) (rd:=[4160768128]) (wH.of_eq (by simp only[ct,bG,Nat.reduceEqDiff,if_false])) (by simp[hU,bG,dJ.ps]) (.inl rfl) (by simp only[oI,fP,ga];omega) λc' mO r1 u1 ib R kN=>?_;have Bk:=R 4160640384 aa aa;simp only[go_sem]at Bk;simp only[go_sem,Bk,Lr,z,H,E,D,Q,y,B,L];have OK:=(R (4160640128+1) aa aa);simp only[Nat.reduceAdd,bG,Nat.reduceEqDiff,if_false]at OK P0;have MR:=OK.trans P0;have am:bh (4160640128+1) ml 6 (cX M) (.one (.hsl (4160640128+1) g2 6 0 (I M))) mO:=.inr ⟨ag,g2,by rw[cX,cg],MR⟩
    obtain⟨fr,hx,BE,DN⟩:=adU (blk:=dV mO 4160768384 ((mO 4160768384).1+1,some (.lh E4 2 [[.p (.int .i64 F),.hsl (4160640128+1) g2 6 0 (I M)]]))) (s:=4160768384) zI (am.of_eq (ct aa));have FL:=uD.of_eq ((R 4160768448 aa aa).trans (by simp only[bG,Nat.reduceEqDiff,if_false]:_=bK 4160768448));have nf:∀i,i≠4160640128+1->i∉fr:=λi a av=>by
     rcases DN with rfl|rfl
     .cases av
     exact a (mj.1 av)
    refine aef (m:=4160768448) (id:=4160768448) (bytes:=32) (FL.of_eq (ct aa)) hx BE (nf _ aa) (nf _ aa) (.inl rfl) (by simp only[fP,ga];omega) λd' wg r2 u2 vu rT uN=>?_;have GU:=(rT 4160448128 aa aa (nf _ aa)).trans ((ct aa).trans (R 4160448128 aa aa));simp only[bG,Nat.reduceEqDiff,if_false]at GU;have OE:=GU.trans ab;simp only[go_sem,z,H,E,D,Q,y,B,L,OE,w2,rW];refine⟨?_,_,c',d',by simp;omega,rfl,rfl,?_,vu⟩
    .rcases DN with rfl|rfl<;>rcases kN with⟨rfl,rfl⟩|⟨rfl,rfl⟩|⟨rfl,rfl⟩<;>rcases uN with⟨rfl,rfl⟩|⟨rfl,rfl⟩|⟨rfl,rfl⟩<;>kernel_rfl
    rw[As];exact ib.of_eq ((rT 4160768192 aa aa (nf _ aa)).trans (ct aa))
   have:j=I N:=J;subst this;simp only[go_sem,EA,IV,z,H,E,D,Q,y,B,L,fF,w1];rw[jZ,<-Ka]at x;exact⟨aw,v,c,d,J,rfl,rfl,x,O⟩
 have:k=10:=J;subst this;have nW:¬(((10+1:Nat):Int)<=10):=aa;simp only[go_sem,Jk,XN,T,X,Z,Y,e8,nW];exact⟨_,⟨v,rfl⟩,Mp aa x O⟩
end
def L3(u:fM):((cO u).all λe=>e.all PV.scalar):=by rw[j4];intro e h;obtain⟨m,_,rfl⟩:=ch.1 h;rfl
section
variable {F:Nat} {f:af}
def ane(n:aL S 20 [eU F f] (x_ (eK F f) (.int .i64 0))){j m:PV}(h:j.norm=m){v:dI}(ps:aL S 65 [.one (.p (eK F f)),.one (.p m)] (.tup [.one (cU iG 7 (cO u)),.one (cU E4 2 v)])):aL S 38 [eU F f,.one (.p j)] (.tup [.one (cU iG 7 (cO u)),.one (.p (.int .i64 0))]):=by have lo:S.lone 2432256128=false:=ah;refine cG afw ?_;simp only[go_sem,Wa,KY,cE n dX,h,akX];refine ahg ps lo λc d D x gd H=>?_;simp only[go_sem];exact uc x
def aj2{N:Int}(pr:aL S 38 [eU N f,.one (.p (.sl (bQ (kinds 10))))] (.tup [.one (cU iG 7 (cO u)),.one (.p (.int .i64 0))])):aL S 19 [eU N f] (.tup [.one (cU iG 7 (cO u)),.one (.p (.int .i64 0))]):=by
 have lo:S.lone 1216384128=false:=ah;refine cG at6 ?_;simp only[go_sem,ahz,ai,aB];refine dt (λk A blk=>A 1=.one (.bR 1216000000 1 0)/\blk 1216000000=(1,some (.var (oi N f)))/\A 5=aI ((k+1:Nat):Int)/\ayM k (A 4) blk) 0 10 (bZ _) ?_ ?_
 .simp only[go_sem];exact⟨rfl,.inl ⟨rfl,rfl⟩⟩
 rintro k A blk X ⟨v,y,x,B⟩
 by_cases E:k<10
 .have j:((k+1:Nat):Int)<=10:=J;have z:=cS (n:=k+1) J;have Q:=avN k;rcases B with⟨rfl,h⟩|⟨T,g,h,H⟩
  .simp only[go_sem,Sd,v,y,h,x,E,j,z,ai,aB];exact .inr ⟨aE,_,rfl,rfl⟩
  have D:I (bQ (kinds k))=k:=by simp[kinds]
  have m:List.take k (bQ (kinds k))=bQ (kinds k):=f_ J;have F:(k+1)*8<=140737488355328:=J;have O:I (kinds k)=k:=by simp[kinds]
  simp only[go_sem,Sd,v,y,h,x,E,j,z,H,m,F,O,ai,aB];exact .inr ⟨aE,g+1,aE,by simp only[bG,if_true];rw[Q]⟩
 have:k=10:=J;subst this;have j:¬((10+1:Nat):Int)<=10:=aa;rcases B with⟨M,_⟩|⟨_,g,h,H⟩
 .cases M
 have m:List.take 10 (bQ (kinds 10))=bQ (kinds 10):=f_ (by simp[kinds]);have D:10<=I (List.range 10):=aE;simp only[go_sem,Sd,agK,v,y,h,x,j,H,m,D,anx];refine M0 pr lo (L3 _) rfl λc Y L R=>?_;simp only[go_sem];exact uc L
structure Tc (F:Nat) (ls:af) (cand:Int->fM):Prop where
 two:cand 2=xh F ls (I ls)
 five:cand 5=tj (I ls)
 seven:cand 7=fH (I ls) (I ls)
 one:∀k:Int,k=1\/k=4\/k=9\/k=10->cand k=y7 (I ls) k
 three:∀k:Int,k=3\/k=6\/k=8->(∀m∈cand k,KK k (I ls) m)/\US F ls k (cand k)/\(cand k).Pairwise J7
 len:∀k:Nat,k<10->I (cand ((k+1:Nat):Int))<=200000000
 pev:∀k:Nat,k<10->aL S 53 [.one (.p (eK F ls)),aI ((k+1:Nat):Int)] (.one (cU iG 7 (cO (cand ((k+1:Nat):Int)))))
def acO(g:bj F f)(A:0<I f):∃h,Tc F f h:=by
 have H:=g.len;obtain⟨D,⟨ab,Y,R,PK⟩,L⟩:=XA g A (u:=3) (.inl rfl);obtain⟨M,⟨T,y,v,z⟩,Q⟩:=XA g A (u:=6) (.inr (.inl rfl));obtain⟨E,⟨ac,B,x,u⟩,p8⟩:=XA g A (u:=8) (.inr (.inr rfl));obtain⟨h2,O⟩:=aBm g A (ap6 g);have N:=ayW g A;have X:=aAn g A;have h7:=Zu (I f) (I f);have Z:=O0 H H;have h5:=Wj (I f);have n:∀k:Int,k=1\/k=4\/k=9\/k=10->aL S 53 [.one (.p (eK F f)),aI k] (.one (cU iG 7 (cO (y7 (I f) k)))):=λk j=>by rcases j with rfl|rfl|rfl|rfl<;>exact aue g A aa aa aa aa aa aa
 have m:∀k:Int,I (y7 (I f) k)<=200000000:=λk=>by rw[aif];omega
 refine⟨λk=>if k=2 then xh F f (I f) else if k=5 then tj (I f) else if k=7 then fH (I f) (I f) else if k=3 then D else if k=6 then M else if k=8 then E else y7 (I f) k,rfl,rfl,rfl,λk j=>?_,λk j=>?_,λk j=>?_,λk j=>?_⟩
 .rcases j with rfl|rfl|rfl|rfl<;>rfl
 .rcases j with rfl|rfl|rfl
  .exact⟨Y,R,PK⟩
  .exact⟨y,v,z⟩
  exact⟨B,x,u⟩
 .rcases k with _|_|_|_|_|_|_|_|_|_|k
  .exact m 1
  .show(xh F f (I f)).length<=_;omega
  .show (I D)<=_;omega
  .exact m 4
  .show(tj (I f)).length<=_;omega
  .show (I M)<=_;omega
  .show(fH (I f) (I f)).length<=_;omega
  .show (I E)<=_;omega
  .exact m 9
  .exact m 10
  omega
 rcases k with _|_|_|_|_|_|_|_|_|_|k
 .exact n 1 aa
 .exact O
 .exact L
 .exact n 4 aa
 .exact N
 .exact Q
 .exact X
 .exact p8
 .exact n 9 aa
 .exact n 10 aa
 omega
def Tc.kind(n:Tc F f h){k:Nat}(v:k<10):∀m∈h ((k+1:Nat):Int),m.k=((k+1:Nat):Int):=by
 have j:∀k:Int,∀m∈y7 (I f) k,m.k=k:=λk m H=>by obtain⟨a,_,rfl⟩:=ch.1 H;rfl
 have u:∀k:Int,k=3\/k=6\/k=8->∀m∈h k,m.k=k:=λk v m H=>by obtain⟨a,_,y⟩:=(n.three k v).1 m H;exact y.1
 rcases k with _|_|_|_|_|_|_|_|_|_|k
 .show ∀m∈h 1,m.k=1;rw[n.one 1 aa];exact j 1
 .show ∀m∈h 2,m.k=2;rw[n.two];intro m H;obtain⟨a,_,H⟩:=pK.1 H;obtain⟨x,_,rfl⟩:=ch.1 H;rfl
 .exact u 3 aa
 .show ∀m∈h 4,m.k=4;rw[n.one 4 aa];exact j 4
 .show ∀m∈h 5,m.k=5;rw[n.five];intro m H;obtain⟨a,_,H⟩:=pK.1 H;obtain⟨x,_,rfl⟩:=ch.1 H;rfl
 .exact u 6 aa
 .show ∀m∈h 7,m.k=7;rw[n.seven];intro m H;obtain⟨a,_,H⟩:=pK.1 H;obtain⟨c,_,H⟩:=pK.1 H;unfold yv at H;split at H
  .cases H
  obtain⟨x,_,rfl⟩:=ch.1 H;rfl
 .exact u 8 aa
 .show ∀m∈h 9,m.k=9;rw[n.one 9 aa];exact j 9
 .show ∀m∈h 10,m.k=10;rw[n.one 10 aa];exact j 10
 omega
end

def FG(l:af):I (cX l)=I l:=cg _
def ag8(F:Int)(f:af)(hl:I f<=1000000):aL S 94 [eU F f] (.agg [.p (.int .i64 F),cU ml 6 (cX f)]):=by refine cG auQ ?_;simp only[go_sem,aeS];refine s_ (id:=6016064256) (bytes:=48) bh.nil (B:=cX f) (rd:=[]) rfl (.inr (AF _)) (by simp;omega) λc1 j r w g1 D h=>?_;rw[fB]at g1;have Q:=D 6016000064 aa aa;simp only[go_sem]at Q;simp only[go_sem,Q];refine⟨?_,H2 (g1.of_eq (ct aa))⟩;rcases h with⟨rfl,rfl⟩|⟨rfl,rfl⟩|⟨rfl,rfl⟩<;>kernel_rfl
def Ha(L:af)(D:gD)(i:Nat):Bool:=match L[i]?,D[i]? with|some l,some d=>(l.kind==1)&&d|_,_=>false
def Qd(L:af)(D:gD):eT:=(List.range (I L)).find? (Ha L D)
def Ho(L:af)(D:gD):af:=match Qd L D with|some i=>L.drop i++L.take i|none=>L
def arf(ab:Int)(L:af)(D:gD)(hl:I L<=1000000)(hd:I D=I L):aL S 95 [eU ab L,.one (.p (.sl (iQ D)))] (.agg [.p (.int .i64 ab),cU ml 6 (cX (Ho L D))]):=by
 have pc:=ag8 ab L hl;have lo:S.lone 6080384064=false:=ah;refine cG anz ?_;simp only[go_sem,ai1];refine dt (λk x blk=>x 1=.one (.p (.sl (iQ D)))/\x 2=.one (.bR 6080000000 1 0)/\x 4=.one (.bR 6080000064 1 0)/\x 5=aI k/\blk 6080000000=(1,some (.var (oi ab L)))/\blk 6080000064=(1,some (.var [.p (.int .i64 0),.p .nils]))/\ ∀j,j<k->Ha L D j=false) 0 (I L) (bZ _) ?_ ?_
 .simp only[go_sem];exact⟨rfl,λj R=>absurd R (o6 j)⟩
 rintro k x blk hk ⟨u,v,H,z,y,B,O⟩
 by_cases A:k<I L
 .have F:((k:Int)<(I L:Int)):=J;obtain⟨l,Z⟩:=aP A;obtain⟨d,Y⟩:=aP (h:=D) (k:=k) J;have T:=jh Z;have vH:=tR Y;have X:=cS (n:=k) J;have ae:Ha L D k=((l.kind==1)&&d):=by simp[Ha,Z,Y]
  have m:Ha L D k=false->∀j,j<k+1->Ha L D j=false:=λh j R=>by
   rcases rH.1 R with u|rfl
   .exact O j u
   exact h
  cases E:(l.kind==1)with
  |false=>rw[E]at ae;simp only[go_sem,Px,u,v,H,z,y,B,A,F,T,U.ps,E,X];exact m ae
  |true=>
   rw[E]at ae;cases d with
   |false=>simp only[go_sem,Px,u,v,H,z,y,B,A,F,T,vH,U.ps,E,X];exact m ae
   |true=>
    have hf:Qd L D=some k:=AB A O ae;have N:Ho L D=L.drop k++L.take k:=by unfold Ho;rw[hf]
    have kl:k<=I L:=J;have QF:=AF L;have wQ:List.take (I L-k) (List.drop k (cX L))=cX (L.drop k):=by rw[f_ aE];simp[vv]
    have l8:List.take k (cX L)=cX (L.take k):=by simp[sC]
    rw[N,abi];simp only[go_sem,Px,u,v,H,z,y,B,A,F,T,vH,U.ps,E,kl,QF,wQ];refine s_ (id:=6080320384) (bytes:=48) bh.nil (B:=cX (L.drop k)) (rd:=[]) rfl (.inr (AF _)) (by simp;omega) λc1 de r w g1 dB hw=>?_;rw[fB]at g1;have q0:=(dB 6080000000 aa aa).trans y;have Q:=(dB 6080000064 aa aa).trans B;simp only[go_sem,v,H,z,q0,kl,QF,l8];refine s_ (bytes:=48) g1 (B:=cX (L.take k)) (rd:=[]) rfl (.inr (AF _)) (by simp;omega) λc2 bK r2 w2 g2 M qW=>?_;have Ik:=(M 6080000064 aa aa).trans Q;simp only[go_sem,H,Ik];refine⟨?_,H2 (g2.of_eq (ct aa))⟩;rcases hw with⟨rfl,rfl⟩|⟨rfl,rfl⟩|⟨rfl,rfl⟩<;>rcases qW with⟨rfl,rfl⟩|⟨rfl,rfl⟩|⟨rfl,rfl⟩<;>kernel_rfl
 have:k=I L:=J;subst this;have hf:Qd L D=none:=Fa O;have N:Ho L D=L:=by unfold Ho;rw[hf]
 rw[N];simp only[go_sem,Px,ah8,u,v,H,z,y,B,fF,Xx];refine O6 pc lo rfl (Ih _) λc2 bK uD M=>?_;have Q:=(M 6080000064 aa).trans B;simp only[go_sem,H,Q];exact H2 (uD.of_eq (ct aa))



def ad8(L:af)(i:Nat)(y:U){z:dW}(h:y.ps=z):(cX L).set i z=cX (L.set i y):=by subst h;simp[cX,Ew]
def aBE{i:Nat}:cF.all.ok i:=rfl
attribute [go_sem] aBE

end Go.Abs
