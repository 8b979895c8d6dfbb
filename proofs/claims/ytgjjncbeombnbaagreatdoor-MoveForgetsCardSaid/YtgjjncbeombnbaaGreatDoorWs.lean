/- A part. -/
import Derived.Test.YtgjjncbeombnbaaGreatDoorWr
set_option linter.all false
open List renaming length->I
set_option maxRecDepth 100000
set_option maxHeartbeats 16000000
namespace Go.Abs
variable{j F:Nat}{f z:af}{h:Int->fO}{n:bQ}{v x:PV}{u:fO}
section
variable{m:dG}
section
variable {F:Nat}
def Db (F k:Nat):Nat:=if 2<=k then F+1 else 0
def aup{k:Nat}(h:k≠1):Db F (k+1)=Db F k:=by
 unfold Db;by_cases c:2<=k
 .rw[an c,an J]
 rw[ai c,ai J]
def avJ(hF:F<=40):aI S 50 [BE F,.one (.p (.sl (bt (kinds 10))))] (.tup [.one (cP DO 7 (uu (F+1))),.one (cP QM 2 (D_ F (F+1)))]):=by
 have nU:S.lone 3200448128=false:=ah;have qt:S.lone 3200640128=false:=ah;refine bR ab5 ?_;simp only[go_sem,XE];refine df (λk A blk=>A 0=BE F/\A 1=.one (.p (.sl (bt (kinds 10))))/\A 8=aE ((k+1:Nat):Int)/\ ∃c d,A 6=.one c/\A 7=.one d/\a8 3200768192 DO 7 (uu (Db F k)) (.one c) blk/\a8 3200768448 QM 2 (D_ F (Db F k)) (.one d) blk) 0 10 (bN _) ?_ ?_
 .simp only[go_sem];first|exact⟨rfl,.p .nils,.p .nils,rfl,rfl,.inl ⟨rfl,rfl⟩,.inl ⟨rfl,rfl⟩⟩|exact⟨rfl,rfl,.p .nils,.p .nils,rfl,rfl,.inl ⟨rfl,rfl⟩,.inl ⟨rfl,rfl⟩⟩
 rintro k A blk hk ⟨u,O,E,c,d,e6,Y,f,m⟩
 by_cases aB:k<10
 .have aL:((k+1:Nat):Int)<=10:=J;have ph:=apV aB;have w1:=cE (n:=k+1) J;simp only[go_sem,H8,u,O,E,aL,YE,eU ph,aaQ];by_cases h1:k=1
  .subst h1;refine nQ (aa0 hF) nU (.inl rfl) λcc cK Q D=>?_;have H:=f.of_eq (D 3200768192 aa);have AT:=m.of_eq (D 3200768448 aa);rcases Q with⟨e,_⟩|⟨_,gg,e,mM⟩
   .exact absurd (congrArg List.length e) (by rw[SX];simp)
   cases e;rw[SX];simp only[go_sem];refine df (λj A blk=>A 0=BE F/\A 1=.one (.p (.sl (bt (kinds 10))))/\A 8=aE 2/\A 23=.one (.hsl 3200448128 gg 7 0 (F+1))/\A 24=aE ((F+1:Nat):Int)/\A 25=aE j/\blk 3200448128=(gg,some (.arr DO 7 (uu (F+1))))/\ ∃c d,A 6=.one c/\A 7=.one d/\a8 3200768192 DO 7 (uu j) (.one c) blk/\a8 3200768448 QM 2 (D_ F j) (.one d) blk) 0 (F+1) (bN _) ?_ ?_
   .simp only[go_sem,u,O,e6,Y,E];exact⟨rfl,rfl,mM,c,d,rfl,rfl,H,AT⟩
   rintro j A blk hj ⟨T,q1,q8,rV,z,x,bL,c,d,q6,X,f,m⟩
   by_cases qo:j<F+1
   .have Ed:((j:Int)<((F+1:Nat):Int)):=J;have w2:=cE (n:=j) J;have ja:=azh qo;have pd:=Uk (F:=F) (b:=j) J;have hm:=Z7 j;have hc:=az5 F j;simp only[go_sem,EG,T,rV,z,x,bL,qo,Ed,ja,Eo,Ji];refine P5 pd qt λcx aZ gx B=>?_;have Jk:=B 3200576128 aa;simp only[go_sem]at Jk;have M:=(B 3200448128 aa).trans ((cF aa).trans bL);have uJ:=f.of_eq ((B 3200768192 aa).trans (cF aa));have sI:=m.of_eq ((B 3200768448 aa).trans (cF aa));rcases gx with⟨e,_⟩|⟨aN,Z,e,NJ⟩
    .cases e
    cases e;simp only[go_sem,Jk,q6];refine uC (m:=3200768192) (id:=3200768192) (bytes:=48) (B:=[Eo j]) (rd:=[3200768128]) (uJ.of_eq (by simp only[ba,Nat.reduceEqDiff,if_false])) (by simp[gP,ba,Eo]) (.inl rfl) (by simp only[SX,fG,gk];omega) λc' y r1 u1 iT L j4=>?_;have xS:=L 3200640384 aa aa;simp only[go_sem]at xS;simp only[go_sem,xS,X];have ML:=(L (3200640128+1) aa aa);simp only[Nat.reduceAdd,ba,Nat.reduceEqDiff,if_false]at ML NJ;have R:=ML.trans NJ;have v:a8 (3200640128+1) p_ 6 (dQ (pD j)) (.one (.hsl (3200640128+1) Z 6 0 2)) y:=.inr ⟨aN,Z,rfl,R⟩
    obtain⟨fr,hx,zL,A9⟩:=ZO (blk:=dN y 3200768384 ((y 3200768384).1+1,some (.kG QM 2 [[.p (.int .i64 F),.hsl (3200640128+1) Z 6 0 2]]))) (s:=3200768384) w_ (v.of_eq (cF aa));have DR:=sI.of_eq ((L 3200768448 aa aa).trans (by simp only[ba,Nat.reduceEqDiff,if_false]:_=aZ 3200768448));have N:∀i,i≠3200640128+1->i∉fr:=λi a h=>by
     rcases A9 with rfl|rfl
     .cases h
     exact a (nY.1 h)
    refine aad (m:=3200768448) (id:=3200768448) (bytes:=32) (DR.of_eq (cF aa)) hx zL (N _ aa) (N _ aa) (.inl rfl) (by simp only[ayg,fG,gk];omega) λd' vE r2 u2 tS qK uR=>?_;have Fk:=(qK 3200448128 aa aa (N _ aa)).trans ((cF aa).trans (L 3200448128 aa aa));simp only[ba,Nat.reduceEqDiff,if_false]at Fk;have MF:=Fk.trans M;simp only[go_sem,T,q1,q6,X,q8,rV,z,x,MF,w2,qo];refine⟨?_,c',d',rfl,rfl,?_,?_⟩
    .rcases A9 with rfl|rfl<;>rcases j4 with⟨rfl,rfl⟩|⟨rfl,rfl⟩|⟨rfl,rfl⟩<;>rcases uR with⟨rfl,rfl⟩|⟨rfl,rfl⟩|⟨rfl,rfl⟩<;>kernel_rfl
    .rw[hm];exact iT.of_eq ((qK 3200768192 aa aa (N _ aa)).trans (cF aa))
    rw[hc];exact tS
   have:j=F+1:=J;subst this;simp only[go_sem,EG,GL,T,q1,q6,X,q8,z,x,ff];exact⟨rfl,c,d,rfl,rfl,f,m⟩
  have sP:(((k+1:Nat):Int)==2)=false:=by rw[mE];omega
  refine nQ (adr sP) nU (.inl rfl) λcc cK Q D=>?_;have H:=f.of_eq (D 3200768192 aa);have AT:=m.of_eq (D 3200768448 aa);rcases Q with⟨_,e⟩|⟨h,_⟩
  .cases e;simp only[go_sem];refine mP ?_;simp only[go_sem,EG,GL,u,O,e6,Y,E,BJ,w1];rw[aup h1];exact⟨aB,c,d,rfl,rfl,H,AT⟩
  exact absurd rfl h
 have:k=10:=J;subst this;have mu:¬(((10+1:Nat):Int)<=10):=aa;simp only[go_sem,H8,Tb,e6,Y,E,mu];exact PU aa f m
def anN(h:F<=40):aI S 24 [DI F,.one (.p (.sl (bt (kinds 10))))] (.tup [.one (cP DO 7 (uu (F+1))),.one (.p (.int .i64 0))]):=by have f:aI S 19 [DI F] (wi (.box [.int .i64 F,.sl [],.sl [],.sl [],.int .i64 ((0:Nat):Int),.int .i64 ((0:Nat):Int),.sl (bt (gb [] F))]) (.int .i64 0)):=PA h;have ps:=avJ h;have lo:S.lone 1536256128=false:=ah;refine bR ac0 ?_;simp only[go_sem,TD,KU,dJ f jg,aa8];refine aco ps lo λc d m j gd H=>?_;simp only[go_sem];exact tN j
end
section
variable {F:Nat} {f:af}
def agd{g r to:Nat}:∀p∈oo g r to,p.1<=max g to/\p.2<=r:=by
 intro p hp;unfold oo at hp
 grind
def aiQ(g:a_ F f)(H:j<I (ay f)):∀p∈lE F f j,p.1<=1000000/\p.2<=1000000:=by
 have ok:=g.ok;have z:=g.fing;have m:=g.len;have y:=Hd ok H;have v:=Hd ok (cJ (j+1) J);have x:EY f ((ay f).getD j 0)<=I f:=by
  obtain⟨u,l,_,D,hl,_,n⟩:=Em ok H;rw[D,GU hl];have:=n.r1
  grind
 intro p hp;unfold lE at hp;split at hp
 .have:=agd p hp;omega
 rcases iR.1 hp with h|h<;>(have:=agd p h;omega)
def atc(g:a_ F f){w:aC}(m:∀x∈w,x<nD f):∀k,k<=I w->∀p∈(CV F f w k).places,p.1<=1000000/\p.2<=1000000:=by
 intro k
 induction k with
 |zero=>intro _ p hp;cases hp
 |succ k n=>
  intro u;obtain⟨x,H⟩:=aM (show k<I w by omega);have B:=m x (aX H);rw[ab8 H];unfold c9.add;by_cases h:x<2*I f
  .grind
  rw[ai h];have j:(x-2*I f)/2<I (ay f):=by unfold nD at B;omega
  intro p hp;rcases iR.1 hp with h|h
  .exact(n J) p h
  split at h
  .exact aiQ g j p h
  exact aiQ g j p (yW.1 h)
def av8(g:a_ F f):∀m∈fB F f,I m.places<=200000/\ ∀p∈m.places,p.1<=1000000/\p.2<=1000000:=by intro m hf;obtain⟨w,j,rfl⟩:=cD.1 hf;obtain⟨_,n,h⟩:=zn g.ok w j;rw[<-ah8];have y:I (ay f)<=I f:=uW f (I f);have u:=(agt g.ok h (I w) (ct _)).2.1;have H:=g.len;have x:=g.fing;refine⟨?_,atc g h (I w) (ct _)⟩;have v:I w*(2*F+2)<=1600*82:=Lb (by grind) J;omega
end
abbrev HB:Nat:=24
noncomputable def okB (F:Nat) (f:af) (m:dG):Bool:= @decide (∃M,qG F f m.k m.a m.b m.c m.l m.o m.s=mz F M) (Classical.propDecidable _)
def Ti:okB F f m↔ ∃M,qG F f m.k m.a m.b m.c m.l m.o m.s=mz F M:=by grind [okB]
def abc{L:af}{e:Int}(h:e≠0):mz F L≠oI e:=by grind
def Bz(ok:dG->Bool)(h:Int->fO)(n:bQ)(k:Nat):fO:=if n.contains ((k+1:Nat):Int)then(h ((k+1:Nat):Int)).filter ok else []
def vL(ok:dG->Bool)(h:Int->fO)(n:bQ)(N:Nat):fO:=(List.range N).flatMap (Bz ok h n)
def PN(ok:dG->Bool)(h:Int->fO)(n:bQ)(N:Nat):vL ok h n (N+1)=vL ok h n N++Bz ok h n N:=by simp[vL,mD]
def aeK{ok:dG->Bool}{N B:Nat}(H:I (h ((N+1:Nat):Int))<=B):I (Bz ok h n N)<=B:=by
 unfold Bz;split
 .exact nA (So _ _) H
 exact bN _
def ajN{ok:dG->Bool}{h:Int->fO}{n:bQ}{B:Nat}:∀ {N:Nat},(∀k,k<N->I (h ((k+1:Nat):Int))<=B)->I (vL ok h n N)<=B*N
 |0,_=>bN _
 |N+1,f=>by have m:=ajN (n:=n) (ok:=ok) λk H=>f k (Nat.lt_succ_of_lt H);have j:=aeK (ok:=ok) (n:=n) (f N (Nat.lt_succ_self N));rw[PN,fU,Nat.mul_succ];omega
def apt{p:dG->Bool}{l:fO}(h:l[j]?=some m):(l.take (j+1)).filter p=(l.take j).filter p++if p m then [m]else []:=by rw[CC h,BF];cases hp:p m<;>simp[hp]
section
variable {F:Nat} {f:af}
def ahT{ok:dG->Bool}(ac:∀k:Nat,k<10->∀m∈h ((k+1:Nat):Int),(∃e:Int,e≠0/\ok m=false/\aI S 20 [.one (.p (ez F f)),jM m.k m.a m.b m.c m.l m.o m.s] (oI e))\/ ∃M,ok m/\aI S 20 [.one (.p (ez F f)),jM m.k m.a m.b m.c m.l m.o m.s] (mz F M))(hc:∀k:Nat,k<10->I (h ((k+1:Nat):Int))<=200000000/\aI S 86 [.one (.p (ez F f)),aE ((k+1:Nat):Int)] (.one (cP im 7 (cY (h ((k+1:Nat):Int))))))
  (ab:v.norm=.sl (dR n)) (ud:I n<=1000000):∃x,aI S 50 [.one (.p (ez F f)),.one (.p v)] (.tup [.one (cP im 7 (cY (vL ok h n 10))),.one (cP HB 2 x)]):=by
 have nU:S.lone 3200448128=false:=ah;have qt:S.lone 3200640128=false:=ah
 suffices ar:∃r,(∃x,r=.tup [.one (cP im 7 (cY (vL ok h n 10))),.one (cP HB 2 x)])/\aI S 50 [.one (.p (ez F f)),.one (.p v)] r by obtain⟨r,⟨x,rfl⟩,h2⟩:=ar;exact⟨x,h2⟩
 refine Cd rfl ab5 (jx rfl) ?_;simp only[go_sem,XE];refine df (λk A blk=>A 0=.one (.p (ez F f))/\A 1=.one (.p v)/\A 8=aE ((k+1:Nat):Int)/\ ∃x c d,I x<=200000000*k/\A 6=.one c/\A 7=.one d/\a8 3200768192 im 7 (cY (vL ok h n k)) (.one c) blk/\a8 3200768448 HB 2 x (.one d) blk) 0 10 (bN _) ?_ ?_
 .simp only[go_sem];exact⟨rfl,[],.p .nils,.p .nils,aH,rfl,rfl,a8.nil,a8.nil⟩
 rintro k A blk hk ⟨D,Z,E,x,c,d,dK,e6,e7,y,z⟩
 by_cases H:k<10
 .have aL:((k+1:Nat):Int)<=10:=J;have w1:=cE (n:=k+1) J;have ph:=asT n ((k+1:Nat):Int) ud;cases wY:n.contains ((k+1:Nat):Int)with
  |false=>rw[wY]at ph;simp only[go_sem,H8,GL,D,Z,e6,e7,E,aL,ab,YE,eU ph,w1];exact⟨H,x,c,d,J,rfl,rfl,by rw[PN,Bz,wY,ai aa,i_];exact y,z⟩
  |true=>
   obtain⟨av,pc⟩:=hc k H;have DZ:=ac k H;have hsl:=ajN (ok:=ok) (n:=n) λi (hi:i<k)=>(hc i J).1;have Bh:Bz ok h n k=(h ((k+1:Nat):Int)).filter ok:=by rw[Bz,wY,an rfl]
   have On:=PN ok h n k;rw[Bh]at On;generalize vL ok h n k=u at*;generalize h ((k+1:Nat):Int)=N at*;rw[wY]at ph;simp only[go_sem,H8,D,Z,E,aL,ab,YE,eU ph,aaQ];refine nQ pc nU (.inl rfl) λcc cK gl de=>?_;have Hr:=y.of_eq (de 3200768192 aa);have AT:=z.of_eq (de 3200768448 aa);rcases gl with⟨e,R⟩|⟨_,gg,e,mM⟩
   .cases R;simp only[go_sem];refine mP ?_;simp only[go_sem,EG,GL,D,Z,e6,e7,E,BJ,w1];exact⟨H,x,c,d,J,rfl,rfl,by rw[On,show N=[] by simpa [cY]using e,List.filter_nil,i_];exact Hr,AT⟩
   cases e;rw[sV];simp only[go_sem];refine df (λj A blk=>A 0=.one (.p (ez F f))/\A 1=.one (.p v)/\A 8=aE ((k+1:Nat):Int)/\A 23=.one (.hsl 3200448128 gg 7 0 (I N))/\A 24=aE (I N)/\A 25=aE j/\blk 3200448128=(gg,some (.arr im 7 (cY N)))/\ ∃x c d,I x<=200000000*k+j/\A 6=.one c/\A 7=.one d/\a8 3200768192 im 7 (cY (u++(N.take j).filter ok)) (.one c) blk/\a8 3200768448 HB 2 x (.one d) blk) 0 (I N) (bN _) ?_ ?_
   .simp only[go_sem,D,Z,e6,e7,E];exact⟨rfl,mM,x,c,d,J,rfl,rfl,by simpa using Hr,AT⟩
   clear y z Hr AT dK mM de D Z e6 e7 E;rintro j A blk hj ⟨q0,q1,q8,rV,O,X,bL,x,c,d,dK,B,Q,y,z⟩
   by_cases qo:j<I N
   .have Ed:((j:Int)<(I N:Int)):=J;have w2:=cE (n:=j) J;obtain⟨m,yu⟩:=aM qo;have ja:=IY yu;have T:=apt (p:=ok) yu;have ap:I (u++(N.take j).filter ok)<=2000000000:=by
     have h1:=So ok (N.take j);have h2:=List.length_take_le j N;rw[fU];omega
    have ak:I (cY N)=I N:=sV N;rcases DZ m (aX yu)with⟨e,he,eI,pd⟩|⟨M,R6,pd⟩
    .have B6:(e==0)=false:=by simpa using he
     rw[eI]at T;simp only[if_false,i_,gJ]at T;simp only[go_sem,EG,q0,q1,B,Q,q8,rV,O,X,bL,qo,Ed,ja,dG.ps,Ji,dJ pd aol,B6,w2];exact⟨x,c,d,J,rfl,rfl,by rw[T];exact y.of_eq (by simp only[ba,Nat.reduceEqDiff,if_false]),z.of_eq (by simp only[ba,Nat.reduceEqDiff,if_false])⟩
    rw[R6,an rfl]at T;simp only[go_sem,EG,q0,rV,O,X,bL,qo,Ed,ja,dG.ps,Ji];refine P5 pd qt λcx aZ gx bZ=>?_;have Jk:=bZ 3200576128 aa;simp only[go_sem]at Jk;have Y:=(bZ 3200448128 aa).trans ((cF aa).trans ((cF aa).trans bL));have uJ:=y.of_eq ((bZ 3200768192 aa).trans (by simp only[ba,Nat.reduceEqDiff,if_false]));have sI:=z.of_eq ((bZ 3200768448 aa).trans (by simp only[ba,Nat.reduceEqDiff,if_false]));have yw:cY (u++(N.take (j+1)).filter ok)=cY (u++(N.take j).filter ok)++[dG.ps m]:=by rw[T,<-kr];simp[cY]
    rcases gx with⟨eM,R⟩|⟨ag,g2,R,NJ⟩
    .cases R;simp only[go_sem,Jk,B];refine uC (m:=3200768192) (id:=3200768192) (bytes:=48) (B:=[dG.ps m]) (rd:=[3200768128]) (uJ.of_eq (by simp only[ba,Nat.reduceEqDiff,if_false])) (by simp[gP,ba,dG.ps]) (.inl rfl) (by simp only[sV,fG,gk];omega) λc' lQ r1 u1 iT L j4=>?_;have xS:=L 3200640384 aa aa;simp only[go_sem]at xS;simp only[go_sem,xS,Q];have DR:=sI.of_eq ((L 3200768448 aa aa).trans (by simp only[ba,Nat.reduceEqDiff,if_false]:_=aZ 3200768448));refine uC (m:=3200768448) (id:=3200768448) (bytes:=32) (B:=[[.int .i64 F,.sl []]]) (rd:=[3200768384]) (DR.of_eq (cF aa)) (by simp[gP,ba]) (.inl rfl) (by simp only[fG,gk];omega) λd' vE r2 u2 tS qK uR=>?_
     have Fk:=(qK 3200448128 aa aa).trans ((cF aa).trans (L 3200448128 aa aa));simp only[ba,Nat.reduceEqDiff,if_false]at Fk;have MF:=Fk.trans Y;simp only[go_sem,q0,q1,B,Q,q8,rV,O,X,MF,w2,qo];refine⟨?_,_,c',d',by simp;omega,rfl,rfl,?_,tS⟩
     .rcases j4 with⟨rfl,rfl⟩|⟨rfl,rfl⟩|⟨rfl,rfl⟩<;>rcases uR with⟨rfl,rfl⟩|⟨rfl,rfl⟩|⟨rfl,rfl⟩<;>kernel_rfl
     rw[yw];exact iT.of_eq ((qK 3200768192 aa aa).trans (cF aa))
    cases R;simp only[go_sem,Jk,B];refine uC (m:=3200768192) (id:=3200768192) (bytes:=48) (B:=[dG.ps m]) (rd:=[3200768128]) (uJ.of_eq (by simp only[ba,Nat.reduceEqDiff,if_false])) (by simp[gP,ba,dG.ps]) (.inl rfl) (by simp only[sV,fG,gk];omega) λc' lQ r1 u1 iT L j4=>?_;have xS:=L 3200640384 aa aa;simp only[go_sem]at xS;simp only[go_sem,xS,Q];have ML:=(L (3200640128+1) aa aa);simp only[Nat.reduceAdd,ba,Nat.reduceEqDiff,if_false]at ML NJ;have am:=ML.trans NJ;have ad:a8 (3200640128+1) p_ 6 (dQ M) (.one (.hsl (3200640128+1) g2 6 0 (I M))) lQ:=.inr ⟨ag,g2,by rw[dQ,bG],am⟩
    obtain⟨fr,hx,zL,A9⟩:=ZO (blk:=dN lQ 3200768384 ((lQ 3200768384).1+1,some (.kG HB 2 [[.p (.int .i64 F),.hsl (3200640128+1) g2 6 0 (I M)]]))) (s:=3200768384) w_ (ad.of_eq (cF aa));have DR:=sI.of_eq ((L 3200768448 aa aa).trans (by simp only[ba,Nat.reduceEqDiff,if_false]:_=aZ 3200768448));have nf:∀i,i≠3200640128+1->i∉fr:=λi a ar=>by
     rcases A9 with rfl|rfl
     .cases ar
     exact a (nY.1 ar)
    refine aad (m:=3200768448) (id:=3200768448) (bytes:=32) (DR.of_eq (cF aa)) hx zL (nf _ aa) (nf _ aa) (.inl rfl) (by simp only[fG,gk];omega) λd' vE r2 u2 tS qK uR=>?_;have Fk:=(qK 3200448128 aa aa (nf _ aa)).trans ((cF aa).trans (L 3200448128 aa aa));simp only[ba,Nat.reduceEqDiff,if_false]at Fk;have MF:=Fk.trans Y;simp only[go_sem,q0,q1,B,Q,q8,rV,O,X,MF,w2,qo];refine⟨?_,_,c',d',by simp;omega,rfl,rfl,?_,tS⟩
    .rcases A9 with rfl|rfl<;>rcases j4 with⟨rfl,rfl⟩|⟨rfl,rfl⟩|⟨rfl,rfl⟩<;>rcases uR with⟨rfl,rfl⟩|⟨rfl,rfl⟩|⟨rfl,rfl⟩<;>kernel_rfl
    rw[yw];exact iT.of_eq ((qK 3200768192 aa aa (nf _ aa)).trans (cF aa))
   have:j=I N:=J;subst this;simp only[go_sem,EG,GL,q0,q1,B,Q,q8,O,X,ff,w1];rw[jz,<-On]at y;exact⟨H,x,c,d,J,rfl,rfl,y,z⟩
 have:k=10:=J;subst this;have mu:¬(((10+1:Nat):Int)<=10):=aa;simp only[go_sem,H8,Tb,e6,e7,E,mu];exact⟨_,⟨x,rfl⟩,PU aa y z⟩
end
def NA(u:fO):((cY u).all λe=>e.all PV.scalar):=by rw[mB];intro e h;obtain⟨m,_,rfl⟩:=cD.1 h;rfl
section
variable {F:Nat} {f:af}
def afp(m:aI S 19 [fc F f] (wi (ez F f) (.int .i64 0))){j:PV}(h:v.norm=j){n:dh}(ps:aI S 50 [.one (.p (ez F f)),.one (.p j)] (.tup [.one (cP im 7 (cY u)),.one (cP HB 2 n)])):aI S 24 [fc F f,.one (.p v)] (.tup [.one (cP im 7 (cY u)),.one (.p (.int .i64 0))]):=by have lo:S.lone 1536256128=false:=ah;refine bR ac0 ?_;simp only[go_sem,TD,KU,dJ m jg,h,aa8];refine aco ps lo λc d y x gd H=>?_;simp only[go_sem];exact tN x
def adG{Q:Int}(pr:aI S 24 [fc Q f,.one (.p (.sl (bt (kinds 10))))] (.tup [.one (cP im 7 (cY u)),.one (.p (.int .i64 0))])):aI S 18 [fc Q f] (.tup [.one (cP im 7 (cY u)),.one (.p (.int .i64 0))]):=by
 have lo:S.lone 1152384128=false:=ah;refine bR awJ ?_;simp only[go_sem,aic];refine df (λk A blk=>A 1=.one (.bh 1152000000 1 0)/\blk 1152000000=(1,some (.var (lR Q f)))/\A 5=aE ((k+1:Nat):Int)/\avT k (A 4) blk) 0 10 (bN _) ?_ ?_
 .simp only[go_sem];exact⟨rfl,.inl ⟨rfl,rfl⟩⟩
 rintro k A blk Y ⟨v,y,x,B⟩
 by_cases D:k<10
 .have j:((k+1:Nat):Int)<=10:=J;have z:=cE (n:=k+1) J;have O:=ay9 k;rcases B with⟨rfl,h⟩|⟨X,g,h,H⟩
  .simp only[go_sem,P3,v,y,h,x,D,j,z,iQ,jq];exact .inr ⟨aH,_,rfl,rfl⟩
  have E:I (bt (kinds k))=k:=by simp[kinds]
  have m:List.take k (bt (kinds k))=bt (kinds k):=fL J;have L:(k+1)*8<=140737488355328:=J;have F:I (kinds k)=k:=by simp[kinds]
  simp only[go_sem,P3,v,y,h,x,D,j,z,H,m,L,F,iQ,jq];exact .inr ⟨aH,g+1,aH,by simp only[ba,if_true];rw[O]⟩
 have:k=10:=J;subst this;have j:¬((10+1:Nat):Int)<=10:=aa;rcases B with⟨N,_⟩|⟨_,g,h,H⟩
 .cases N
 have m:List.take 10 (bt (kinds 10))=bt (kinds 10):=fL (by simp[kinds]);have E:10<=I (List.range 10):=aH;simp only[go_sem,P3,agP,v,y,h,x,j,H,m,aat];refine JN pr lo (NA _) rfl λc R M T=>?_;simp only[go_sem];exact tN M
structure Rb (F:Nat) (ls:af) (cand:Int->fO):Prop where
 two:cand 2=v8 F ls (I ls)
 five:cand 5=sO (I ls)
 seven:cand 7=f_ (I ls) (I ls)
 one:∀k:Int,k=1\/k=4\/k=9\/k=10->cand k=xn (I ls) k
 three:∀k:Int,k=3\/k=6\/k=8->(∀m∈cand k,I0 k (I ls) m)/\R0 F ls k (cand k)/\(cand k).Pairwise Iq
 len:∀k:Nat,k<10->I (cand ((k+1:Nat):Int))<=200000000
 pev:∀k:Nat,k<10->aI S 86 [.one (.p (ez F ls)),aE ((k+1:Nat):Int)] (.one (cP im 7 (cY (cand ((k+1:Nat):Int)))))
def ahX(g:a_ F f)(A:0<I f):∃h,Rb F f h:=by
 have H:=g.len;obtain⟨u,⟨B,Q,Kb,D⟩,n⟩:=Xf g A (.inl rfl);obtain⟨M,⟨z,L,Z,R⟩,x⟩:=Xf g A (.inr (.inl rfl));obtain⟨O,⟨X,T,y,N⟩,Y⟩:=Xf g A (.inr (.inr rfl));obtain⟨h2,v⟩:=ayz g A (av8 g);have h7:=XH (I f) (I f);have E:=Lb H H;have h5:=Yd (I f);have m:∀k:Int,k=1\/k=4\/k=9\/k=10->aI S 86 [.one (.p (ez F f)),aE k] (.one (cP im 7 (cY (xn (I f) k)))):=λk j=>by rcases j with rfl|rfl|rfl|rfl<;>exact akd g A aa aa aa aa aa aa
 have hD:∀k:Int,I (xn (I f) k)<=200000000:=λk=>by rw[agW];omega
 refine⟨λk=>if k=2 then v8 F f (I f) else if k=5 then sO (I f) else if k=7 then f_ (I f) (I f) else if k=3 then u else if k=6 then M else if k=8 then O else xn (I f) k,rfl,rfl,rfl,λk j=>?_,λk j=>?_,λk j=>?_,λk j=>?_⟩
 .rcases j with rfl|rfl|rfl|rfl<;>rfl
 .grind
 .grind
 rcases k with _|_|_|_|_|_|_|_|_|_|k
 .exact m 1 aa
 .exact v
 .exact n
 .exact m 4 aa
 .exact avt g A
 .exact x
 .exact auY g A
 .exact Y
 .exact m 9 aa
 .exact m 10 aa
 omega
def Rb.kind(n:Rb F f h){k:Nat}(u:k<10):∀m∈h ((k+1:Nat):Int),m.k=((k+1:Nat):Int):=by
 have j:∀k:Int,∀m∈xn (I f) k,m.k=k:=λk m H=>by obtain⟨a,_,rfl⟩:=cD.1 H;rfl
 have y:∀k:Int,k=3\/k=6\/k=8->∀m∈h k,m.k=k:=λk u m H=>by obtain⟨a,_,v⟩:=(n.three k u).1 m H;exact v.1
 rcases k with _|_|_|_|_|_|_|_|_|_|k
 .show ∀m∈h 1,m.k=1;rw[n.one 1 aa];exact j 1
 .show ∀m∈h 2,m.k=2;rw[n.two];intro m H;obtain⟨a,_,H⟩:=sY.1 H;obtain⟨x,_,rfl⟩:=cD.1 H;rfl
 .grind
 .show ∀m∈h 4,m.k=4;rw[n.one 4 aa];exact j 4
 .show ∀m∈h 5,m.k=5;rw[n.five];intro m H;obtain⟨a,_,H⟩:=sY.1 H;obtain⟨x,_,rfl⟩:=cD.1 H;rfl
 .grind
 .show ∀m∈h 7,m.k=7;rw[n.seven];intro m H;obtain⟨a,_,H⟩:=sY.1 H;obtain⟨c,_,H⟩:=sY.1 H;unfold vI at H;split at H
  .cases H
  obtain⟨x,_,rfl⟩:=cD.1 H;rfl
 .grind
 .show ∀m∈h 9,m.k=9;rw[n.one 9 aa];exact j 9
 .show ∀m∈h 10,m.k=10;rw[n.one 10 aa];exact j 10
 omega
end
section
variable {F:Nat} {f:af}
def a_.pos(g:a_ F f):0<I f:=gA.2 g.ne
def ZH(h:okB F f m):eZ F f m.k m.a m.b m.c m.l m.o m.s/\ ∃M,mg F f m.k m.a.toNat m.b.toNat m.c.toNat m.l m.o m.s=some M:=by
 obtain⟨M,H⟩:=Ti.1 h;unfold qG at H;split at H
 .rename_i n;refine⟨n,?_⟩;cases j:mg F f m.k m.a.toNat m.b.toNat m.c.toNat m.l m.o m.s with
  |none=>rw[j]at H;exact absurd H.symm (abc aa)
  |some L=>exact⟨L,rfl⟩
 grind
def aAc(g:a_ F f)(y:m.k=3\/m.k=6\/m.k=8)(h:okB F f m){N:fO}(n:R0 F f m.k N):m∈N/\ ∃a b c:Nat,a<I f/\b<I f/\c<I f/\(m.k=8\/c=0)/\m=⟨m.k,a,b,c,false,false,0⟩:=by
 obtain⟨k,a,b,c,l,o,sg⟩:=m;obtain⟨u,P,H⟩:=ZH h;have hp:=g.pos;simp only at u H n y |-;rcases y with rfl|rfl|rfl
 .obtain⟨A,B,D,v,rfl,rfl,rfl,rfl,rfl,rfl⟩:=(IA (.inl rfl)).1 u;have H:qz F f A B=some P:=H;unfold qz at H;split at H
  case isFalse=>cases H
  rename_i j;simp only[cN]at j;exact⟨agA D j.2.2.2.2 (n.2 (.inl rfl) A J) aa,A,B,0,J,v,hp,.inr rfl,rfl⟩
 .obtain⟨A,B,D,v,rfl,rfl,rfl,rfl,rfl,rfl⟩:=(IA (.inr rfl)).1 u;have H:ob F f A B=some P:=H;unfold ob at H;split at H
  case isFalse=>cases H
  rename_i j;simp only[cN]at j;exact⟨agA D j.2.2.2.2.2 (n.2 (.inr (.inl rfl)) A J) aa,A,B,0,J,v,hp,.inr rfl,rfl⟩
 obtain⟨A,B,x,D,E,z,rfl,rfl,rfl,rfl,rfl,rfl⟩:=UJ.1 u;have H:uH F f A B x=some P:=H;unfold uH at H;split at H
 case isFalse=>cases H
 rename_i j;unfold Fq at j;simp only[cN]at j;exact⟨asB D E j.2.2.2.2.2 (n.2 (.inr (.inr rfl)) A J),A,B,x,J,J,z,.inl rfl,rfl⟩
def aoM{k b c:Nat}(h:(b,c)∈(gv F f (2*k)).places\/(b,c)∈(gv F f (2*k+1)).places):((b:Int),(c:Int))∈Dj F f k:=by
 unfold Dj;rw[asz,(Zo mS _).mem_iff];refine cD.2 ⟨(b,c),?_,rfl⟩;rcases h with h|h
 .exact sY.2 ⟨0,aH,h⟩
 exact sY.2 ⟨1,aH,h⟩
end
def F5(F:Nat):fO:=(List.range (F+1)).map λi=>⟨2,0,(i:Nat),0,false,false,0⟩
def ael(F:Nat):cY (F5 F)=uu (F+1):=by rw[cY,F5,gi];rfl
def acA(F:Nat):I (F5 F)=F+1:=by simp[F5]
def Qe(F:Nat)(k:Int):fO:=if k=2 then F5 F else []
def RS(F:Nat):Qe F 2=F5 F:=an rfl
def Zx{k:Int}(h:k≠2):Qe F k=[]:=ai h
structure JP (F:Nat) (X:af) (k:Int) (ms:fO):Prop where
 len:I ms<=200000000
 opn:aI S 19 [fc F X] (wi (ez F X) (.int .i64 0))
 cnd:aI S 86 [.one (.p (ez F X)),aE k] (.one (cP im 7 (cY ms)))
 dos:∀m∈ms,(∃e:Int,e≠0/\iP F X m=none/\aI S 20 [.one (.p (ez F X)),jM m.k m.a m.b m.c m.l m.o m.s] (oI e))\/ ∃M,iP F X m=some M/\aI S 20 [.one (.p (ez F X)),jM m.k m.a m.b m.c m.l m.o m.s] (mz F M)
 all:∀m,m.k=k->(iP F X m).isSome->m∈ms
 kd:∀m∈ms,m.k=k
section
variable {F:Nat} {X:af}
def YL(g:a_ F X)(m:dG):(∃e:Int,e≠0/\iP F X m=none/\qG F X m.k m.a m.b m.c m.l m.o m.s=oI e)\/ ∃M,iP F X m=some M/\qG F X m.k m.a m.b m.c m.l m.o m.s=mz F M:=by
 unfold iP qG;rw[ai g.ne];cases f:eZ F X m.k m.a m.b m.c m.l m.o m.s with
 |false=>exact .inl ⟨2,aa,rfl,rfl⟩
 |true=>
  rw[an rfl,an rfl];cases H:mg F X m.k m.a.toNat m.b.toNat m.c.toNat m.l m.o m.s with
  |none=>exact .inl ⟨4,aa,rfl,rfl⟩
  |some M=>
   unfold sH;dsimp only;by_cases h:(400:Int)<(I X:Int)+(gK m.k).1\/(100:Int)<((au U.aq X/2:Nat):Int)+(gK m.k).2
   .rw[an h,an h];exact .inl ⟨7,aa,rfl,rfl⟩
   rw[ai h,ai h];exact .inr ⟨_,rfl,rfl⟩
def VZ(g:a_ F X)(m:dG):okB F X m=(iP F X m).isSome:=by
 rcases YL g m with⟨e,n,f,H⟩|⟨M,f,H⟩
 .rw[f];cases h:okB F X m with
  |false=>rfl
  |true=>obtain⟨M,j⟩:=Ti.1 h;rw[H]at j;exact absurd j.symm (abc n)
 rw[f,Ti.2 ⟨M,H⟩];rfl
def auE(g:a_ F X)(a7:Rb F X h){k:Nat}(O:k<10)(m:dG)(Y:m.k=((k+1:Nat):Int))(L:(iP F X m).isSome):m∈h ((k+1:Nat):Int):=by
 have x:okB F X m:=by rw[VZ g];exact L
 have n:∀j:Int,j=3\/j=6\/j=8->m.k=j->m∈h j:=λj E e=>by subst e;exact(aAc g E x (a7.three _ E).2.1).1
 obtain⟨H,M,f⟩:=ZH x;obtain⟨j,a,b,c,l,o,sg⟩:=m;simp only at Y H f;subst Y;have one:∀ {q:Int},(q=1\/q=4\/q=9\/q=10)->eZ F X q a b c l o sg->(⟨q,a,b,c,l,o,sg⟩:dG)∈h q:=λ{q} D H=>by obtain⟨A,u,rfl,rfl,rfl,rfl,rfl,rfl⟩:=(vq D).1 H;rw[a7.one _ D];exact cD.2 ⟨A,fA.2 u,rfl⟩
 rcases k with _|_|_|_|_|_|_|_|_|_|k
 .exact one (.inl rfl) H
 .obtain⟨A,B,z,u,y,Q,rfl,rfl,rfl,rfl,rfl,rfl⟩:=Fh.1 H;have hp:=g.pos;have v:A<I X:=J;show _∈h 2;rw[a7.two];have f:og F X A B z=some M:=f;refine sY.2 ⟨A,fA.2 v,cD.2 ⟨((B:Int),(z:Int)),aoM ?_,rfl⟩⟩;unfold og at f;split at f
  .rename_i L;exact .inl L
  split at f
  .rename_i L;exact .inr L
  cases f
 .exact n 3 (.inl rfl) rfl
 .exact one (.inr (.inl rfl)) H
 .obtain⟨A,u,rfl,rfl,rfl,rfl,ae⟩:=UN.1 H;show _∈h 5;rw[a7.five];refine sY.2 ⟨A,fA.2 u,?_⟩;rcases ae with rfl|rfl<;>cases o
  .exact cD.2 ⟨1,aH,rfl⟩
  .exact cD.2 ⟨3,aH,rfl⟩
  .exact cD.2 ⟨0,aH,rfl⟩
  exact cD.2 ⟨2,aH,rfl⟩
 .exact n 6 (.inr (.inl rfl)) rfl
 .obtain⟨A,B,u,y,N,rfl,rfl,rfl,rfl⟩:=Ze.1 H;show _∈h 7;rw[a7.seven];refine sY.2 ⟨A,fA.2 u,sY.2 ⟨B,fA.2 y,?_⟩⟩;unfold vI;rw[ai (Ne.symm N)];cases l<;>cases o
  .exact cD.2 ⟨0,aH,rfl⟩
  .exact cD.2 ⟨1,aH,rfl⟩
  .exact cD.2 ⟨2,aH,rfl⟩
  exact cD.2 ⟨3,aH,rfl⟩
 .exact n 8 (.inr (.inr rfl)) rfl
 .exact one (.inr (.inr (.inl rfl))) H
 .exact one (.inr (.inr (.inr rfl))) H
 omega
def amH(g:a_ F X){k:Nat}(H:k<10):∃u,JP F X ((k+1:Nat):Int) u:=by
 obtain⟨h,a7⟩:=ahX g g.pos;refine⟨h ((k+1:Nat):Int),a7.len k H,X5 g,a7.pev k H,λm _=>?_,auE g a7 H,a7.kind H⟩;have f:=Y2 g m.k m.a m.b m.c m.l m.o m.s;rcases YL g m with⟨e,v,n,j⟩|⟨M,n,j⟩
 .rw[j]at f;exact .inl ⟨e,v,n,f⟩
 rw[j]at f;exact .inr ⟨M,n,f⟩
def Zw(h:(iP F [] m).isSome):eZ F [] m.k m.a m.b m.c m.l m.o m.s:=by
 unfold iP at h;rw[an rfl]at h;split at h
 .assumption
 cases h
def arF(x:F<=40){k:Nat}(D:k<10):∃u,JP F [] ((k+1:Nat):Int) u:=by
 have z:∀i:Nat,i<=F->eZ F [] 2 0 i 0 false false 0:=λi f=>Fh.2 ⟨0,i,0,.inr ⟨rfl,rfl⟩,f,bN _,rfl,rfl,rfl,rfl,rfl,rfl⟩;have Nn:∀i:Nat,i<=F->iP F [] ⟨2,0,i,0,false,false,0⟩=some (pD i):=λi f=>by show(if eZ F [] 2 0 (i:Int) 0 false false 0=true then some (pD (i:Int).toNat)else none)=_;rw[an (z i f)];rfl
 have n:∀m∈Qe F ((k+1:Nat):Int),((k+1:Nat):Int)=2/\ ∃i:Nat,i<=F/\m=⟨2,0,i,0,false,false,0⟩:=λm j=>by
  by_cases H:((k+1:Nat):Int)=2
  .rw[H,RS]at j;obtain⟨i,f,rfl⟩:=cD.1 j;exact⟨H,i,by have:=fA.1 f;omega,rfl⟩
  rw[Zx H]at j;cases j
 refine⟨Qe F ((k+1:Nat):Int),?_,PA x,?_,λm j=>?_,λm y h=>?_,λm j=>by obtain⟨e,i,_,rfl⟩:=n m j;exact e.symm⟩
 .by_cases H:((k+1:Nat):Int)=2
  .rw[H,RS,acA];omega
  rw[Zx H];exact bN _
 .by_cases H:((k+1:Nat):Int)=2
  .rw[H,RS,ael];exact aa0 x
  rw[Zx H];exact adr (by simpa using H)
 .obtain⟨_,i,f,rfl⟩:=n m j;exact .inr ⟨pD i,Nn i f,Uk f⟩
 have v:=Zw h;obtain⟨E,a,b,c,l,o,sg⟩:=m;simp only at y v;obtain⟨B,rfl,rfl,rfl,A,rfl,rfl,rfl,rfl⟩:=V8 v;rw[<-y,RS];exact cD.2 ⟨B,fA.2 J,rfl⟩
def ZA(h:dM (F:Int) X=0){k:Nat}(H:k<10):∃u,JP F X ((k+1:Nat):Int) u:=by
 by_cases A:X=[]
 .subst A;unfold dM at h;rw[ai aa]at h;by_cases hf:(F:Int)<0\/40<(F:Int)
  .rw[an hf]at h;cases h
  exact arF J H
 obtain⟨G,e,g⟩:=E4 h A;have:F=G:=J;subst this;exact amH g H
def I8(F:Nat)(X Y:af)(m:dG):Bool:=match iP F X m with
 |some Z=>decide (lM Z=lM Y)
 |none=>false
def ai5{Y Z:af}(h:iP F X m=some Z):I8 F X Y m=decide (lM Z=lM Y):=by unfold I8;rw[h]
def ajd{α:Type}{q:α->Bool}{a:α}:∀ {l:List α},l.find? q=some a->∃j:Nat,l[j]?=some a/\q a/\ ∀(i:Nat) (b:α),i<j->l[i]?=some b->q b=false
 |[],h=>by cases h
 |x::l,h=>by
  rw[List.find?_cons]at h;cases H:q x with
  |true=>rw[H]at h;cases h;exact⟨0,rfl,H,λi b u=>J⟩
  |false=>
   rw[H]at h;obtain⟨j,v,m,n⟩:=ajd h;refine⟨j+1,v,m,λi b u f=>?_⟩;rcases i with _|i
   .cases f;exact H
   exact n i b J f
end
abbrev aaP:Nat:=3
def abr(x:U):aI S 92 [SU x] (.one (cP aaP 1 (dR (ug x)))):=by
 have e:∀b:Bool,dR (ug x)=[[.int .i64 x.kind],[.int .i64 x.gate],[.int .i64 x.ao],[.int .i64 x.id],[.int .i64 _],[.int .i64 x.sign]]:=λ_=>rfl;rw[akx (by simp_all),e true];refine bR aoT ?_;cases h:x.over;all_goals
  simp only[go_sem,aiG,h];first|done|rfl
def afD{α:Type}{a b:List α}{k:Nat}{x:α}(h:a.take k=b.take k)(f:a[k]?=some x)(H:b[k]?=some x):a.take (k+1)=b.take (k+1):=by rw[jB,jB,h,f,H]
def aq9:∀ {k:Nat}{a b:bQ}{x y:Int},a.take k=b.take k->a[k]?=some x->b[k]?=some y->x≠y->qy a b=decide (x<y):=by
 intro k
 induction k with
 |zero=>
  intro a b x y _ f H A;cases a with
  |nil=>cases f
  |cons p a=>
   cases b with
   |nil=>cases H
   |cons q b=>grind [qy]
 |succ k j=>
  intro a b x y h f H A;cases a with
  |nil=>cases f
  |cons p a=>
   cases b with
   |nil=>cases H
   |cons q b=>
    simp only[RX,Mm]at h;obtain⟨rfl,h⟩:=h;unfold qy
    grind
def alU:∀ {k:Nat}{a b:af}{x y:U},a.take k=b.take k->a[k]?=some x->b[k]?=some y->yt x y=false->lL a b=BT x y:=by
 intro k
 induction k with
 |zero=>
  intro a b x y _ f H A;cases a with
  |nil=>cases f
  |cons p a=>
   cases b with
   |nil=>cases H
   |cons q b=>grind [lL]
 |succ k j=>
  intro a b x y h f H A;cases a with
  |nil=>cases f
  |cons p a=>
   cases b with
   |nil=>cases H
   |cons q b=>
    simp only[RX,Mm]at h
    grind [lL,G4]
def ayT(a b:bQ)(hl:I a<=1000000)(O:I a=I b):aI S 91 [.one (.p (.sl (dR a))),.one (.p (.sl (dR b)))] (eh (qy a b)):=by
 refine bR as0 ?_;simp only[go_sem,adE];refine df (λk A blk=>A 0=.one (.p (.sl (dR a)))/\A 1=.one (.p (.sl (dR b)))/\A 5=aE k/\a.take k=b.take k) 0 (I a) (bN _) ?_ ?_
 .simp only[go_sem];first|done|rfl
 rintro k A blk N ⟨j,F,B,H⟩
 by_cases u:k<I a
 .have D:((k:Int)<(I a:Int)):=J;have z:k<I b:=J;have L:=cE (n:=k) J;obtain⟨x,m⟩:=aM u;obtain⟨y,f⟩:=aM z;have E:=r4 m;have h:=r4 f;by_cases v:x=y
  .subst v;have ae:=afD H m f;simp only[go_sem,N4,j,F,B,u,D,E,h,L];first|done|exact⟨aS,ae⟩|exact⟨aS,u,ae⟩|trace_state
  have M:(x !=y):=by simpa using v
  rw[aq9 H m f v];simp only[go_sem,N4,j,F,B,D,E,h,M];first|done|exact aS|exact⟨aS,aS⟩|exact⟨aS,aS,rfl⟩|trace_state
 have:k=I a:=J;subst this;have e:a=b:=by rw[fL (ct _),fL J]at H;exact H
 subst e;rw[auV];simp only[go_sem,N4,ait,j,B,ff];first|done|rfl
def aAa(f g:Int)(A B:af)(hl:I A<=1000000)(dm:I A=I B):aI S 56 [fc f A,fc g B] (eh (lL A B)):=by
 have nU:S.lone 3584320320:=ah;have qt:S.lone 3584320704:=ah;refine bR ayN ?_;simp only[go_sem,aeu];refine df (λk j blk=>j 2=.one (.bh 3584000000 1 0)/\j 3=.one (.bh 3584000064 1 0)/\j 5=aE k/\blk 3584000000=(1,some (.var (lR f A)))/\blk 3584000064=(1,some (.var (lR g B)))/\A.take k=B.take k) 0 (I A) (bN _) ?_ ?_
 .simp only[go_sem];first|done|rfl
 rintro k j blk hk ⟨v,R,D,z,O,H⟩
 by_cases F:k<I A
 .have Q:((k:Int)<(I A:Int)):=J;have Z:k<I B:=J;have X:=cE (n:=k) J;obtain⟨x,M⟩:=aM F;obtain⟨y,L⟩:=aM Z;have T:=jh M;have h:=jh L;have E:=afR x y;cases m:yt x y with
  |true=>rw[m]at E;have Y:=(Sh x y).1 m;subst Y;have ae:=afD H M L;simp only[go_sem,Rn,v,R,D,z,O,F,Q,T,h,U.ps,X,E];first|done|exact⟨aS,ae⟩|exact⟨aS,F,ae⟩|trace_state
  |false=>rw[m]at E;have N:=abr x;have u:=abr y;have pl:=ayT (ug x) (ug y) (by unfold ug;simp) rfl;rw[alU H M L m,Mw];generalize qy (ug x) (ug y)=r at pl |-;generalize ug x=kx at*;generalize ug y=ky at*;simp only[go_sem,Rn,v,R,D,z,O,Q,T,h,U.ps,E,ak4,pX N (Z_ nU),pX u (Z_ qt),AQ _,azE,ss pl];first|done|exact aS|exact⟨aS,aS⟩|exact⟨aS,aS,rfl⟩|trace_state
 have:k=I A:=J;subst this;have e:A=B:=by rw[fL (ct _),fL J]at H;exact H
 subst e;rw[O3];simp only[go_sem,Rn,ade,v,D,z,ff];first|done|rfl
def agN:∀ {k:Nat}{l:bQ}{x:Int},l[k]?=some x->x∉l.take k->l.idxOf x=k:=by
 intro k
 induction k with
 |zero=>
  intro l x h _;cases l with
  |nil=>cases h
  |cons a l=>grind
 |succ k f=>
  intro l x h H;cases l with
  |nil=>cases h
  |cons a l=>grind
def CP(l:bQ)(x:Int):Int:=if l.contains x then(l.idxOf x:Int)else -1
def abS(l:bQ)(x:Int)(hl:I l<=1000000):aI S 89 [.one (.p (.sl (dR l))),aE x] (jv (CP l x)):=by
 generalize H:CP l x=r;unfold CP at H;refine bR ac9 ?_;simp only[go_sem,YZ];refine df (λk A blk=>A 0=.one (.p (.sl (dR l)))/\A 1=aE x/\A 5=aE k/\x∉l.take k) 0 (I l) (bN _) ?_ ?_
 .simp only[go_sem];first|done|simp|exact⟨rfl,aH⟩
 rintro k A blk N ⟨j,E,y,u⟩
 by_cases z:k<I l
 .have D:((k:Int)<(I l:Int)):=J;have F:=cE (n:=k) J;obtain⟨m,f⟩:=aM z;have B:=r4 f;by_cases v:m=x
  .subst v;rw[IT.2 (aX f),an rfl,agN f u]at H;subst H;simp only[go_sem,IN,j,E,y,D,B];first|done|rfl
  have L:(m==x)=false:=by simpa using v
  have Y:x∉l.take (k+1):=by
   rw[jB,f];intro h;rcases iR.1 h with h|h
   .exact u h
   simp at h;exact v h.symm
  simp only[go_sem,IN,j,E,y,z,D,B,F,L];first|done|exact Y|exact⟨z,Y⟩|trace_state
 have:k=I l:=J;subst this;rw[jz]at u;have M:l.contains x=false:=by grind
 rw[M]at H;subst H;simp only[go_sem,IN,aaG,j,y,ff];first|done|rfl
def CE(s:bQ)(x:U):bQ:=if x.kind==2 then(if s.contains x.id then s else s++[x.id])else s
def AW(s:bQ)(x:U):U:=if x.kind==2 then(if s.contains x.id then{x with id:=((s.idxOf x.id+1:Nat):Int)}else{x with id:=((I s+1:Nat):Int)})else x
def Xx(s:bQ)(x:U)(r:af):kS s (x::r)=AW s x::kS (CE s x) r:=by grind [AW,CE,kS]
def ak8:∀(a b:af) (s:bQ),kS s (a++b)=kS s a++kS (a.foldl CE s) b:=by
 intro a
 induction a with
 |nil=>intro b s;rfl
 |cons x r f=>intro b s;rw[ko,Xx,Xx,f];rfl
def vf(f:af)(k:Nat):af:=kS [] (f.take k)++f.drop k
def xK(f:af)(k:Nat):bQ:=(f.take k).foldl CE []
section
variable {f:af} {k:Nat} {x:U}
def aoY(f:af)(k:Nat):I (vf f k)=I f:=by grind [vf,Wk]
def PE(h:f[k]?=some x):I (kS [] (f.take k))=k:=by have:=(bd.1 h).1;rw[Wk,jw];omega
def acR(H:f[k]?=some x):f.drop k=x::f.drop (k+1):=by obtain⟨c1,h⟩:=bd.1 H;rw[<-uA c1,h]
def ajQ(h:f[k]?=some x):(vf f k)[k]?=some x:=by unfold vf;rw[o_ (by rw[PE h];exact ct _),PE h,xf,acR h];rfl
def ady(h:f[k]?=some x):xK f (k+1)=CE (xK f k) x:=by unfold xK;rw[jB,h,zx];rfl
def arc(h:f[k]?=some x):(vf f k).set k (AW (xK f k) x)=vf f (k+1):=by
 have e:kS [] (f.take (k+1))=kS [] (f.take k)++[AW (xK f k) x]:=by rw[jB,h];show kS [] (f.take k++[x])=_;rw[ak8,Xx];rfl
 unfold vf;rw[e,Mi _ _ (by rw[PE h];exact ct _),PE h,xf,acR h,kr];rfl
def apo(f:af):∀k,I (xK f k)<=k:=by
 intro k
 induction k with
 |zero=>exact ct _
 |succ k j=>
  by_cases h:k<I f
  .obtain⟨x,H⟩:=aM h;rw[ady H]
   grind [CE]
  grind [xK,fL]
end
def arz{blk:aG}{s:Nat}{y:PV}{l:Bool}:fR blk [] s ((RV.agg [.p x,.p y]).ib l)=some (.agg [.p x,.p y],[]):=by cases l<;>rfl
def agM(ab:Int)(f:af)(hl:I f<=1000000):aI S 52 [fc ab f] (.agg [.p (.int .i64 ab),cP p_ 6 (dQ (nr f))]):=by
 have pc:=ahu ab f hl;by_cases aN:f=[]
 .subst aN;have pc:aI S 88 [.agg [.p (.int .i64 ab),.p (.sl [])]] (.agg [.p (.int .i64 ab),.p .nils]):=pc;refine bR ach ?_;simp only[go_sem,Xl,T9,dJ pc arz];refine mP ?_;have z0:¬((0:Int)<((0:Nat):Int)):=aa;simp only[go_sem,Ja,Vd,z0];first|done|rfl
 refine bR ach ?_;simp only[go_sem,Xl,T9];refine No pc ah rfl (Nd _) λcc lO gc iw=>?_;have q0:=iw 3328000000 aa;have q1:=iw 3328000064 aa;simp only[go_sem]at q0 q1;rcases gc with⟨h,_⟩|⟨_,gg,e2,hC⟩
 .exact absurd (List.map_eq_nil_iff.1 h) aN
 cases e2;have hC:=hC;rw[Jf];simp only[go_sem];obtain⟨g1,B7⟩:∃g1,(lO 3328064128).1+1=g1:=⟨_,rfl⟩;rw[B7];refine df (λk v blk=>v 1=.one (.bh 3328000000 1 0)/\v 2=.one (.bh 3328000064 1 0)/\v 3=.one (.bh 3328064128 g1 0)/\v 5=aE k/\blk 3328000000=(1,some (.var (lR ab f)))/\blk 3328000064=(1,some (.var [.p (.int .i64 0),.p .nils]))/\blk 3328064128=(g1,some (.var [.p (.int .i64 ab),.hsl 3328064065 gg 6 0 (I f)]))/\blk 3328064065=(gg,some (.arr p_ 6 (dQ (vf f k))))/\ ∃c,v 4=.one c/\a8 3328512512 aaP 1 (dR (xK f k)) (.one c) blk) 0 (I f) (bN _) ?_ ?_
 .simp only[go_sem,q0,q1,hC];have e0:vf f 0=f:=rfl;rw[e0];repeat' apply And.intro
  all_goals first|rfl|exact⟨_,rfl,a8.nil⟩
 rintro k v blk hk ⟨h1,O,y,L,b0,T,N,B,c,h4,u⟩
 by_cases A:k<I f
 .have aL:((k:Int)<(I f:Int)):=J;have w1:=cE (n:=k) J;obtain⟨x,z⟩:=aM A;have R:=jh (ajQ z);have En:=jh z;have ud:k<I (vf f k):=by rw[aoY];exact A
  have Ef:=ady z;have F:=arc z;have iN:=apo f k;have ac:=ajQ z;generalize vf f k=W at*;generalize xK f k=s at*;cases m:(x.kind==2)with
  |false=>
   have X:(x.kind !=2):=by rw[bne,m];rfl
   have M:xK f (k+1)=s:=by rw[Ef];unfold CE;rw[m];rfl
   have eW:vf f (k+1)=W:=by
    rw[<-F];have e:AW s x=x:=by unfold AW;rw[m];rfl
    rw[e];apply nj;intro j;rw[pA];by_cases e:k=j
    .subst e;rw[an rfl,an ud,ac]
    rw[ai e]
   simp only[go_sem,Ja,h1,O,y,h4,L,b0,T,N,B,A,aL,R,U.ps,X,w1];rw[M,eW];first|exact⟨rfl,_,rfl,u⟩|exact⟨A,rfl,_,rfl,u⟩|trace_state
  |true=>
   have X:(x.kind !=2)=false:=by rw[bne,m];rfl
   obtain⟨rd,dO,tZ⟩:=u.LR;have D:=abS s x.id J;cases H:s.contains x.id with
   |true=>
    have ea:CP s x.id=(s.idxOf x.id:Int):=by unfold CP;rw[H,an rfl]
    rw[ea]at D;have pJ:s.idxOf x.id<=I s:=List.idxOf_le_length;have ak:¬((s.idxOf x.id:Int)<0):=J;have w2:=cE (n:=s.idxOf x.id) J;have M:xK f (k+1)=s:=by rw[Ef];unfold CE;rw[m,H];rfl
    have ey:AW s x={x with id:=((s.idxOf x.id+1:Nat):Int)}:=by unfold AW;rw[m,H];rfl
    rw[ey]at F;generalize s.idxOf x.id=ix at*;simp only[go_sem,Ja,h1,O,y,h4,L,b0,T,N,B,A,aL,R,En,U.ps,X,w1,w2,dO,OV,hI D,vn D,ak];rw[M,<-F];refine⟨?_,?_⟩
    .rcases tZ with rfl|rfl<;>kernel_rfl
    rw[acw _ _ {x with id:=((ix+1:Nat):Int)} (by simp[U.ps])];first|exact⟨rfl,_,rfl,u.of_eq (by simp only[ba,Nat.reduceEqDiff,if_false])⟩|exact⟨A,rfl,_,rfl,u.of_eq (by simp only[ba,Nat.reduceEqDiff,if_false])⟩|trace_state
   |false=>
    have ea:CP s x.id= -1:=by unfold CP;rw[H];rfl
    rw[ea]at D;have Z:(-1:Int)<0:=aa;have HR:x.id∉s:=λh=>by have:=IT.2 h;rw[H]at this;cases this
    have M:xK f (k+1)=s++[x.id]:=by rw[Ef];unfold CE;rw[m,H];rfl
    have ey:AW s x={x with id:=((I s+1:Nat):Int)}:=by unfold AW;rw[m,H];rfl
    have E:=abS (s++[x.id]) x.id (by simp;omega);have ad:CP (s++[x.id]) x.id=(I s:Int):=by unfold CP;rw[IT.2 aH,an rfl,agN (k:=I s) aH (by rw[Hf];exact HR)]
    rw[ad]at E;rw[ey]at F;simp only[go_sem,Ja,y,h4,L,N,B,A,aL,R,U.ps,X,dO,OV,hI D,Z];refine ri (B:=[[.int .i64 x.id]]) (u.of_eq (by simp only[ba,Nat.reduceEqDiff,if_false])) (by simp only[gP,ba,if_true];rfl) (.inl rfl) (by simp only[vC,fG,gk];omega) λc2 aZ Y Q=>?_;rw[show dR s++[[.int .i64 x.id]]=dR (s++[x.id]) by simp[dR]]at Y;have d0:=Q 3328000000 aa aa;have d1:=Q 3328000064 aa aa;have d2:=Q 3328064128 aa aa;have d3:=Q 3328064065 aa aa;simp only[go_sem,b0,T,N,B]at d0 d1 d2 d3;obtain⟨ap,ag,am⟩:=Y.LR;simp only[go_sem,h1,O,y,L,d0,d1,d2,d3,A,R,En,U.ps,w1,cE (n:=I s) J,ag,OV,vn E];rw[M,<-F];refine⟨?_,?_⟩
    .rcases am with rfl|rfl<;>kernel_rfl
    rw[acw _ _ {x with id:=((I s+1:Nat):Int)} (by simp[U.ps])];first|exact⟨rfl,_,rfl,Y.of_eq (by simp only[ba,Nat.reduceEqDiff,if_false])⟩|exact⟨A,rfl,_,rfl,Y.of_eq (by simp only[ba,Nat.reduceEqDiff,if_false])⟩|trace_state
 have Kw:k=I f:=J;subst Kw;have eW:vf f (I f)=nr f:=by unfold vf nr;rw[jz,KT,i_]
 rw[eW]at B;have Ck:=Bk f;simp only[go_sem,Ja,Vd,O,y,L,T,N,ff];refine Ft (.inr ⟨λe=>aN (Ho.1 (by rw[<-Ck,<-Jf,e];rfl)),gg,by rw[Jf,Ck],?_⟩);simp only[ba,Nat.reduceEqDiff,if_false];exact B
def aka{α:Type}{l:List α}{p q:α->Bool}(h:∀x∈l,p x=q x):l.find? p=l.find? q:=by
 induction l with
 |nil=>rfl
 |cons a l f=>grind
def am6(F:Int)(f:af)(i:Nat)(H:i<I f)(hl:I f<=1000000):aI S 55 [fc F f,aE i] (.agg [.p (.int .i64 F),cP p_ 6 (dQ (fh f i))]):=by
 have n:i<=I f:=J;have j:=C3 f;have T:(List.drop i (dQ f)).take (I f-i)=dQ (f.drop i):=by rw[fL (by rw[pS,Jf];exact ct _)];exact uy.symm
 refine bR alY ?_;simp only[go_sem,acd,Jf,n,j,T];refine uC (id:=3520064384) a8.nil rfl (.inr (C3 _)) (by simp;omega) λc1 A r1 y g1 D z=>?_;have Q:=D 3520000000 aa aa;have v:=D 3520000064 aa aa;rw[fz]at g1;simp only[go_sem,Q,Jf,n,j,sh.symm];refine uC g1 rfl (.inr (C3 _)) (by simp;omega) λx E R L m B u=>?_;have h:=B 3520000064 aa aa;simp only[go_sem,v]at h;rw[show dQ (f.drop i)++dQ (f.take i)=dQ (fh f i) by unfold fh;rw[abh]]at m;simp only[go_sem,h];refine⟨?_,Ft (m.of_eq (by simp[ba,Nat.reduceEqDiff]))⟩;rcases z with⟨rfl,rfl⟩|⟨rfl,rfl⟩|⟨rfl,rfl⟩<;>rcases u with⟨rfl,rfl⟩|⟨rfl,rfl⟩|⟨rfl,rfl⟩<;>kernel_rfl
def yL(f:af):fT:=(List.range (I f)).map λj=> !dn f (I f-1-j)
def ahQ(f:af):I (yL f)=I f:=by simp[yL]
def Z8{k:Nat}(h:k<I f):(yL f)[k]?=some (!dn f (I f-1-k)):=by
 unfold yL
 grind
def agi{k:Nat}(h:k<I f):f.reverse[k]?=f[I f-1-k]? :=Gb h
def azI(f:af):Fp f.reverse (yL f)=s9 f:=by
 have e:NG f.reverse (yL f)=(List.range (I f)).find? (NM f):=by
  unfold NG;rw[qB];refine aka λk h=>?_;have h:=fA.1 h;have H:=YX (by rw[qB];exact h);unfold Fi NM;rw[H,Z8 h];have j:(mF f).getD (I f-1-k) false=dw f (I f-1-k):=by
   unfold mF
   grind
  rw[j];unfold dw;rw[agi h]at H;rw[H];simp only;cases m:((BG f.reverse k).kind==1)with
  |false=>rfl
  |true=>have:(BG f.reverse k).aw:=m;rw[this];rfl
 unfold Fp s9;rw[e];cases(List.range (I f)).find? (NM f)<;>rfl
def au3(O:Int)(f:af)(hl:I f<=1000000):aI S 53 [fc O f] (.agg [.p (.int .i64 O),cP p_ 6 (dQ (s9 f))]):=by
 have lo:S.lone 3392512128=false:=ah;have ps:=atJ O f.reverse (yL f) (by rw[qB];exact hl) (by rw[ahQ,qB]);rw[azI]at ps;have w0:IntKind.i64.wrap ((I f:Int)-1)=(I f:Int)-1-((0:Nat):Int):=by rw[oL J J];omega
 refine bR azW ?_;simp only[go_sem,i53,w0];refine df (λk A blk=>A 1=.one (.bh 3392000000 1 0)/\A 2=.one (.bh 3392000064 1 0)/\A 3=.one (.bh 3392064192 1 0)/\A 5=.one (.p (.int .i64 ((I f:Int)-1-(k:Int))))/\blk 3392000000=(1,some (.var (lR O f)))/\blk 3392000064=(1,some (.var [.p (.int .i64 0),.p .nils]))/\ ∃c d,blk 3392064192=(1,some (.var [.p (.int .i64 O),c]))/\A 4=.one d/\a8 3392384512 p_ 6 (dQ (f.reverse.take k)) (.one c) blk/\a8 3392448384 4 1 (hJ ((yL f).take k)) (.one d) blk) 0 (I f) (bN _) ?_ ?_
 .simp only[go_sem];repeat' apply And.intro
  all_goals first|rfl|exact⟨_,_,rfl,rfl,a8.nil,a8.nil⟩
 rintro k A blk hk ⟨v,T,H,h,b0,R,c,d,L,h4,F,gd⟩
 by_cases y:k<I f
 .have e5:(I f:Int)-1-(k:Int)=((I f-1-k:Nat):Int):=J;rw[e5]at h;have N:(0:Int)<=((I f-1-k:Nat):Int):=J;have w1:IntKind.i64.wrap (((I f-1-k:Nat):Int)-1)=(I f:Int)-1-((k+1:Nat):Int):=by rw[oL J J];omega
  have hj:I f-1-k<I f:=J;obtain⟨x,hx⟩:=aM hj;have iB:=jh hx;have pd:=Kc O f (I f-1-k) hl J;have j5:f.reverse.take (k+1)=f.reverse.take k++[x]:=by rw[jB,agi y,hx];rfl
  have DZ:(yL f).take (k+1)=(yL f).take k++[!dn f (I f-1-k)]:=by rw[jB,Z8 y];rfl
  generalize dn f (I f-1-k)=X at*;generalize (I f)-1-k=j at*;simp only[go_sem,XL,v,H,h,b0,L,N,iB,U.ps];refine uC (F.of_eq (by simp only[ba,Nat.reduceEqDiff,if_false])) (B:=[x.ps]) (by simp only[gP,ba,if_true];rfl) (.inl rfl) (by simp;omega) λc1 cK r1 TK g1 D zS=>?_;rw[show dQ (f.reverse.take k)++[x.ps]=dQ (f.reverse.take (k+1)) by rw[j5];simp]at g1;have z:=D 3392000000 aa aa;have d1:=D 3392000064 aa aa;have n:=D 3392064192 aa aa;have Q:=D 3392448384 aa aa;simp only[go_sem,b0,R,L]at z d1 n Q;have m:=gd.of_eq Q;simp only[go_sem,v,H,h4,h,z,n];refine⟨?_,?_⟩
  .rcases zS with⟨rfl,rfl⟩|⟨rfl,rfl⟩|⟨rfl,rfl⟩<;>kernel_rfl
  simp only[go_sem,Jo,eU pd];refine ri (B:=[[.bool (!X)]]) (m.of_eq (by simp only[ba,Nat.reduceEqDiff,if_false])) (by simp only[gP,ba,if_true];rfl) (.inl rfl) (by simp;omega) λu aZ Z B=>?_;rw[show hJ ((yL f).take k)++[[.bool (!X)]]=hJ ((yL f).take (k+1)) by rw[DZ];simp]at Z;have Y:=B 3392000000 aa aa;have f1:=B 3392000064 aa aa;have f2:=B 3392064192 aa aa;have f3:=B 3392384512 aa aa;simp only[go_sem,z,d1,n]at Y f1 f2 f3;simp only[go_sem,v,T,H,h,Y,f1,f2,w1];exact⟨y,c1,u,rfl,rfl,g1.of_eq f3,Z⟩
 have Kw:k=I f:=J;subst Kw;have N:¬(0:Int)<=(I f:Int)-1-(I f:Int):=J;rw[fL (by rw[qB];exact ct _)]at F;rw[fL (by rw[ahQ];exact ct _)]at gd;obtain⟨rc,E,_⟩:=F.LR;obtain⟨rd,M,_⟩:=gd.LR;simp only[go_sem,XL,abP,H,h4,h,L,N,E,M,apn];refine No ps lo rfl (Nd _) λcc lQ g3 lT=>?_;have m1:=lT 3392000064 aa;simp only[go_sem,R]at m1;simp only[go_sem,T,m1];exact Ft (g3.of_eq (by simp only[ba,Nat.reduceEqDiff,if_false]))
def MB(l:af)(z:af)(i:Nat):af:=if A7 l i&&lL (nr (fh l i)) z then nr (fh l i)else z
def o0(z l:af)(n:Nat):af:=(List.range n).foldl (MB l) z
theorem Uf(z l:af)(n:Nat):o0 z l (n+1)=MB l (o0 z l n) n:=by unfold o0;rw[mD,zx];rfl
def aaR{l:af}(h:I z=I l):∀n,I (o0 z l n)=I l:=by
 intro n
 induction n with
 |zero=>exact h
 |succ n f=>grind [Uf,MB,Bk,t_]
def Bn(f:af):af:=o0 (o0 (nr f) f (I f)) (s9 f) (I f)
def RN{blk:aG}{s T z:Nat}{E:dh}(lo:S.lone s):fR blk [] s ((RV.agg [.p x,cP T z E]).ib (S.lone s))=some (.agg [.p x,.p (ti E)],[]):=by
 rw[lo];unfold cP ti;by_cases h:E=[]
 .rw[an h,an h];rfl
 rw[ai h,ai h];rfl
def anl(l:af)(i:Nat):A7 l i=(((BG l i).kind==1)&&dn l i):=by unfold A7 dn;congr 1
section
variable {F:Nat} {f:af}
def af8{X:af}(hX:I X<=400)(hz:I z=I X){g:Nat}{f:bj}{blk:aG}{Q:gX}(D:f 3=.one (.bh 1792064128 1 0))(f6:f 6=.one (.bh 1792384256 g 0))(f7:f 7=aE 0)(b3:blk 1792064128=(1,some (.var [.p (.int .i64 F),.p (ti (dQ z))])))(Z:blk 1792384256=(g,some (.var [.p (.int .i64 F),.p (od X)])))
  (hQ:∀A h,A 2=f 2->A 3=f 3->A 4=f 4->A 5=f 5->h 1792064128=(1,some (.var [.p (.int .i64 F),.p (ti (dQ (o0 z X (I X))))]))->h 1792000064=blk 1792000064->h 1792128192=blk 1792128192->Q .normal A h):W S .all (.loop I3) (se 2 Q) f blk:=by
 have nU:S.lone 1792704128:=ah;have qt:S.lone 1792704192:=ah;refine df (λi A h=>A 2=f 2/\A 3=f 3/\A 4=f 4/\A 5=f 5/\A 6=.one (.bh 1792384256 g 0)/\A 7=aE i/\h 1792064128=(1,some (.var [.p (.int .i64 F),.p (ti (dQ (o0 z X i)))]))/\h 1792384256=(g,some (.var [.p (.int .i64 F),.p (od X)]))/\h 1792000064=blk 1792000064/\h 1792128192=blk 1792128192) 0 (I X) (bN _) ⟨rfl,rfl,rfl,rfl,f6,f7,b3,Z,rfl,rfl⟩ ?_;rintro i A h hi ⟨g2,g3,g4,g5,v,x,c3,c6,N,Is⟩
 have m:=g3.trans D;by_cases u:i<I X
 .have L:((i:Int)<(I X:Int)):=J;have E:=cE (n:=i) J;have hx:=YX u;have R:=jh hx;have ae:=Uf z X i;have iN:=aaR hz i;have eD:=anl X i;unfold MB at ae;rw[eD]at ae;cases H:((BG X i).kind==1)with
  |false=>
   rw[H]at ae;have ae:=ae;simp only[go_sem,I3,m,v,x,c3,c6,u,L,R,U.ps,H,E];rw[ae];repeat' apply And.intro
   all_goals first|assumption|rfl|exact D.symm
  |true=>
   have B:=Kc (F:Int) X i J J;rw[H]at ae;cases T:dn X i with
   |false=>
    rw[T]at B ae;have ae:=ae;simp only[go_sem,I3,m,v,x,c3,c6,u,L,R,U.ps,H,Jo,eU B,E];rw[ae];repeat' apply And.intro
    all_goals first|assumption|rfl|exact D.symm
   |true=>
    rw[T]at B ae;have O:=am6 (F:Int) X i u J;have M:=agM (F:Int) (fh X i) (by rw[t_];omega);have j:=aAa (F:Int) (F:Int) (nr (fh X i)) (o0 z X i) (by rw[Bk,t_];omega) (by rw[Bk,t_,iN]);have n1:=AQ (dQ (fh X i));have n2:=AQ (dQ (nr (fh X i)));have n3:=AQ (dQ (o0 z X i));generalize o0 z X i=z0 at*;generalize nr (fh X i)=y at*;cases Y:lL y z0
    case' false=>rw[Y]at j ae;have ae:=ae
    case' true=>rw[Y]at j ae;have ae:=ae
    all_goals
     simp only[go_sem,I3,m,v,x,c3,c6,u,L,R,U.ps,H,Jo,eU B,axm,dJ O (RN nU),n1,acE,dJ M (RN qt),n2,n3,apZ,eU j,E];rw[ae];repeat' apply And.intro
     all_goals first|assumption|rfl|exact D.symm
 have ia:i=I X:=J;subst ia;simp only[go_sem,I3,v,x,c6,ff];refine hQ _ _ ?_ ?_ ?_ ?_ c3 N Is;all_goals(simp only[go_sem];assumption)
def azP(hl:I f<=400):aI S 28 [fc F f] (.agg [.p (.int .i64 F),.p (ti (dQ (Bn f)))]):=by
 have Y:S.lone 1792064064:=ah;have Q:S.lone 1792128128:=ah;have v:=agM (F:Int) f J;have m:=au3 (F:Int) f J;have M:=SJ f;have O:=AQ (dQ (s9 f));refine bR ats ?_;simp only[go_sem,afU,acE,dJ v (RN Y),am4,pX m (RN Q),O];refine⟨aS,?_⟩;have Z:IntKind.i64.wrap 1=1:=aa;have T:IntKind.i64.wrap 2=2:=aa;have L:(1:Int)<2:=aa;have n:¬(2:Int)<2:=aa;refine mP ?_;simp only[go_sem,ahF];refine af8 (F:=F) (g:=1) hl (Bk f) ?_ ?_ ?_ ?_ ?_ λjj N H u x E c3 h Is=>?_
 any_goals first|rfl|(simp only[go_sem];done)
 simp only[go_sem]at H u x E h Is;simp only[go_sem,afe,E,Z];refine mP ?_;simp only[go_sem,x,E,Is,L];refine af8 (F:=F) (X:=s9 f) (z:=o0 (nr f) f (I f)) (g:=(N 1792384256).1+1) J (by rw[aaR (Bk f),M]) ?_ ?_ ?_ ?_ ?_ λdr aZ y A R D B j ab=>?_
 any_goals first|rfl|(simp only[go_sem,u,c3];done)
 simp only[go_sem,H,u,x,h]at y A R D j;rw[M]at B;simp only[go_sem,D,T];refine mP ?_;simp only[go_sem,abY,y,A,D,B,j,n];first|done|rfl|trace_state
def afO{l:af}{n m:Nat}(j:I z=m)(hl:I l=m):∀n,I (o0 z l n)=m/\(o0 z l n=z\/ ∃i,i<n/\A7 l i/\o0 z l n=nr (fh l i))/\lL z (o0 z l n)=false/\ ∀i,i<n->A7 l i->lL (nr (fh l i)) (o0 z l n)=false:=by
 intro n
 induction n with
 |zero=>exact⟨j,.inl rfl,O3 _,λi h=>absurd h (nJ _)⟩
 |succ n f=>
  obtain _:=f;rw[Uf];unfold MB;by_cases H:(A7 l n&&lL (nr (fh l n)) (o0 z l n))
  .rw[an H];have tr:∀y,lL y (o0 z l n)=false->lL y (nr (fh l n))=false:=λy u=>by
    grind [SR]
   grind [Bk,t_,O3]
  grind
def atQ(g:a_ F f):Bn f=lM f:=by
 obtain⟨Q,hf,R⟩:=g.nor;obtain⟨D,E,T,M⟩:=afO (n:=0) (Bk f) rfl (I f);obtain⟨L,B,N,z⟩:=afO (n:=0) D (SJ f) (I f);have h:∀y,zC f y->lL y (Bn f)=false:=by
  intro y u;have u:=(KS g.even).2 u;unfold BR at u;rcases iR.1 u with m|m
  .obtain⟨i,H,e⟩:=EH.1 m;split at e
   case isFalse=>cases e
   rename_i j;cases e;cases O:lL (nr (fh f i)) (Bn f)with
   |false=>rfl
   |true=>
    exfalso;have X:=M i (fA.1 H) j
    grind [Bn,SR,XM]
  obtain⟨i,H,e⟩:=EH.1 m;split at e
  case isFalse=>cases e
  rename_i j;cases e;exact z i (fA.1 H) j
 have x:nr f∈BR f:=by have hp:=gA.2 g.ne;refine Jv _ (EH.2 ⟨0,fA.2 hp,?_⟩);rw[(Vk hp).2 g.afq,an rfl];rw[show fh f 0=f by unfold fh;simp]
 have v:o0 (nr f) f (I f)∈BR f:=by
  rcases E with m|⟨i,H,j,m⟩
  .rw[m];exact x
  rw[m];refine Jv _ (EH.2 ⟨i,fA.2 H,?_⟩);rw[j,an rfl]
 have A:Bn f∈BR f:=by
  have B:Bn f=o0 (nr f) f (I f)\/ ∃i,i<I f/\A7 (s9 f) i/\Bn f=nr (fh (s9 f) i):=B;rcases B with m|⟨i,H,j,m⟩
  .rw[m];exact v
  rw[m];refine vx _ (EH.2 ⟨i,fA.2 H,?_⟩);rw[j,an rfl]
 exact XM (L.trans (TJ ((KS g.even).2 hf)).symm) (R _ ((KS g.even).1 A)) (h _ hf)
end
def amy(f:Int)(A B:af)(hA:I A<=1000000)(hB:I B<=1000000):aI S 27 [fc f A,fc f B] (eh (decide (A=B))):=by
 by_cases hl:I A=I B
 .have F:((I A:Int)!=(I B:Int))=false:=by rw[hl];simp
  refine bR aak ?_;simp only[go_sem,VC,F];refine df (λk m blk=>m 2=.one (.bh 1728000000 1 0)/\m 3=.one (.bh 1728000064 1 0)/\m 5=aE k/\blk 1728000000=(1,some (.var (lR f A)))/\blk 1728000064=(1,some (.var (lR f B)))/\A.take k=B.take k) 0 (I A) (bN _) ?_ ?_
  .simp only[go_sem];first|done|rfl
  rintro k m blk hk ⟨u,Q,M,L,O,v⟩
  by_cases R:k<I A
  .have T:((k:Int)<(I A:Int)):=J;have Wu:k<I B:=J;have Y:=cE (n:=k) J;obtain⟨x,D⟩:=aM R;obtain⟨y,j⟩:=aM Wu;have X:=jh D;have H:=jh j;have E:=afR x y;cases h:yt x y with
   |true=>
    rw[h]at E;have Z:=(asS x y).1 h;have N:A.take (k+1)=B.take (k+1):=by rw[jB,jB,v,D,j,Z]
    simp only[go_sem,Sj,u,Q,M,L,O,R,T,X,H,U.ps,Y,E];first|done|exact aS|exact⟨aS,rfl⟩|exact⟨aS,N⟩|exact⟨aS,rfl,N⟩|exact⟨N,aS⟩|trace_state
   |false=>
    rw[h]at E;have z:decide (A=B)=false:=zc λe=>by subst e;rw[D]at j;cases j;rw[G4]at h;cases h
    rw[z];simp only[go_sem,Sj,u,Q,M,L,O,T,X,H,U.ps,E];first|done|exact aS|exact⟨aS,rfl⟩|trace_state
  have:k=I A:=J;subst this;have h:decide (A=B)=true:=xq (by rw[fL (ct _),fL J]at v;exact v);rw[h];simp only[go_sem,Sj,aa4,u,M,L,ff];first|done|rfl
 have F:((I A:Int)!=(I B:Int)):=by simp;omega
 have z:decide (A=B)=false:=zc λe=>hl (by rw[e]);rw[z];refine bR aak ?_;simp only[go_sem,VC,F];first|done|rfl
def Mh(A B:aU):ep (A++B)=ep B++ep A:=by unfold ep;rw[List.reverse_append,fE]
section
variable {F:Nat} {L M:af} {P Q:aU} {r:Bool} {s t:Nat->Nat}
def cM.fg(i:cM F L M r s t)(g:Nat):cX M g=cX L g:=by unfold cX;congr 1;exact kD λq _=>i.cgs q
def cM.atI(i:cM F L M r s t){d b c:Nat}{A:Bool}(H:d<nD L)(h:dD L d=if A=true then eS L b c else eR L b c):dD M (kN (I L) r s d)=if A=true then eS M b c else eR M b c:=by
 have j:=abb i.g;have m:=cJ (cX L b+c+I (ay L)-1) j;have f:∀t,t<2->dD L d=dD L (2*I L+2*((cX L b+c+I (ay L)-1)%I (ay L))+t)->dD M (kN (I L) r s d)=dD M (2*I M+2*((cX M b+c+I (ay M)-1)%I (ay M))+t):=λt n e=>by have:=i.ahd H (by unfold nD;omega) e;rw[this,Dd (d:=2*I L+2*((cX L b+c+I (ay L)-1)%I (ay L))+t) J,i.len,i.fg,i.axl]
 cases A
 .exact f 1 J h
 exact f 0 J h
def cM.k2(i:cM F L M r s t){a b c:Nat}(m:a<I L)(B:b<=F)(hc:c<=aJ L b)(h:og F L a b c=some P)(vX:dM (F:Int) (cL P)=0):∃a' Q,a'<I M/\c<=aJ M b/\og F M a' b c=some Q/\jo (cL Q) (cL P):=by
 have f_:=VR i.g m B hc h;obtain⟨H,mY,_,_,_,rM⟩:=i.SZ;obtain⟨f,ia⟩:∃f:Bool,(b,c)∈(gv F L (if f=true then 2*a+1 else 2*a)).places:=by
  unfold og at h;split at h
  .exact⟨false,by assumption⟩
  split at h
  .exact⟨true,by assumption⟩
  cases h
 have A6:(if f=true then 2*a+1 else 2*a)<2*I L:=by split<;>omega
 have Z:=I4 i.g A6 ia;generalize dn L ((if f=true then 2*a+1 else 2*a)/2+1)=A at Z;have D:=Qw i.g m B hc Z;rw[h]at D;have D:=ld D;have lh:=i.atI (by unfold nD;omega) Z;rw[i.dmE m f]at lh;have jk:c_ (I L) r s a<I M:=by rw[i.len];exact i.AP m
 have Y:c<=aJ M b:=by rw[i.cgs];exact hc
 have hQ:=Qw i.g' jk B Y lh;refine⟨_,_,jk,Y,hQ,?_⟩;have cQ:=VR i.g' jk B Y hQ;have ac:=i.abw rM m;have tw:=Ct (aA L) (a+1);have j:=Yh (eL (aA L) b c 2) [iK b (if(A !=f)=true then((c+2:Nat):Int)else((c+1:Nat):Int)) A,iK b (if(A !=f)=true then((c+1:Nat):Int)else((c+2:Nat):Int)) (!A)] a;have T:=Yh (eL (aA M) b c 2) [iK b (if(A !=(f !=r))=true then((c+2:Nat):Int)else((c+1:Nat):Int)) A,iK b (if(A !=(f !=r))=true then((c+1:Nat):Int)else((c+2:Nat):Int)) (!A)] (c_ (I L) r s a);rw[<-D]at j
 rw[show(eL (aA L) b c 2).drop (a+1)++(eL (aA L) b c 2).take (a+1)=((aA L).drop (a+1)++(aA L).take (a+1)).map (ch b c 2) by rw[fE,uy,sh]]at j;rw[show(eL (aA M) b c 2).drop (c_ (I L) r s a+1)++(eL (aA M) b c 2).take (c_ (I L) r s a+1)=((aA M).drop (c_ (I L) r s a+1)++(aA M).take (c_ (I L) r s a+1)).map (ch b c 2) by rw[fE,uy,sh],ac]at T;generalize(aA L).drop (a+1)++(aA L).take (a+1)=w at j T tw;generalize ft (eL (aA M) b c 2) _ _=Q at T cQ |-;have yl:∀p∈P,p.l.aw\/ ∃q∈aA L,p=ch b c 2 q:=λp hp=>by
  have:=j.perm.mem_iff.2 hp;simp only[ko,fz,dt]at this;rcases this with rfl|rfl|h
  .exact .inl rfl
  .exact .inl rfl
  obtain⟨q,n,rfl⟩:=cD.1 h;exact .inr ⟨q,tw.perm.mem_iff.2 n,rfl⟩
 have e3:∀l:aU,(l.map (cO H)).map (ch b c 2)=(l.map (ch b c 2)).map (cO H):=λl=>by rw[gi,gi];exact kD λp _=>W1 _ _ _ _ p
 have O:∀x d,cO H (iK b x d)=iK b x d:=λx d=>rfl;refine Ay.jo ⟨r,H,?_,?_⟩ f_ cQ vX λp hp N=>?_
 .intro u X v hv R kv e;have y:∀u∈P.map aK.l,u.kind=2->∃z∈L,z.kind=2/\z.id=u.id:=λu X R=>by
   obtain⟨p,hp,rfl⟩:=cD.1 X;rcases yl p hp with h|⟨q,n,rfl⟩
   .unfold U.aw at h;rw[R]at h;cases h
   have E:(ch b c 2 q).l.kind=q.l.kind/\(ch b c 2 q).l.id=q.l.id:=by unfold ch;split<;>exact⟨rfl,rfl⟩
   exact⟨q.l,ru n,E.1▸R,E.2.symm⟩
  obtain⟨z1,h1,k1,E⟩:=y u X R;obtain⟨z2,h2,k2,e2⟩:=y v hv kv;rw[<-E,<-e2]at e |-;exact mY z1 h1 z2 h2 k1 k2 e
 .cases r with
  |false=>simp only[gJ,if_false,Bool.bne_false]at T |-;rw[e3]at T;refine dp.trans (j.map (cO H)).symm ?_;rw[ko,ko,fz,eQ,eQ,O,O];exact T
  |true=>
   simp only[if_true]at T |-;rw[e3]at T;refine dp.trans (j.ep.map (cO H)).symm (dp.trans ?_ T);rw[Mh,Lf λp=>X1 _ _ _ p,fE];refine⟨_,_,rfl,?_⟩;congr 1;have eF:∀x d,gL (iK b x d)=iK b x (!d):=λx d=>rfl;have e5:(A !=(f !=true))= !(A !=f):=by cases A<;>cases f<;>rfl
   rw[e5];show _=[cO H (gL _),cO H (gL _)];rw[eF,eF,O,O,AB];cases A !=f<;>rfl
 rcases yl p hp with h|⟨q,n,rfl⟩
 .rw[h]at N;cases N
 rw[Ld.1]at N;rw[Ld.2];exact Bp n N
end
end
end Go.Abs
