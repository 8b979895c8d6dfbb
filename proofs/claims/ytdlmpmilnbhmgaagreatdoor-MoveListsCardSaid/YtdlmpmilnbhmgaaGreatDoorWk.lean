/- A part. -/
import Derived.Test.YtdlmpmilnbhmgaaGreatDoorWj
set_option linter.all false
open List renaming length->I
set_option maxRecDepth 100000
set_option maxHeartbeats 16000000
namespace Go.Abs
variable{m:db}{L:aI}{g:Int->dm}{h:cS}{j:dm}
section
variable{f:aI}{F:Nat}
abbrev z7:Nat:=24
noncomputable def okB (F:Nat) (f:aI) (m:db):Bool:= @decide (∃M,uJ F f m.k m.a m.b m.c m.l m.o m.s=s9 F M) (Classical.propDecidable _)
def GV:okB F f m↔ ∃M,uJ F f m.k m.a m.b m.c m.l m.o m.s=s9 F M:=by unfold okB;exact@decide_eq_true_iff _ (Classical.propDecidable _)
def FR{e:Int}(H:e≠0):s9 F L≠rm e:=λh=>by unfold s9 rm at h;simp at h;exact H h.2.symm
def uD(ok:db->Bool)(g:Int->dm)(h:cS)(k:Nat):dm:=if h.contains ((k+1:Nat):Int)then(g ((k+1:Nat):Int)).filter ok else []
def oL(ok:db->Bool)(g:Int->dm)(h:cS)(n:Nat):dm:=(List.range n).flatMap (uD ok g h)
def El(ok:db->Bool)(g:Int->dm)(h:cS)(n:Nat):oL ok g h (n+1)=oL ok g h n++uD ok g h n:=by simp[oL,j0]
def ala{ok:db->Bool}{n B:Nat}(H:I (g ((n+1:Nat):Int))<=B):I (uD ok g h n)<=B:=by
 unfold uD;split
 .exact jO (Ge _ _) H
 exact bC _
def OK{ok:db->Bool}{g:Int->dm}{h:cS}{B:Nat}:∀ {n:Nat},(∀k,k<n->I (g ((k+1:Nat):Int))<=B)->I (oL ok g h n)<=B*n
 |0,_=>bC _
 |n+1,f=>by have m:=OK (h:=h) (ok:=ok) λk H=>f k (Oq H);have j:=ala (ok:=ok) (h:=h) (f n (Nw n));rw[El,ep,Nat.mul_succ];omega
def an9{p:db->Bool}{l:dm}{j:Nat}(h:l[j]?=some m):(l.take (j+1)).filter p=(l.take j).filter p++if p m then [m]else []:=by rw[tw h,Oi];cases hp:p m<;>simp[hp]
def ank{k a b c:Int}{l o:Bool}{aP:Int}:(∃e:Int,e≠0/\uJ F f k a b c l o aP=rm e)\/ ∃L,uJ F f k a b c l o aP=s9 F L:=by
 unfold uJ;split
 .cases xP F f k a.toNat b.toNat c.toNat l o aP with
  |none=>exact .inl ⟨4,U,rfl⟩
  |some L=>
   by_cases h:(400:Int)<(I f:Int)+(iG k).1\/(100:Int)<((aF af.aJ f/2:Nat):Int)+(iG k).2
   .exact .inl ⟨7,U,aM h⟩
   exact .inr ⟨tP L,aD h⟩
 exact .inl ⟨2,U,rfl⟩
section
variable {F:Nat} {f:aI}
def ac1{ok:db->Bool}(ak:∀k:Nat,k<10->∀m∈g ((k+1:Nat):Int),(∃e:Int,e≠0/\ok m=false/\aC S 25 [.one (.p (df F f)),dp m.k m.a m.b m.c m.l m.o m.s] (rm e))\/ ∃M,ok m/\aC S 25 [.one (.p (df F f)),dp m.k m.a m.b m.c m.l m.o m.s] (s9 F M))(hc:∀k:Nat,k<10->I (g ((k+1:Nat):Int))<=200000000/\aC S 43 [.one (.p (df F f)),aq ((k+1:Nat):Int)] (.one (bn fx 7 (bh (g ((k+1:Nat):Int)))))){wv:PV}
  (FD:wv.norm=.sl (dz h)) (nj:I h<=1000000):∃q,aC S 19 [.one (.p (df F f)),.one (.p wv)] (.tup [.one (bn fx 7 (bh (oL ok g h 10))),.one (bn z7 2 q)]):=by
 have nW:S.lone 1216448128=false:=ah;have pG:S.lone 1216640128=false:=ah
 suffices az:∃r,(∃q,r=.tup [.one (bn fx 7 (bh (oL ok g h 10))),.one (bn z7 2 q)])/\aC S 19 [.one (.p (df F f)),.one (.p wv)] r by obtain⟨r,⟨q,rfl⟩,h2⟩:=az;exact⟨q,h2⟩
 refine vm rfl ajL (gU rfl) ?_;simp only[go_sem,Z2];refine cD (λk A blk=>A 0=.one (.p (df F f))/\A 1=.one (.p wv)/\A 8=aq ((k+1:Nat):Int)/\ ∃q c d,I q<=200000000*k/\A 6=.one c/\A 7=.one d/\aW 1216768192 fx 7 (bh (oL ok g h k)) (.one c) blk/\aW 1216768448 z7 2 q (.one d) blk) 0 10 (bC _) ?_ ?_
 .simp only[go_sem];exact⟨rfl,[],.p .nils,.p .nils,aG,rfl,rfl,aW.nil,aW.nil⟩
 rintro k A blk hk ⟨X,Z,e8,q,c,d,cX,e6,e7,u,D⟩
 by_cases au:k<10
 .have aL:((k+1:Nat):Int)<=10:=J;have w1:=bJ (n:=k+1) J;have ph:=ajA h ((k+1:Nat):Int) nj;cases l7:h.contains ((k+1:Nat):Int)with
  |false=>rw[l7]at ph;simp only[go_sem,J2,KG,X,Z,e6,e7,e8,aL,FD,VJ,ai ph,w1];exact⟨au,q,c,d,J,rfl,rfl,by rw[El,uD,l7,aD U,jE];exact u,D⟩
  |true=>
   obtain⟨aE,pc⟩:=hc k au;have ar:=ak k au;have hsl:=OK (ok:=ok) (h:=h) λi (hi:i<k)=>(hc i J).1;have vg:uD ok g h k=(g ((k+1:Nat):Int)).filter ok:=by rw[uD,l7,aM rfl]
   have Dg:=El ok g h k;rw[vg]at Dg;generalize oL ok g h k=j at*;generalize g ((k+1:Nat):Int)=N at*;rw[l7]at ph;simp only[go_sem,J2,X,Z,e6,e7,e8,aL,FD,VJ,ai ph,afB];refine ke pc nW (.inl rfl) λcc bp gl ba=>?_;have zh:=u.of_eq (ba 1216768192 U);have CE:=D.of_eq (ba 1216768448 U);rcases gl with⟨e,e2⟩|⟨_,gg,e,mE⟩
   .cases e2;simp only[go_sem];refine mu ?_;simp only[go_sem,F7,KG,X,Z,e6,e7,e8,yT,w1];exact⟨au,q,c,d,J,rfl,rfl,by rw[Dg,show N=[] by simpa [bh]using e,Nt,jE];exact zh,CE⟩
   cases e;rw[j4];simp only[go_sem];refine cD (λY A blk=>A 0=.one (.p (df F f))/\A 1=.one (.p wv)/\A 8=aq ((k+1:Nat):Int)/\A 23=.one (.hsl 1216448128 gg 7 0 (I N))/\A 24=aq (I N)/\A 25=aq Y/\blk 1216448128=(gg,some (.arr fx 7 (bh N)))/\ ∃q c d,I q<=200000000*k+Y/\A 6=.one c/\A 7=.one d/\aW 1216768192 fx 7 (bh (j++(N.take Y).filter ok)) (.one c) blk/\aW 1216768448 z7 2 q (.one d) blk) 0 (I N) (bC _) ?_ ?_
   .simp only[go_sem,X,Z,e6,e7,e8];exact⟨rfl,mE,q,c,d,J,rfl,rfl,by simpa using zh,CE⟩
   clear u D zh CE cX mE ba X Z e6 e7 e8;rintro Y A blk hj ⟨x,B,Q,v,L,T,bL,q,c,d,cX,z,y,u,D⟩
   by_cases nQ:Y<I N
   .have CW:((Y:Int)<(I N:Int)):=J;have w2:=bJ (n:=Y) J;obtain⟨m,lz⟩:=bq nQ;have ik:=Et lz;have jI:=an9 (p:=ok) lz;have ay:I (j++(N.take Y).filter ok)<=2000000000:=by
     have h1:=Ge ok (N.take Y);have h2:=List.length_take_le Y N;rw[ep];omega
    have an:I (bh N)=I N:=j4 N;rcases ar m (bY lz)with⟨e,he,dh,pd⟩|⟨M,L5,pd⟩
    .have CO:(e==0)=false:=by simpa using he
     rw[dh]at jI;simp only[if_false,jE,ib]at jI;simp only[go_sem,F7,x,B,z,y,Q,v,L,T,bL,nQ,CW,ik,db.ps,Z1,bl pd ans,CO,w2];exact⟨q,c,d,J,rfl,rfl,by rw[jI];exact u.of_eq (by simp only[bj,Nat.reduceEqDiff,if_false]),D.of_eq (by simp only[bj,Nat.reduceEqDiff,if_false])⟩
    rw[L5,aM rfl]at jI;simp only[go_sem,F7,x,B,z,y,Q,v,L,T,bL,nQ,CW,ik,db.ps,Z1];refine apU pd pG λcx aV gx bc=>?_;have H:=bc 1216576128 U;simp only[go_sem]at H;have ab:=(bc 1216448128 U).trans ((bo U).trans ((bo U).trans bL));have zi:=u.of_eq ((bc 1216768192 U).trans (by simp only[bj,Nat.reduceEqDiff,if_false]));have sT:=D.of_eq ((bc 1216768448 U).trans (by simp only[bj,Nat.reduceEqDiff,if_false]));have wm:bh (j++(N.take (Y+1)).filter ok)=bh (j++(N.take Y).filter ok)++[db.ps m]:=by rw[jI,<-jL];simp[bh]
    rcases gx with⟨eM,e2⟩|⟨ap,g2,e2,ad⟩
    .cases e2;simp only[go_sem,H,Lr,x,B,z,y,Q,v,L,T];refine tB (q:=1216768192) (id:=1216768192) (bytes:=48) (A:=[db.ps m]) (rd:=[1216768128]) (zi.of_eq (by simp only[bo,bj,Nat.reduceEqDiff,if_false])) (by simp[eO,bj,db.ps]) (.inl rfl) (by simp only[j4,dE,eR];omega) λc' gh r1 u1 fA E dD=>?_
     have Hj:=E 1216640384 U U;simp only[go_sem]at Hj;simp only[go_sem,Hj,Lr,x,B,z,y,Q,v,L,T];have CF:=sT.of_eq ((E 1216768448 U U).trans (by simp only[bj,Nat.reduceEqDiff,if_false]:_=aV 1216768448));refine tB (q:=1216768448) (id:=1216768448) (bytes:=32) (A:=[[.int .i64 F,.sl []]]) (rd:=[1216768384]) (CF.of_eq (bo U)) (by simp[eO,bj]) (.inl rfl) (by simp only[dE,eR];omega) λd' qb r2 u2 O ef ui=>?_;have Hn:=(ef 1216448128 U U).trans ((bo U).trans (E 1216448128 U U));simp only[bj,Nat.reduceEqDiff,if_false]at Hn;have R:=Hn.trans ab;simp only[go_sem,x,B,z,y,Q,v,L,T,R,w2,nQ];refine⟨?_,_,c',d',by simp;omega,rfl,rfl,?_,O⟩
     .rcases dD with⟨rfl,rfl⟩|⟨rfl,rfl⟩|⟨rfl,rfl⟩<;>rcases ui with⟨rfl,rfl⟩|⟨rfl,rfl⟩|⟨rfl,rfl⟩<;>kernel_rfl
     rw[wm];exact fA.of_eq ((ef 1216768192 U U).trans (bo U))
    cases e2;simp only[go_sem,H,Lr,x,B,z,y,Q,v,L,T];refine tB (q:=1216768192) (id:=1216768192) (bytes:=48) (A:=[db.ps m]) (rd:=[1216768128]) (zi.of_eq (by simp only[bo,bj,Nat.reduceEqDiff,if_false])) (by simp[eO,bj,db.ps]) (.inl rfl) (by simp only[j4,dE,eR];omega) λc' gh r1 u1 fA E dD=>?_;have Hj:=E 1216640384 U U;simp only[go_sem]at Hj;simp only[go_sem,Hj,Lr,x,B,z,y,Q,v,L,T];have ag:=(E (1216640128+1) U U);simp only[Nat.reduceAdd,bj,Nat.reduceEqDiff,if_false]at ag ad;have av:=ag.trans ad;have am:aW (1216640128+1) ze 6 (ur M) (.one (.hsl (1216640128+1) g2 6 0 (I M))) gh:=.inr ⟨ap,g2,by rw[ur,cT],av⟩
    obtain⟨fr,hx,vc,zx⟩:=afE (blk:=cQ gh 1216768384 ((gh 1216768384).1+1,some (.gT z7 2 [[.p (.int .i64 F),.hsl (1216640128+1) g2 6 0 (I M)]]))) (s:=1216768384) oJ (am.of_eq (bo U));have CF:=sT.of_eq ((E 1216768448 U U).trans (by simp only[bj,Nat.reduceEqDiff,if_false]:_=aV 1216768448));have nf:∀i,i≠1216640128+1->i∉fr:=λi a az=>by
     rcases zx with rfl|rfl
     .cases az
     exact a (pA.1 az)
    refine aip (q:=1216768448) (id:=1216768448) (bytes:=32) (CF.of_eq (bo U)) hx vc (nf _ U) (nf _ U) (.inl rfl) (by simp only[dE,eR];omega) λd' qb r2 u2 O ef ui=>?_;have Hn:=(ef 1216448128 U U (nf _ U)).trans ((bo U).trans (E 1216448128 U U));simp only[bj,Nat.reduceEqDiff,if_false]at Hn;have R:=Hn.trans ab;simp only[go_sem,x,B,z,y,Q,v,L,T,R,w2,nQ];refine⟨?_,_,c',d',by simp;omega,rfl,rfl,?_,O⟩
    .rcases zx with rfl|rfl<;>rcases dD with⟨rfl,rfl⟩|⟨rfl,rfl⟩|⟨rfl,rfl⟩<;>rcases ui with⟨rfl,rfl⟩|⟨rfl,rfl⟩|⟨rfl,rfl⟩<;>kernel_rfl
    rw[wm];exact fA.of_eq ((ef 1216768192 U U (nf _ U)).trans (bo U))
   have:Y=I N:=J;subst this;simp only[go_sem,F7,KG,x,B,z,y,Q,v,L,T,dF,w1];rw[iV,<-Dg]at u;exact⟨au,q,c,d,J,rfl,rfl,u,D⟩
 have:k=10:=J;subst this;have iI:¬(((10+1:Nat):Int)<=10):=U;simp only[go_sem,J2,ac7,X,Z,e6,e7,e8,iI];exact⟨_,⟨q,rfl⟩,C2 U u D⟩
def ao0(g:ch F f)(m:db):(∃e:Int,e≠0/\okB F f m=false/\aC S 25 [.one (.p (df F f)),dp m.k m.a m.b m.c m.l m.o m.s] (rm e))\/ ∃M,okB F f m/\aC S 25 [.one (.p (df F f)),dp m.k m.a m.b m.c m.l m.o m.s] (s9 F M):=by
 have n:=akE g m.k m.a m.b m.c m.l m.o m.s;rcases ank (F:=F) (f:=f) (k:=m.k) (a:=m.a) (b:=m.b) (c:=m.c) (l:=m.l) (o:=m.o) (aP:=m.s)with⟨e,j,H⟩|⟨M,H⟩
 .refine .inl ⟨e,j,?_,H▸n⟩;cases h:okB F f m
  .rfl
  obtain⟨M,q⟩:=GV.1 h;exact absurd (q.symm.trans H) (FR j)
 exact .inr ⟨M,GV.2 ⟨M,H⟩,H▸n⟩
end
def anY(j:dm):((bh j).all λe=>e.all PV.scalar):=by rw[gL];intro e h;obtain⟨m,_,rfl⟩:=eJ.1 h;rfl
section
variable {F:Nat} {f:aI}
def alR(m:aC S 18 [dQ F f] (uR (df F f) (.int .i64 0))){g h:PV}(r:g.norm=h){n:dC}(ps:aC S 19 [.one (.p (df F f)),.one (.p h)] (.tup [.one (bn fx 7 (bh j)),.one (bn z7 2 n)])):aC S 9 [dQ F f,.one (.p g)] (.tup [.one (bn fx 7 (bh j)),.one (.p (.int .i64 0))]):=by have L:S.lone 576256128=false:=ah;refine bG EI ?_;simp only[go_sem,i9,ajv,bl m bQ,r,ag7];refine HF ps L λc d B q gd H=>?_;simp only[go_sem];exact iW q
def ahD{L:Int}(pr:aC S 9 [dQ L f,.one (.p (.sl (aS (kinds 10))))] (.tup [.one (bn fx 7 (bh j)),.one (.p (.int .i64 0))])):aC S 6 [dQ L f] (.tup [.one (bn fx 7 (bh j)),.one (.p (.int .i64 0))]):=by
 have N:S.lone 384384128=false:=ah;refine bG fq ?_;simp only[go_sem,acC,ae,ao];refine cD (λk A blk=>A 1=.one (.bg 384000000 1 0)/\blk 384000000=(1,some (.var (mw L f)))/\A 5=aq ((k+1:Nat):Int)/\aom k (A 4) blk) 0 10 (bC _) ?_ ?_
 .simp only[go_sem];exact⟨rfl,.inl ⟨rfl,rfl⟩⟩
 rintro k A blk T ⟨r,v,u,y⟩
 by_cases B:k<10
 .have m:((k+1:Nat):Int)<=10:=J;have x:=bJ (n:=k+1) J;have M:=asp k;rcases y with⟨rfl,h⟩|⟨R,g,h,H⟩
  .simp only[go_sem,H2,r,v,h,u,B,m,x,ae,ao];exact .inr ⟨aG,_,rfl,rfl⟩
  have z:I (aS (kinds k))=k:=by simp[kinds]
  have q:List.take k (aS (kinds k))=aS (kinds k):=eW J;have D:(k+1)*8<=140737488355328:=J;have O:I (kinds k)=k:=by simp[kinds]
  simp only[go_sem,H2,r,v,h,u,B,m,x,H,q,D,O,ae,ao];exact .inr ⟨aG,g+1,aG,by simp only[bj,if_true];rw[M]⟩
 have:k=10:=J;subst this;have m:¬((10+1:Nat):Int)<=10:=U;rcases y with⟨F,_⟩|⟨_,g,h,H⟩
 .cases F
 have q:List.take 10 (aS (kinds 10))=aS (kinds 10):=eW (by simp[kinds]);have z:10<=I (List.range 10):=aG;simp only[go_sem,H2,aac,r,v,h,u,m,H,q,z,Dw];refine ap0 pr N (anY _) rfl λc X E Q=>?_;simp only[go_sem];exact iW E
def afr{ok:db->Bool}{all:cS}{k:Nat}(f:∀m∈g ((k+1:Nat):Int),m.k=((k+1:Nat):Int))(n:all.contains ((k+1:Nat):Int)):(uD ok g all k).filter (λm=>h.contains m.k)=uD ok g h k:=by
 unfold uD;rw[n,aM rfl,List.filter_filter];cases j:h.contains ((k+1:Nat):Int)with
 |true=>rw[aM rfl];exact List.filter_congr λm H=>by rw[f m H,j,tI]
 |false=>rw[aD U];exact List.filter_eq_nil_iff.2 λm H=>by rw[f m H,j];simp
def aah{ok:db->Bool}{g:Int->dm}{h all:cS}:∀ {n:Nat},(∀k,k<n->(∀m∈g ((k+1:Nat):Int),m.k=((k+1:Nat):Int))/\all.contains ((k+1:Nat):Int))->(oL ok g all n).filter (λm=>h.contains m.k)=oL ok g h n
 |0,_=>rfl
 |n+1,f=>by rw[El,El,Oi,aah λk H=>f k (Oq H),afr (f n (Nw n)).1 (f n (Nw n)).2]
structure Hh (F:Nat) (ls:aI) (cand:Int->dm):Prop where
 two:cand 2=nR F ls (I ls)
 five:cand 5=mL (I ls)
 seven:cand 7=qA (I ls) (I ls)
 one:∀k:Int,k=1\/k=4\/k=9\/k=10->cand k=rb (I ls) k
 three:∀k:Int,k=3\/k=6\/k=8->(∀m∈cand k,Cm k (I ls) m)/\Mw F ls k (cand k)/\(cand k).Pairwise wJ
 len:∀k:Nat,k<10->I (cand ((k+1:Nat):Int))<=200000000
 pev:∀k:Nat,k<10->aC S 43 [.one (.p (df F ls)),aq ((k+1:Nat):Int)] (.one (bn fx 7 (bh (cand ((k+1:Nat):Int)))))
def af7(m:ch F f)(A:0<I f):∃g,Hh F f g:=by
 have h:=m.len;obtain⟨z,⟨Z,Y,T,Ia⟩,D⟩:=US m A (h:=3) (.inl rfl);obtain⟨M,⟨O,v,r,x⟩,N⟩:=US m A (h:=6) (.inr (.inl rfl));obtain⟨B,⟨ab,y,u,q⟩,X⟩:=US m A (h:=8) (.inr (.inr rfl));obtain⟨h2,L⟩:=amk m A (afH m);have E:=asf m A;have Q:=anA m A;have h7:=P3 (I f) (I f);have R:=A_ h h;have h5:=Uj (I f);have n:∀k:Int,k=1\/k=4\/k=9\/k=10->aC S 43 [.one (.p (df F f)),aq k] (.one (bn fx 7 (bh (rb (I f) k)))):=λk H=>by rcases H with rfl|rfl|rfl|rfl<;>exact ad9 m A U U U U U U
 have j:∀k:Int,I (rb (I f) k)<=200000000:=λk=>by rw[YV];omega
 refine⟨λk=>if k=2 then nR F f (I f) else if k=5 then mL (I f) else if k=7 then qA (I f) (I f) else if k=3 then z else if k=6 then M else if k=8 then B else rb (I f) k,rfl,rfl,rfl,λk H=>?_,λk H=>?_,λk H=>?_,λk H=>?_⟩
 .rcases H with rfl|rfl|rfl|rfl<;>rfl
 .rcases H with rfl|rfl|rfl
  .exact⟨Y,T,Ia⟩
  .exact⟨v,r,x⟩
  exact⟨y,u,q⟩
 .rcases k with _|_|_|_|_|_|_|_|_|_|k
  .exact j 1
  .show(nR F f (I f)).length<=_;omega
  .show (I z)<=_;omega
  .exact j 4
  .show(mL (I f)).length<=_;omega
  .show (I M)<=_;omega
  .show(qA (I f) (I f)).length<=_;omega
  .show (I B)<=_;omega
  .exact j 9
  .exact j 10
  omega
 rcases k with _|_|_|_|_|_|_|_|_|_|k
 .exact n 1 U
 .exact L
 .exact D
 .exact n 4 U
 .exact E
 .exact N
 .exact Q
 .exact X
 .exact n 9 U
 .exact n 10 U
 omega
def Hh.kind(h:Hh F f g){k:Nat}(q:k<10):∀m∈g ((k+1:Nat):Int),m.k=((k+1:Nat):Int):=by
 have j:∀k:Int,∀m∈rb (I f) k,m.k=k:=λk m H=>by obtain⟨a,_,rfl⟩:=eJ.1 H;rfl
 have n:∀k:Int,k=3\/k=6\/k=8->∀m∈g k,m.k=k:=λk q m H=>by obtain⟨a,_,r⟩:=(h.three k q).1 m H;exact r.1
 rcases k with _|_|_|_|_|_|_|_|_|_|k
 .show ∀m∈g 1,m.k=1;rw[h.one 1 U];exact j 1
 .show ∀m∈g 2,m.k=2;rw[h.two];intro m H;obtain⟨a,_,H⟩:=pR.1 H;obtain⟨x,_,rfl⟩:=eJ.1 H;rfl
 .exact n 3 U
 .show ∀m∈g 4,m.k=4;rw[h.one 4 U];exact j 4
 .show ∀m∈g 5,m.k=5;rw[h.five];intro m H;obtain⟨a,_,H⟩:=pR.1 H;obtain⟨x,_,rfl⟩:=eJ.1 H;rfl
 .exact n 6 U
 .show ∀m∈g 7,m.k=7;rw[h.seven];intro m H;obtain⟨a,_,H⟩:=pR.1 H;obtain⟨c,_,H⟩:=pR.1 H;unfold rD at H;split at H
  .cases H
  obtain⟨x,_,rfl⟩:=eJ.1 H;rfl
 .exact n 8 U
 .show ∀m∈g 9,m.k=9;rw[h.one 9 U];exact j 9
 .show ∀m∈g 10,m.k=10;rw[h.one 10 U];exact j 10
 omega
end
abbrev qZ(F:Nat)(ls:aI):dk:=[.p (.int .i64 F),.p (jF ls),.p (.int .i64 (I ls)),.p (.sl (g_ (cZ F ls)))]
abbrev eQ(F:Nat)(ls:aI):V:=.agg (qZ F ls)
abbrev vP(l:af):RV:=.agg [.p (.int .i64 l.kind),.p (.int .i64 l.gate),.p (.int .i64 l.aK),.p (.int .i64 l.id),.p (.int .i64 l.sign),.p (.bool l.over)]
def ao4{g T z:Nat}{E:dC}{c:b_}{x y w:PV}{blk:aB}(h:aW g T z E (.one c) blk):hJ blk (.agg [.p x,.p y,.p w,c])=some (.agg [.p x,.p y,.p w,bn T z E]):=by obtain⟨r,o,q,H,j⟩:=h.iZ;cases q;have m:iZ blk (.p x)=some (.p x,[],[]):=rfl;have f:iZ blk (.p y)=some (.p y,[],[]):=rfl;have n:iZ blk (.p w)=some (.p w,[],[]):=rfl;rcases j with rfl|rfl<;>simp[hJ,pn,lJ,kQ,H,m,f,n,pE,sr,qf]
def aiw(g:ch F f):aC S 36 [dQ F f] (.agg [.p (.int .i64 F),.p (jF f),.p (.int .i64 (I f)),bn qY 5 (g_ (cZ F f))]):=by
 have u:=g.fing;have m:=amJ g.ok J g.axne;have L:S.lone 2304192064=false:=ah;have n:(0:Int)<(I f:Int):=by have:=nA.2 g.ne;omega
 refine bG Vz ?_;simp only[go_sem,Sl,n,age,ae,ao];refine ke m L (.inl rfl) λr q j H=>?_;have B:=H 2304064320 U;have h:=H 2304000064 U;simp only[go_sem]at B h;simp only[go_sem,B,h,ae,ao];exact ao4 (j.of_eq ((bo U).trans (bo U)))
def VZ{e:Nat}(H:e<I f)(hl:I f<=1000000):aC S 170 [eQ F f,aq e] (fy ((e+1)%I f:Nat)):=by have g:=bJ (n:=e) J;have h:¬((I f:Int)=0):=J;have T:=n_ (e+1) (I f);refine bG ai6 ?_;simp only[go_sem,acR,g,h,T,ae,ao]
def JL{e:Nat}(h:e<I f)(hl:I f<=1000000):aC S 134 [eQ F f,aq e] (.tup [vP (aR f e),vP (aR f (bt f e))]):=by have j:=VZ (F:=F) h hl;have g:=fO (e+1) (show 0<I f by omega);have H:=iF (iX h);have m:=iF (iX g);refine bG anb ?_;simp only[go_sem,V6,R_,c4 j,H,m,af.ps,ae,ao];exact⟨aw,rfl⟩
def Dt(o:cS)(x:Int)(hl:I o<=1000000):aC S 141 [.one (.p (.sl (dz o))),aq x] (bK (decide (x∈o))):=by
 refine bG amP ?_;simp only[go_sem,WY,ae,ao];refine cD (λk A blk=>A 0=.one (.p (.sl (dz o)))/\A 1=aq x/\A 5=aq k/\ ∀j,j<k->o[j]? ≠some x) 0 (I o) (bC _) ?_ ?_
 .simp only[go_sem];exact⟨rfl,λj H=>absurd H (l_ j)⟩
 rintro k A blk N ⟨g,q,r,v⟩
 by_cases B:k<I o
 .have z:((k:Int)<(I o:Int)):=J;obtain⟨y,f⟩:=bq B;have D:=sQ f;have E:=bJ (n:=k) J;by_cases m:y=x
  .subst m;have u:decide (y∈o)=true:=by simpa using bY f
   simp only[go_sem,Nf,g,q,r,z,D,u,ae,ao]
  have L:=(rN m).1;have M:∀j,j<k+1->o[j]? ≠some x:=λj H=>by
   rcases jG.1 H with h|rfl
   .exact v j h
   rw[f];intro h;cases h;exact m rfl
  simp only[go_sem,Nf,g,q,r,B,z,D,L,E,ae,ao];exact M
 have:k=I o:=J;subst this;have u:decide (x∈o)=false:=by simp only[decide_eq_false_iff_not];intro F;obtain⟨j,H⟩:=iA F;exact absurd H (v j (ct.1 H).1)
 simp only[go_sem,Nf,adk,g,q,r,dF,u,ae,ao]
def alh(o:aA):aS o=dz (o.map λn:Nat=>(n:Int)):=by simp[u9]
def AP(o:aA)(x:Nat)(hl:I o<=1000000):aC S 141 [.one (.p (.sl (aS o))),aq x] (bK (decide (x∈o))):=by
 have:=Dt (o.map λn:Nat=>(n:Int)) x (by rw[cT];exact hl);rw[alh];rw[show decide ((x:Int)∈o.map λn:Nat=>(n:Int))=decide (x∈o) by
  rw[decide_eq_decide,eJ];constructor
  .rintro ⟨a,h,e⟩
   have:a=x:=J;exact this▸h
  exactλh=>⟨x,h,rfl⟩]at this
 exact this
def er(i:Int):aC S 132 [eQ F f,aq i] (bK (gW (I f) i)):=by
 refine bG afI ?_;unfold gW;by_cases h:0<=i
 .by_cases H:i<(I f:Int)
  .simp only[go_sem,Mj,h,H,ae,ao]
  simp only[go_sem,Mj,h,H,ae,ao]
 simp only[go_sem,Mj,h,ae,ao]
def sK(a b:af):Bool:=(a.kind==1)&&((b.kind==1)&&((a.gate==b.gate)&&((a.aK==b.aK+1)||(b.aK==a.aK+1))))
abbrev CC(a:af):Prop:= -1000000<=a.aK/\a.aK<=1000000
def abu(a b:af)(H:CC a)(h:CC b):aC S 135 [xA a,xA b] (bK (sK a b)):=by
 have g:IntKind.i64.wrap (a.aK+1)=a.aK+1:=j_ (by have:=H.1;omega) (by have:=H.2;omega);have f:IntKind.i64.wrap (b.aK+1)=b.aK+1:=j_ (by have:=h.1;omega) (by have:=h.2;omega);unfold sK;refine bG alF ?_;simp only[go_sem,aat,g,f,bne,ae,ao];repeat' ((first|apply jv|apply jw|apply jA|apply ju|apply jB|apply jx)<;>intro j<;>simp only[go_sem, *,g,f,bne,ae,ao])
 all_goals(first|done|exact aw|exact⟨aw,rfl⟩|rfl)
def FY{blk:aB}{s:Nat}{l:Bool}(a b:af):d_ blk [] s ((RV.tup [vP a,vP b]).eU l)=some (.tup [xA a,xA b],[]):=by cases l<;>rfl
def tU{blk:aB}{s:Nat}{l:Bool}(a b:af)(x:Bool):d_ blk [] s ((RV.tup [vP a,vP b,.one (.p (.bool x))]).eU l)=some (.tup [xA a,xA b,kN x],[]):=by cases l<;>rfl
def jT(f:aI)(e:Nat):af×af×Bool:=if(aR f e).kind==1 then(aR f (bt f e),aR f e,((aR f (bt f e)).kind==2)&&((aR f e).kind==1))else(aR f e,aR f (bt f e),((aR f e).kind==2)&&((aR f (bt f e)).kind==1))
def mK(f:aI)(e:Nat):Bool:=((aR f e).kind==2)&&((aR f (bt f e)).kind==2)
def zB(f:aI)(e:Nat):Int:=(if(aR f e).over then 1 else 0)+(if(aR f (bt f e)).over then 1 else 0)
section
variable {F:Nat} {f:aI}
def V7{e:Nat}(H:e<I f)(hl:I f<=1000000):aC S 171 [eQ F f,aq e] (.tup [vP (jT f e).1,vP (jT f e).2.1,.one (.p (.bool (jT f e).2.2))]):=by
 have g:=JL (F:=F) H hl;unfold jT;generalize aR f e=A at g |-;generalize aR f (bt f e)=B at g |-;refine bG agB ?_;cases h:(A.kind==1)with
 |true=>
  rw[aM rfl];simp only[go_sem,i171,BS,bl g (FY _ _),h,bne,ae,ao];repeat' ((first|apply jv|apply jw|apply jA|apply ju|apply jB|apply jx)<;>intro H<;>simp only[go_sem, *,h,bne,ae,ao])
  all_goals(first|done|exact aw|exact⟨aw,rfl⟩|rfl)
 |false=>
  rw[aD U];simp only[go_sem,i171,BS,bl g (FY _ _),h,bne,ae,ao];repeat' ((first|apply jv|apply jw|apply jA|apply ju|apply jB|apply jx)<;>intro H<;>simp only[go_sem, *,h,bne,ae,ao])
  all_goals(first|done|exact aw|exact⟨aw,rfl⟩|rfl)
def H7{e:Nat}(h:e<I f)(hl:I f<=1000000):aC S 139 [eQ F f,aq e] (.tup [vP (aR f e),vP (aR f (bt f e)),.one (.p (.bool (mK f e)))]):=by
 have g:=JL (F:=F) h hl;unfold mK;generalize aR f e=A at g |-;generalize aR f (bt f e)=B at g |-;refine bG aqf ?_;simp only[go_sem,adK,BS,bl g (FY _ _),bne,ae,ao];repeat' ((first|apply jv|apply jw|apply jA|apply ju|apply jB|apply jx)<;>intro h<;>simp only[go_sem, *,BS,bl g (FY _ _),bne,ae,ao])
 all_goals(first|done|exact aw|exact⟨aw,rfl⟩|rfl)
def asg{e:Nat}(H:e<I f)(hl:I f<=1000000):aC S 173 [eQ F f,aq e] (fy (zB f e)):=by
 have g:=JL (F:=F) H hl;unfold zB;generalize aR f e=A at g |-;generalize aR f (bt f e)=B at g |-;have m:IntKind.i64.wrap (0+1)=1:=U;have h:IntKind.i64.wrap (1+1)=2:=U;refine bG ajD ?_;cases j:A.over<;>cases n:B.over<;>simp only[go_sem,i173,BS,bl g (FY _ _),j,n,m,h,bne,ae,ao]
 all_goals rfl
def ar1(b c:Int)(hl:I f<=1000000):aC S 133 [dQ F f,.agg [.p (.int .i64 b),.p (.int .i64 c)]] (bK (decide (0<=b)&&(decide (b<=(F:Int))&&(decide (0<=c)&&decide (c<=((aF (jh b) f:Nat):Int)))))):=by
 have g:=RI F f hl b;refine bG apN ?_;simp only[go_sem,adf,kG,c4 g,bne,ae,ao];repeat' ((first|apply jv|apply jw|apply jA|apply ju|apply jB|apply jx)<;>intro h<;>simp only[go_sem, *,kG,c4 g,bne,ae,ao])
 all_goals(first|done|exact aw|exact⟨aw,rfl⟩|rfl)
def aaE(f:cM)(p:Nat×Nat)(hl:I f.places<=1000000):aC S 136 [.agg (f.ps.map .p),.agg [.p (.int .i64 p.1),.p (.int .i64 p.2)]] (bK (decide (p∈f.places))):=by
 refine bG aiJ ?_;simp only[go_sem,aaq,cM.ps,ae,ao];refine cD (λk A blk=>A 2=.one (.bg 8704000000 1 0)/\A 3=.one (.bg 8704000064 1 0)/\A 5=aq k/\blk 8704000000=(1,some (.var [.p (.bool f.dA),.p (.sl (aS f.aT)),.p (.sl (dc f.places)),.p (.sl (aS f.mY)),.p (.bool f.outer)]))/\blk 8704000064=(1,some (.var [.p (.int .i64 p.1),.p (.int .i64 p.2)]))/\ ∀j,j<k->f.places[j]? ≠some p) 0 (I f.places) (bC _) ?_ ?_
 .simp only[go_sem];exact⟨rfl,λj H=>absurd H (l_ j)⟩
 rintro k A blk R ⟨g,m,q,b0,B,M⟩
 by_cases F:k<I f.places
 .have x:((k:Int)<(I f.places:Int)):=J;obtain⟨y,u⟩:=bq F;have D:=RK u;have L:=bJ (n:=k) J;by_cases v:y=p
  .subst v;have E:decide (y∈f.places)=true:=by simpa using bY u
   simp only[go_sem,Fh,g,m,q,b0,B,x,D,E,kV,k_,ae,ao];first|done|exact aw
  have r:∀j,j<k+1->f.places[j]? ≠some p:=λj H=>by
   rcases jG.1 H with h|rfl
   .exact M j h
   rw[u];intro h;cases h;exact v rfl
  cases z:((y.1:Int)==(p.1:Int))with
  |false=>simp only[go_sem,Fh,g,m,q,b0,B,F,x,D,z,L,kV,k_,ae,ao];first|exact r|exact⟨aw,r⟩
  |true=>
   have N:((y.2:Int)==(p.2:Int))=false:=by
    have Q:y.1=p.1:=by have:=c6.1 z;omega
    simp only[pQ];intro h;exact v (zw Q J)
   simp only[go_sem,Fh,g,m,q,b0,B,F,x,D,z,N,L,kV,k_,ae,ao];first|exact r|exact⟨aw,r⟩
 have:k=I f.places:=J;subst this;have E:decide (p∈f.places)=false:=by simp only[decide_eq_false_iff_not];intro O;obtain⟨j,H⟩:=iA O;exact absurd H (M j (ct.1 H).1)
 simp only[go_sem,Fh,XD,g,m,q,b0,dF,E,ae,ao]
abbrev amZ(f:cM):RV:=.agg [.p (.bool f.dA),.p (.sl (aS f.aT)),.p (.sl (dc f.places)),.p (.sl (aS f.mY)),.p (.bool f.outer)]
def Ty(g:ch F f){e:Nat}(he:e<I f)(l:Bool):aC S 137 [eQ F f,aq e,kN l] (amZ (cK F f (if l then 2*e else 2*e+1))):=by
 have N:=g.len;have M:=lR (a:=e) J;have Z:=bJ (n:=2*e) J;have D:∀x:Bool,(if x then 2*e else 2*e+1)<2*I f:=λx=>by cases x<;>simp<;>omega
 have jI:I (cZ F f)<=1000000:=by have h1:=g.nw;have h2:=ld af.aN f;have H:=ld af.aJ f;rw[Kc];omega
 have m:∀d,d<2*I f->∀Q:fp,(∀A blk,A 6=.one (.bg 8768000064 1 0)->blk 8768000064=(1,some (.var [.p (.bool (cK F f d).dA),.p (.sl (aS (cK F f d).aT)),.p (.sl (dc (cK F f d).places)),.p (.sl (aS (cK F f d).mY)),.p (.bool (cK F f d).outer)]))->Q .ret A blk)->∀A blk,A 3=.one (.bg 8768000000 1 0)->A 6=.one (.bg 8768000064 1 0)->A 7=aq d->A 8=aq 0->blk 8768000000=(1,some (.var (qZ F f)))->blk 8768000064=(1,some (.var [.p (.bool false),.p .nils,.p .nils,.p .nils,.p (.bool false)]))->W S .all (.loop Mv) (kZ 0 (qm S .all abZ Q)) A blk:=by
  intro d D Q hQ A blk H h q u b0 B;obtain⟨j,y,R,_⟩:=wP (F:=F) D;have jm:=(ct.1 y).1;refine cD (λk A blk=>k<=j/\A 3=.one (.bg 8768000000 1 0)/\A 6=.one (.bg 8768000064 1 0)/\A 7=aq d/\A 8=aq k/\blk 8768000000=(1,some (.var (qZ F f)))/\blk 8768000064=(1,some (.var [.p (.bool false),.p .nils,.p .nils,.p .nils,.p (.bool false)]))) 0 (I (cZ F f)) (bC _) ⟨bC _,H,h,q,u,b0,B⟩ ?_;rintro k A blk hk ⟨Bc,H,h,q,u,b0,B⟩
  have T:k<I (cZ F f):=J;have E:((k:Int)<(I (cZ F f):Int)):=J;obtain⟨L,r⟩:=bq T;have O:=BP r;have X:=bJ (n:=k) J;have Y:I L.aT<=1000000:=by have h9:I L.aT<=2*I f+2*I (aH f):=DT g.ok (bY r);have iD:I (aH f)<=I f:=mv f (I f);omega
  have v:=AP L.aT d Y;by_cases e:k=j
  .subst e;obtain rfl:L=cK F f d:=xH (r.symm.trans y);have z:decide (d∈(cK F f d).aT)=true:=by simpa using R
   rw[z]at v;simp only[go_sem,Mv,H,h,q,u,b0,B,E,O,cM.ps,pI,ai v,ae,ao];exact hQ _ _ (by simp only[go_sem,h]) (by simp only[go_sem])
  have z:decide (d∈L.aT)=false:=by simp only[decide_eq_false_iff_not];exactλhh=>absurd (M4 r y hh R) e
  rw[z]at v;simp only[go_sem,Mv,H,h,q,u,b0,B,T,E,O,cM.ps,pI,ai v,X,ae,ao];omega
 refine bG anM ?_;cases l with
 |true=>
  simp only[go_sem,Q6,M,ae,ao];refine m (2*e) J _ (λA blk h B=>?_) _ _ ?_ ?_ ?_ ?_ ?_ ?_;all_goals simp only[go_sem]
  simp only[go_sem,h,B];rfl
 |false=>
  simp only[go_sem,Q6,M,Z,ae,ao];refine m (2*e+1) J _ (λA blk h B=>?_) _ _ ?_ ?_ ?_ ?_ ?_ ?_;all_goals simp only[go_sem]
  simp only[go_sem,h,B];rfl
end
def alN(f:aI)(k:Nat):eo:=(List.range k).map (dP f)
abbrev tO(ls:aI):eo:=alN ls (I ls)
def Yc(L:aI)(D:eo)(i:Nat):Bool:=match L[i]?,D[i]? with|some l,some d=>(l.kind==1)&&d|_,_=>false
def Vi(L:aI)(D:eo):my:=(List.range (I L)).find? (Yc L D)
def Rd(L:aI)(D:eo):aI:=match Vi L D with|some i=>L.drop i++L.take i|none=>L
def ael{α:Type}{l:List α}{p q:α->Bool}(h:∀x∈l,p x=q x):l.find? p=l.find? q:=by
 induction l with
 |nil=>rfl
 |cons a l f=>rw[Hb,Hb,h a (uO ..),f λx H=>h x (s4 _ H)]
def ack{l:cO}{f:Nat}(n:f<=I l):sg l f (I l)=(l.drop f++l.take f).map aZ.l:=by
 apply Ai;intro i;by_cases m:i<I l
 .have h:(sg l f (I l))[i]?=some (l.getD ((f+i)%I l) ⟨nv,false⟩).l:=by
   simp[sg,m]
  rw[h,gZ];by_cases H:f+i<I l
  .rw[zV (by simp;omega),BD,o_ H];simp[H]
  rw[wM (by simp;omega),BO];have j:(f+i)%I l=i-(I l-f):=by rw[Nat.mod_eq_sub_mod J,o_ J];omega
  have g:i-(I l-f)<I l:=J;rw[j,lT,aM J];simp[g]
 have h:I (sg l f (I l))=I l:=by simp[sg]
 rw[o6 (by rw[h];omega),o6 (by simp;omega)]
def arX{l:cO}{D:eo}(r:l.map aZ.l=L)(u:I D=I l)(h:∀(i:Nat) (p:aZ),l[i]?=some p->(p.l.kind==1)->D[i]?=some p.d):tP l=Rd L D:=by
 subst r;have j:sh l=Vi (l.map aZ.l) D:=by
  unfold sh Vi;rw[cT];refine ael λi H=>?_;have H:i<I l:=by simpa using H
  obtain⟨p,hp⟩:=bq H;obtain⟨d,g⟩:=bq (h:=D) (k:=i) J;have m:(l.map aZ.l)[i]?=some p.l:=by rw[gZ,hp];rfl
  simp only[Hw,Yc,hp,m,g,Dv];cases n:(p.l.kind==1)with
  |false=>simp
  |true=>have:=h i p hp n;rw[g]at this;cases this;simp
 unfold tP Rd;rw[<-j];cases q:sh l with
 |none=>simp only[Option.getD_none];rw[ack (bC _)];simp
 |some i=>
  have H:i<I l:=by
   have:=Er q
   simpa using this
  simp only[jV];rw[ack (Nat.le_of_lt H),q_,Lq,GN]
def r9{α:Type}(l x:List α)(k:Nat):List α:=l.take (k+1)++x++l.drop (k+1)
def Gu{α:Type}(l:List α)(out:aA)(i:Nat):Option α:=if i∈out then none else l[i]?
def J8{α:Type}(l:List α)(out:aA)(k:Nat):List α:=(List.range k).filterMap (Gu l out)
abbrev nC{α:Type}(l:List α)(out:aA):List α:=J8 l out (I l)
def rS(g A E:Int)(l:af):af:=if(l.kind==1)&&((l.gate==g)&&decide (A<l.aK))then{l with aK:=l.aK-E}else l
def lp{α:Type}(l:List α)(i j:Nat):List α:=match l[i]?,l[j]? with
 |some x,some y=>(l.set i y).set j x
 |_,_=>l
def aeC{k:Nat}(H:2<=I f)(g:k<I f):k≠bt f k:=by
 unfold bt;by_cases h:k+1<I f
 .rw[o_ h];omega
 have:k+1=I f:=J;rw[this,GC];omega

def XA(g:cS)(i:Int)(k:Nat):Nat:=I ((g.take k).filter (λx=>decide (x<i)))
def MT(g:cS)(l:af):af:=if l.kind==2 then{l with id:=l.id-(XA g l.id (I g):Int)}else l
def arv{i:Nat}:bP.all.ok i:=rfl
attribute [go_sem] arv
def aet(g:ch F f):g_ (cZ F f)≠[]:=by
 have hl:0<I f:=nA.2 g.ne;obtain⟨j,h,_⟩:=wP (F:=F) (h:=f) (d:=0) J;intro e;have:cZ F f=[]:=by simpa using e
 rw[this]at h;cases h
def ahA{α:Type}{l:List α}{out:aA}{x:α}(h:x∈nC l out):x∈l:=by
 obtain⟨k,_,H⟩:=N6.1 h;unfold Gu at H;split at H
 .cases H
 exact bY H
end
end Go.Abs
