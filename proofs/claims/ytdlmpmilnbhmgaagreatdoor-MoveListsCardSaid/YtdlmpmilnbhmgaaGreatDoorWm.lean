/- A part. -/
import Derived.Test.YtdlmpmilnbhmgaaGreatDoorWl
set_option linter.all false
open List renaming length->I
set_option maxRecDepth 100000
set_option maxHeartbeats 16000000
namespace Go.Abs
variable{x v j:Nat}
section
variable{f:aI}{F:Nat}
section
variable {F:Nat} {f:aI}
def fZ(l:cS)(x:Int):cS:=if x∈l then l else l++[x]
def uF(f:aI)(l:cS)(e:Nat):cS:=fZ (fZ l (aR f e).id) (aR f (bt f e)).id
def qi(f:aI)(E:aA):aA:=E.flatMap λe=>[e,bt f e]
def nq(f:aI)(E:aA):cS:=E.map (zB f)
def i_(f:aI)(E:aA):cS:=E.foldl (uF f) []
def u_(f:aI)(E:aA)(j:Nat):Bool:=match E[j]? with|some e=>mK f e&&(!decide (e∈qi f (E.take j))&& !decide (bt f e∈qi f (E.take j)))|none=>true
def yh(F:Nat)(f:aI)(E:aA):Bool:=(List.range (I E)).all (u_ f E)&&((I (i_ f E)==3)&&(decide ((2:Int)∈nq f E)&&(decide ((0:Int)∈nq f E)&&qK F f 0 E)))
def RJ(E:aA):I (qi f E)=2*I E:=by
 unfold qi
 induction E with
 |nil=>rfl
 |cons a r g=>rw[xn,ep,g,dE];simp;omega
def aqi(l:cS)(e:Nat):I (uF f l e)<=I l+2:=by
 unfold uF fZ;repeat' split
 all_goals simp
def ES(E:aA):I (i_ f E)<=2*I E:=by
 unfold i_;have:∀(E:aA) (l:cS),I (E.foldl (uF f) l)<=I l+2*I E:=by
  intro E
  induction E with
  |nil=>intro l;simp
  |cons a r g=>intro l;have H:=g (uF f l a);have h:=aqi (f:=f) l a;simp only[qG,dE];omega
 have:=this E []
 simpa using this
def arR(g:ch F f){av bv cv:Nat}(ha:av<I f)(hb:bv<I f)(hc:cv<I f):aC S 142 [eQ F f,aq av,aq bv,aq cv] (bK (yh F f [av,bv,cv])):=by
 have be:=g.len;have gI:∀e∈[av,bv,cv],e<I f:=λe h=>by simp at h;rcases h with rfl|rfl|rfl<;>assumption
 have po:=OQ g 0 [av,bv,cv] gI aG;have c1:((0:Nat):Int)=0:=rfl;rw[c1]at po;have Bh:aS [av,bv,cv]=[[.int .i64 av],[.int .i64 bv],[.int .i64 cv]]:=rfl;generalize hE:[av,bv,cv]=E at*;have dr:I E=3:=by rw[<-hE];rfl
 refine bG ajj ?_;simp only[go_sem,Z4,ae,ao];refine cD (λj aj blk=>aj 4=.one (.bg 9088000000 1 0)/\aj 9=.one (.hsl 9088064192 1 1 0 3)/\aj 13=aq j/\blk 9088000000=(1,some (.var (qZ F f)))/\blk 9088064192=(1,some (.arr 3 1 (aS E)))/\(∀i,i<j->u_ f E i)/\
  ∃Hg Z an,∃m,aj 10=.one Hg/\aj 11=.one Z/\aj 12=.one an/\(m=9088832256\/m=9088960256)/\aW 9088640768 3 1 (aS (qi f (E.take j))) (.one Hg) blk/\aW m 3 1 (dz (i_ f (E.take j))) (.one Z) blk/\aW 9088704512 3 1 (dz (nq f (E.take j))) (.one an) blk) 0 3 (bC _) ?_ ?_
 .simp only[go_sem];exact⟨rfl,by rw[Bh],λi hi=>absurd hi (l_ i),_,_,_,9088832256,rfl,rfl,rfl,.inl rfl,aW.nil,aW.nil,aW.nil⟩
 rintro j aj blk hj ⟨H,v,x,b0,B,ay,Hg,Z,an,m,cb,z,D,A,am,ag,ar⟩
 have jm:I (E.take j)<=3:=by rw[iU];omega
 by_cases R:j<3
 .have aL:((j:Int)<3):=J;obtain⟨e,he⟩:=bq (h:=E) (k:=j) J;have uc:=gI e (bY he);have ug:=fC he;have w1:=bJ (n:=j) J;have pc:=H7 (F:=F) uc J;have pe:=VZ (F:=F) uc J;have pl:=asg (F:=F) uc J;have p1:=AP (qi f (E.take j)) e (by rw[RJ];omega);have p2:=AP (qi f (E.take j)) (bt f e) (by rw[RJ];omega);obtain⟨bi,Ul,Ta⟩:=am.DP;have X:u_ f E j=(mK f e&&(!decide (e∈qi f (E.take j))&& !decide (bt f e∈qi f (E.take j)))):=by unfold u_;rw[he]
  have dh:u_ f E j=false->yh F f E=false:=λh=>by
   have:(List.range (I E)).all (u_ f E)=false:=by
    cases hh:(List.range (I E)).all (u_ f E)with
    |false=>rfl
    |true=>rw[gL.1 hh j (f_.2 J)]at h;cases h
   unfold yh;rw[this];rfl
  cases cr:mK f e with
  |false=>rw[cr]at X;rw[dh X];rw[cr]at pc;simp only[go_sem,vB,H,v,cb,z,D,x,b0,B,R,aL,ug,zO,fT pc (tU _ _ _)];first|done|exact aw|exact⟨aw,rfl⟩|exact⟨aw,aw,rfl⟩
  |true=>
   rw[cr]at X pc;cases m1:decide (e∈qi f (E.take j))with
   |true=>rw[m1]at X p1;rw[dh X];simp only[go_sem,vB,H,v,cb,z,D,x,b0,B,R,aL,ug,Ul,zO,fT pc (tU _ _ _),pI,cN p1];refine⟨aw,?_⟩;rcases Ta with rfl|rfl<;>exact aw
   |false=>
    rw[m1]at X p1;cases m2:decide (bt f e∈qi f (E.take j))with
    |true=>rw[m2]at X p2;rw[dh X];simp only[go_sem,vB,H,v,cb,z,D,x,b0,B,R,aL,ug,Ul,zO,fT pc (tU _ _ _),pI,cN p1,cN p2,R_,c4 pe];refine⟨aw,?_⟩;rcases Ta with rfl|rfl<;>exact aw
    |false=>
     rw[m2]at X p2;simp only[go_sem,vB,H,v,cb,z,D,x,b0,B,R,aL,ug,Ul,zO,fT pc (tU _ _ _),pI,cN p1,cN p2,R_,c4 pe];refine⟨aw,?_,?_⟩
     .rcases Ta with rfl|rfl<;>exact aw
     have n1:m≠9088640768:=by rcases A with rfl|rfl<;>decide
     have n2:m≠9088704512:=by rcases A with rfl|rfl<;>decide
     have n3:m≠9088448640:=by rcases A with rfl|rfl<;>decide
     have n4:m≠9088448704:=by rcases A with rfl|rfl<;>decide
     have n5:m≠9088640704:=by rcases A with rfl|rfl<;>decide
     have n6:m≠9088704448:=by rcases A with rfl|rfl<;>decide
     refine tB (A:=[[.int .i64 (e:Nat)],[.int .i64 ((e+1)%I f:Nat)]]) (am.of_eq (by simp only[go_sem])) (by simp only[eO,bj,if_true];rfl) (.inl rfl) (by simp only[HT,RJ,dE,eR];omega) λab bp r w a3 ba hw=>?_;have q0:=ba 9088000000 U U;have q9:=ba 9088064192 U U;have aY:=ba 9088448640 U U;have a2:=ba 9088448704 U U;have a0:=ba 9088704512 U U;have w7:=ba m n1 n1;simp only[go_sem,b0,B,n3,n4,n5]at q0 q9 aY a2 a0 w7;have a9:=ar.of_eq a0;have a8:=ag.of_eq w7;simp only[go_sem,H,v,D,x,q0,q9,R,aL,ug,agb,c4 pl];refine⟨?_,?_⟩
     .rcases hw with⟨rfl,rfl⟩|⟨rfl,rfl⟩|⟨rfl,rfl⟩<;>kernel_rfl
     refine tB (A:=[[.int .i64 (zB f e)]]) (a9.of_eq (bo U)) (by simp only[eO,bj,if_true];rfl) (.inl rfl) (by simp[nq];omega) λY aV r2 w2 Sx bc iL=>?_;have Sw:=a3.of_eq ((bc 9088640768 U U).trans (bo U));have p0:=bc 9088000000 U U;have p9:=bc 9088064192 U U;have jD:=bc 9088448640 U U;have wW:=bc 9088448704 U U;have JD:=bc m n2 n2;simp only[go_sem,q0,q9,aY,a2,n6]at p0 p9 jD wW JD;have HV:=a8.of_eq JD;have Q:aS (qi f (E.take (j+1)))=aS (qi f (E.take j))++[[.int .i64 (e:Nat)],[.int .i64 ((e+1)%I f:Nat)]]:=by rw[jN,he,qi,qi];simp
     have T:dz (nq f (E.take (j+1)))=dz (nq f (E.take j))++[[.int .i64 (zB f e)]]:=by rw[jN,he,nq,nq];simp
     have M:i_ f (E.take (j+1))=fZ (fZ (i_ f (E.take j)) (aR f e).id) (aR f (bt f e)).id:=by rw[jN,he];simp[i_,yq,uF]
     have LZ:∀i,i<j+1->u_ f E i:=λi hi=>by
      rcases jG.1 hi with h|rfl
      .exact ay i h
      rw[X];rfl
     simp only[go_sem,H,v,z,x,p0,p9,jD,wW];refine⟨?_,?_⟩
     .rcases iL with⟨rfl,rfl⟩|⟨rfl,rfl⟩|⟨rfl,rfl⟩<;>kernel_rfl
     have m0:9088000000≠m:=by rcases A with rfl|rfl<;>decide
     have m9:9088064192≠m:=by rcases A with rfl|rfl<;>decide
     have m3:m≠9088832192:=by rcases A with rfl|rfl<;>decide
     have m4:m≠9088960192:=by rcases A with rfl|rfl<;>decide
     have a6:9088448640≠m:=n3.symm;have a4:9088448704≠m:=n4.symm;have DF:=Dt (i_ f (E.take j)) (aR f e).id (by have:=ES (f:=f) (E.take j);omega);obtain⟨bf,aE,_⟩:=HV.DP;cases hx:decide ((aR f e).id∈i_ f (E.take j))with
     |true=>
      rw[hx]at DF;simp only[go_sem,H,v,z,x,p0,p9,jD,wW,aE,pI,ai DF];have Ig:fZ (i_ f (E.take j)) (aR f e).id=i_ f (E.take j):=by rw[fZ,aM (mX hx)]
      have y:=Dt (i_ f (E.take j)) (aR f (bt f e)).id (by have:=ES (f:=f) (E.take j);omega);obtain⟨a1,u,_⟩:=HV.DP;cases N:decide ((aR f (bt f e)).id∈i_ f (E.take j))with
      |true=>
       rw[N]at y;have hI:i_ f (E.take (j+1))=i_ f (E.take j):=by rw[M,Ig,fZ,aM (mX N)]
       simp only[go_sem,H,v,x,z,p0,p9,jD,wW,u,pI,ai y,w1,R];exact⟨LZ,ab,Z,Y,m,rfl,rfl,rfl,A,by rw[Q];exact Sw,by rw[hI];exact HV,by rw[T];exact Sx⟩
      |false=>
       rw[N]at y;have hI:dz (i_ f (E.take (j+1)))=dz (i_ f (E.take j))++[[.int .i64 (aR f (bt f e)).id]]:=by rw[M,Ig,fZ,aD (fJ N)];simp
       simp only[go_sem,H,v,x,z,p0,p9,jD,wW,u,pI,ai y];refine iR (A:=[[.int .i64 (aR f (bt f e)).id]]) (HV.of_eq (bo (m4))) (by simp only[eO,bj,if_true];rfl) (.inl rfl) (by have:=ES (f:=f) (E.take j);simp only[mD,ep,dE,eR];omega) λER bd ge zn=>?_;have z0:=zn 9088000000 U m0;have z9:=zn 9088064192 U m9;simp only[go_sem,p0,p9]at z0 z9;have Sz:=Sw.of_eq ((zn 9088640768 U n1.symm).trans (bo U));have SA:=Sx.of_eq ((zn 9088704512 U n2.symm).trans (bo U));simp only[go_sem,H,v,x,z0,z9,w1,R];exact⟨LZ,ab,ER,Y,9088960256,rfl,rfl,rfl,.inr rfl,by rw[Q];exact Sz,by rw[hI];exact ge,by rw[T];exact SA⟩
     |false=>
      rw[hx]at DF;simp only[go_sem,H,v,z,x,p0,p9,jD,wW,aE,pI,ai DF];have Ig:fZ (i_ f (E.take j)) (aR f e).id=i_ f (E.take j)++[(aR f e).id]:=by rw[fZ,aD (fJ hx)]
      refine iR (A:=[[.int .i64 (aR f e).id]]) (HV.of_eq (bo m3)) (by simp only[eO,bj,if_true];rfl) (.inl rfl) (by have:=ES (f:=f) (E.take j);simp only[mD,dE,eR];omega) λad a5 ga Fm=>?_;have y0:=Fm 9088000000 U m0;have y9:=Fm 9088064192 U m9;have ak:=Fm 9088448640 U a6;have ap:=Fm 9088448704 U a4;simp only[go_sem,p0,p9,jD,wW]at y0 y9 ak ap;have Yh:=Sw.of_eq ((Fm 9088640768 U n1.symm).trans (bo U));have Yi:=Sx.of_eq ((Fm 9088704512 U n2.symm).trans (bo U));have az:aW 9088832256 3 1 (dz (i_ f (E.take j)++[(aR f e).id])) (.one ad) a5:=by rw[dz,q_];exact ga
      have y:=Dt (i_ f (E.take j)++[(aR f e).id]) (aR f (bt f e)).id (by have:=ES (f:=f) (E.take j);simp only[ep,dE,eR];omega);obtain⟨a1,u,_⟩:=az.DP;cases N:decide ((aR f (bt f e)).id∈i_ f (E.take j)++[(aR f e).id])with
      |true=>
       rw[N]at y;have hI:i_ f (E.take (j+1))=i_ f (E.take j)++[(aR f e).id]:=by rw[M,Ig,fZ,aM (mX N)]
       simp only[go_sem,H,v,x,y0,y9,ak,ap,u,pI,ai y,w1,R];exact⟨LZ,ab,ad,Y,9088832256,rfl,rfl,rfl,.inl rfl,by rw[Q];exact Yh,by rw[hI];exact az,by rw[T];exact Yi⟩
      |false=>
       rw[N]at y;have hI:dz (i_ f (E.take (j+1)))=dz (i_ f (E.take j)++[(aR f e).id])++[[.int .i64 (aR f (bt f e)).id]]:=by rw[M,Ig,fZ,aD (fJ N)];simp
       simp only[go_sem,H,v,x,y0,y9,ak,ap,u,pI,ai y];refine iR (A:=[[.int .i64 (aR f (bt f e)).id]]) (az.of_eq (bo U)) (by simp only[eO,bj,if_true];rfl) (.inl rfl) (by have:=ES (f:=f) (E.take j);simp only[mD,ep,dE,eR];omega) λER bd ge zn=>?_;have z0:=zn 9088000000 U U;have z9:=zn 9088064192 U U;simp only[go_sem,y0,y9]at z0 z9;have Sz:=Yh.of_eq ((zn 9088640768 U U).trans (bo U));have SA:=Yi.of_eq ((zn 9088704512 U U).trans (bo U));simp only[go_sem,H,v,x,z0,z9,w1,R];exact⟨LZ,ab,ER,Y,9088960256,rfl,rfl,rfl,.inr rfl,by rw[Q];exact Sz,by rw[hI];exact ge,by rw[T];exact SA⟩
 have:j=3:=J;subst this;have ht:E.take 3=E:=by rw[<-hE];rfl
 rw[ht]at am ag ar;have di:(List.range (I E)).all (u_ f E):=by rw[gL];intro i hi;exact ay i (by have:=f_.1 hi;omega)
 have a7:yh F f E=(((I (i_ f E):Int)==3)&&(decide ((2:Int)∈nq f E)&&(decide ((0:Int)∈nq f E)&&qK F f 0 E))):=by unfold yh;rw[di,Bx];rfl
 rw[a7];have tV:¬(((3:Nat):Int)<3):=U;have y:=Dt (nq f E) 2 (by simp[nq];omega);have O:=Dt (nq f E) 0 (by simp[nq];omega);obtain⟨bk,Nd,_⟩:=ar.DP;have L:3<=I E:=J;have Dh:List.take 3 (aS E)=aS E:=eW (by rw[HT];omega);rcases ag with⟨ER,q⟩|⟨_,gg,q,bb⟩
 .cases q;have e0:i_ f E=[]:=by simpa using ER
  rw[e0];simp only[go_sem,vB,Ck,H,v,cb,z,D,x,b0,B,tV,show((((0:Nat):Int))==3)=false from rfl];try rfl
 cases q;cases q1:((I (i_ f E):Int)==3)with
 |false=>simp only[go_sem,vB,Ck,H,v,cb,z,D,x,b0,B,tV,mD,Nd,Dh,L,q1];try rfl
 |true=>
  cases q2:decide ((2:Int)∈nq f E)with
  |false=>rw[q2]at y;simp only[go_sem,vB,Ck,H,v,cb,z,D,x,b0,B,tV,mD,Nd,Dh,L,q1,pI,ai y];try rfl
  |true=>
   rw[q2]at y;cases q3:decide ((0:Int)∈nq f E)with
   |false=>rw[q3]at O;simp only[go_sem,vB,Ck,H,v,cb,z,D,x,b0,B,tV,mD,Nd,Dh,L,q1,pI,ai y,ai O];try rfl
   |true=>rw[q3]at O;simp only[go_sem,vB,Ck,H,v,cb,z,D,x,b0,B,tV,mD,Nd,Dh,L,q1,pI,ai y,ai O,F5,ai po];try rfl
end
def Mi{α:Type}(l:List α)(i j:Nat):I (lp l i j)=I l:=by unfold lp;split<;>simp
def Tu:∀(L M:cS),L.Nodup->(∀x∈L,x∈M)->I L<=I M:=by
 intro L
 induction L with
 |nil=>intro M _ _;exact bC _
 |cons a L f=>intro M m aa;obtain⟨j,g⟩:=n9.1 m;have h:=aa a aG;have:=f (M.erase a) g λx H=>(U6 (by rintro rfl;exact j H)).2 (aa x (by simp[H]));rw[SD h]at this;have:0<I M:=Md h;simp only[dE];omega
def acu:∀l:cS,(j7 l).Nodup:=by
 intro l
 induction l with
 |nil=>exact um
 |cons a l f=>
  unfold j7;split
  .exact f
  rename_i h;exact n9.2 ⟨λH=>h (FP.1 H),f⟩
def amw{l:cS}:I (j7 l)=I l↔l.Nodup:=by
 induction l with
 |nil=>simp[j7]
 |cons a l f=>
  have H:I (j7 l)<=I l:=Tu _ _ (acu l) λx g=>FP.1 g;unfold j7;rw[n9];split
  .rename_i h;constructor
   .intro e;simp only[dE]at e;omega
   intro e;exact absurd h e.1
  rename_i h;simp only[dE];rw[<-f];exact⟨λe=>⟨h,J⟩,λe=>J⟩
def aaM{l:cS}{x:Int}(h:l.Nodup):(fZ l x).Nodup:=by
 unfold fZ;split
 .exact h
 rename_i g;rw[xh];exact⟨h,aG,λa f b H e=>g (by simp at H;subst H;subst e;exact f)⟩
def acj{l:cS}{x y:Int}:y∈fZ l x↔y∈l\/y=x:=by
 unfold fZ;split
 .rename_i H;exact⟨.inl,λh=>h.elim id λe=>e▸H⟩
 simp
section
variable {F:Nat} {f:aI}
def apf{l:cS}(h:l.Nodup)(e:Nat):(uF f l e).Nodup:=aaM (aaM h)
def aeY(E:aA):∀l:cS,l.Nodup->(E.foldl (uF f) l).Nodup/\ ∀y,y∈E.foldl (uF f) l↔y∈l\/y∈E.flatMap λe:Nat=>[(aR f e).id,(aR f (bt f e)).id]:=by
 induction E with
 |nil=>intro l h;exact⟨h,λy=>aG⟩
 |cons e E g=>
  intro l h;obtain⟨j,H⟩:=g (uF f l e) (apf h e);refine⟨j,λy=>?_⟩;rw[qG,H];unfold uF;rw[acj,acj,xn,fB];simp only[dL,mV,or_false];constructor
  .rintro (((h|h)|h)|h)
   .exact .inl h
   .exact .inr (.inl (.inl h))
   .exact .inr (.inl (.inr h))
   exact .inr (.inr h)
  rintro(h|(h|h)|h)
  .exact .inl (.inl (.inl h))
  .exact .inl (.inl (.inr h))
  .exact .inl (.inr h)
  exact .inr h
def anB(E:aA):I (j7 (qu f E))=I (i_ f E):=by
 obtain⟨j,g⟩:=aeY (f:=f) E [] um;have H:∀y,y∈j7 (qu f E)↔y∈i_ f E:=λy=>by rw[FP];unfold i_;rw[g];unfold qu;simp only[kJ,mV,false_or]
 have a:=Tu _ _ (acu _) λx h=>(H x).1 h;have b:=Tu _ _ j λx h=>(H x).2 h;exact Nat.le_antisymm a b
def DD{e:Nat}(h:mK f e):iz f e true=(zB f e==2)/\iz f e false=(zB f e==0):=by rw[SX,SX,h];unfold zB;cases(aR f e).over<;>cases(aR f (bt f e)).over<;>exact⟨rfl,rfl⟩
def Xo(e:Nat):tA f e=mK f e:=by unfold tA mK;rw[kJ,kJ]
def ahe(g:ch F f){a b c:Nat}(n:a<I f)(v:b<I f)(x:c<I f):Ch F f a b c=yh F f [a,b,c]:=by
 have N:=g.F2 n;have A:=g.F2 v;have M:=g.F2 x;unfold Ch yh;rw[SS rfl n,anB];have u:(I (j7 (od f [a,b,c]))==6)=decide ((od f [a,b,c]).Nodup):=by rw[kS];simp only[c6,fH];rw[<-amw];unfold od;simp
 rw[u];have D:(List.range [a,b,c].length).all (u_ f [a,b,c])=([a,b,c].all (tA f)&&decide ((od f [a,b,c]).Nodup)):=by
  have:List.range [a,b,c].length=[0,1,2]:=rfl;rw[this];unfold u_ qi od;simp only[oQ,qF,List.getElem?_cons_zero,List.getElem?_cons_succ,M_,Mn,xn,List.flatMap_nil,Ei,tz,Xo];rw[kS];simp only[cq,hY,decide_eq_false_iff_not,fH,dL,mV,or_false,n9,not_or,not_false_eq_true,um,and_true];constructor
  .rintro ⟨H,⟨j,z,L⟩,m,B,O⟩
   refine⟨⟨H,j,m⟩,?_⟩;omega
  rintro⟨⟨H,j,m⟩,h⟩
  refine⟨H,⟨j,?_,?_⟩,m,?_,?_⟩<;>omega
 rw[D];cases H:[a,b,c].all (tA f)with
 |false=>rfl
 |true=>
  simp only[oQ,qF,tk,cq,Xo]at H;obtain⟨q,r,Q⟩:=H;have E:([a,b,c].any (iz f · true))=decide ((2:Int)∈nq f [a,b,c]):=by rw[kS];unfold nq;simp only[Nq,LJ,JK,(DD q).1,(DD r).1,(DD Q).1,jC,c6,fH,ew,jn,dL,mV,or_false];omega
  have y:([a,b,c].any (iz f · false))=decide ((0:Int)∈nq f [a,b,c]):=by rw[kS];unfold nq;simp only[Nq,LJ,JK,(DD q).2,(DD r).2,(DD Q).2,jC,c6,fH,ew,jn,dL,mV,or_false];omega
  rw[E,y];simp only[tI]
def Hz(g:ch F f){l:cO}(hl:I l=I f){e:Nat}(H:e<I f):tL f l e=lp l e (bt f e):=by have j:=g.wS e;obtain⟨p,hp⟩:=bq (h:=l) (k:=e) J;obtain⟨q,h⟩:=bq (h:=l) (k:=bt f e) J;unfold tL lp;rw[hp,h];simp only[dT,hp,h,jV]
def aeK(g:ch F f){a b c:Nat}(H:a<I f)(j:b<I f)(m:c<I f):
  (uL F f a b c).isSome=yh F f [a,b,c]/\
  ∀L,uL F f a b c=some L->eB L (lp (lp (lp f a (bt f a)) b (bt f b)) c (bt f c)) (lp (lp (lp (tO f) a (bt f a)) b (bt f b)) c (bt f c)):=by
 unfold uL;rw[ahe g H j m];refine⟨by split<;>simp_all,λL h=>?_⟩;split at h
 .cases h;unfold mJ;simp only[qG,Hu];rw[Hz g (bR f) H,Hz g (by rw[Mi,bR]) j,Hz g (by rw[Mi,Mi,bR]) m];exact(((eB.base f).sw _ _).sw _ _).sw _ _
 cases h
def ID(g A E:Int)(p:aZ):(lk g A E p).l=rS g A (-E) p.l/\(lk g A E p).d=p.d/\(lk g A E p).l.kind=p.l.kind:=by
 unfold lk rS;split
 .exact⟨by simp only[Int.sub_neg],rfl,rfl⟩
 exact⟨rfl,rfl,rfl⟩
def aex(g:ch F f){a:Nat}(j:a<I f):
  (BK F f a).isSome=(((aR f a).kind==1)&&(decide ((aR f a).gate<(F:Int))&&((aR f a).aK==((aF (jh (aR f a).gate) f:Nat):Int))))/\
  ∀L,BK F f a=some L->eB L ((f.map (rS ((aR f a).gate+1) 0 (-1))).set a {rS ((aR f a).gate+1) 0 (-1) (aR f a)with gate:=(aR f a).gate+1,aK:=1}) (tO f):=by
 have m:=iX j;have z:(aR f a).kind=1->dY f (aR f a).gate.toNat=aF (jh (aR f a).gate) f:=λh=>by have:=(g.CH m (yW h)).g0;exact DV λl _=>by rw[Bb _ this]
 unfold BK;rw[kJ];refine⟨?_,λL H=>?_⟩
 .cases h:((aR f a).kind==1)with
  |false=>rfl
  |true=>rw[z (eq_of_beq h)];split<;>simp_all
 split at H
 .cases H;have hp:(eu (a_ f) ((aR f a).gate+1) 0 1)[a]?=some (lk ((aR f a).gate+1) 0 1 (aQ f a)):=by
   unfold eu;rw[gZ,Nh j];rfl
  have n:eB (eu (a_ f) ((aR f a).gate+1) 0 1) (f.map (rS ((aR f a).gate+1) 0 (-1))) (tO f):=(eB.base f).map λp _=>ID _ _ _ p;unfold vT;rw[dT,hp,jV];have:=n.set hp (q:={lk ((aR f a).gate+1) 0 1 (aQ f a)with l:={(lk ((aR f a).gate+1) 0 1 (aQ f a)).l with gate:=(aR f a).gate+1,aK:=1}}) rfl rfl;have e:({(lk ((aR f a).gate+1) 0 1 (aQ f a)).l with gate:=(aR f a).gate+1,aK:=1}:af)={rS ((aR f a).gate+1) 0 (-1) (aR f a)with gate:=(aR f a).gate+1,aK:=1}:=by rw[(ID ((aR f a).gate+1) 0 1 (aQ f a)).1,kJ]
  rw[<-e];exact this
 cases H
def aj5(g:ch F f){a:Nat}(H:a<I f):
  (AD f a).isSome=(((aR f a).kind==1)&&(decide (0<(aR f a).gate)&&((aR f a).aK==1)))/\
  ∀L,AD f a=some L->eB L ((f.set a {aR f a with gate:=(aR f a).gate-1,aK:=((aF (jh ((aR f a).gate-1)) f:Nat):Int)+1}).map (rS (aR f a).gate 1 1)) (tO f):=by
 have u:=iX H;unfold AD;rw[kJ];refine⟨by split<;>simp_all,λL h=>?_⟩;split at h
 .rename_i j;cases h;simp only[cq,c6,fH]at j;obtain⟨r,v,m⟩:=j;have z:dY f ((aR f a).gate-1).toNat=aF (jh ((aR f a).gate-1)) f:=DV λl _=>by rw[Bb _ J]
  have hp:(eu (a_ f) (aR f a).gate 1 (-1))[a]?=some (lk (aR f a).gate 1 (-1) (aQ f a)):=by unfold eu;rw[gZ,Nh H];rfl
  have D:lk (aR f a).gate 1 (-1) (aQ f a)=aQ f a:=by unfold lk;rw[kJ,m];simp
  have n:eB (eu (a_ f) (aR f a).gate 1 (-1)) (f.map (rS (aR f a).gate 1 1)) (tO f):=(eB.base f).map λp _=>ID _ _ _ p;rw[D]at hp;have:=n.set hp (q:={aQ f a with l:={(aQ f a).l with gate:=(aR f a).gate-1,aK:=((dY f ((aR f a).gate-1).toNat+1:Nat):Int)}}) rfl rfl;unfold vT;rw[dT,hp,jV,tK];have e:rS (aR f a).gate 1 1 {aR f a with gate:=(aR f a).gate-1,aK:=((aF (jh ((aR f a).gate-1)) f:Nat):Int)+1}={aR f a with gate:=(aR f a).gate-1,aK:=((aF (jh ((aR f a).gate-1)) f:Nat):Int)+1}:=by
   unfold rS;have:((aR f a).gate-1==(aR f a).gate)=false:=by rw[pQ];omega
   simp only[this,Bool.false_and,Bool.and_false,ib,if_false]
  rw[e];simp only[kJ]at this |-;rw[z]at this |-;exact this
 cases h
end
def sE(F:Nat)(f:aI)(a b:Nat)(l:Bool):Bool:=decide (2*b∈(cK F f (if l then 2*a else 2*a+1)).aT)==l
def ml(f l o:Bool):Int:=let s:Int:=if f !=l then -1 else 1;if o then s else -s
def ta(f:aI):Int:=((aF af.aJ f/2:Nat):Int)
def Eb(c s:Int)(o:Bool):af:=⟨2,0,0,c+1,s,o⟩
def EF(c s:Int)(o:Bool):af:=⟨2,0,0,c+2,-s,o⟩
def Uf{α:Type}(L:List α)(a:Nat)(x:List α)(b:Nat)(u:List α):List α:=if b<a then r9 (r9 L x a) u b else r9 (r9 L u b) x a
def RB(F:Nat)(f:aI)(a b:Nat)(l o:Bool):aI:=
 Uf f a [Eb (ta f) (ml (sE F f a b l) l o) o,EF (ta f) (ml (sE F f a b l) l o) o] b
  (if sE F f a b l then [EF (ta f) (ml (sE F f a b l) l o) !o,Eb (ta f) (ml (sE F f a b l) l o) !o]else [Eb (ta f) (ml (sE F f a b l) l o) !o,EF (ta f) (ml (sE F f a b l) l o) !o])
def U9(f:aI)(a b:Nat):eo:=Uf (tO f) a [false,true] b [false,true]
section
variable {F:Nat} {f:aI}
def H0{d e:Nat}(H:d<2*I f)(m:e<2*I f):ki F f d=ki F f e↔d∈(cK F f e).aT:=by
 obtain⟨i,i1,i2,i3⟩:=wP (F:=F) H;obtain⟨j,g,r,q⟩:=wP (F:=F) m;have n:ki F f d=i:=by show(gK F f).getD d 0=i;rw[dT,i3];rfl
 have E:ki F f e=j:=by show(gK F f).getD e 0=j;rw[dT,q];rfl
 rw[n,E];constructor
 .rintro rfl
  rw[i1]at g;rw[<-xH g];exact i2
 intro h;exact M4 i1 g i2 h
def ahK(g:ch F f){m:cM}(n:m∈cZ F f){e:Nat}(H:2*e∈m.aT)(h:2*e+1∈m.aT):False:=by
 obtain⟨w,j,rfl⟩:=eJ.1 n;rw[yB]at H h;obtain⟨A,q⟩:=tx.1 H;obtain⟨B,_⟩:=tx.1 h;have:2*e<2*I f:=by simpa using q
 exact ajY g (x:=2*e) (by unfold bH;omega) j A (by rw[tq];exact B)
def TF(g:ch F f){a b:Nat}(n:a≠b)(l o j O:Bool)(aa:sE F f a b l=j):
  ∀L,gJ f a b l o j O=some L->eB L (RB F f a b l o) (U9 f a b):=by
 intro L H;unfold gJ at H;split at H
 .cases H
 simp only[fu]at H;have m:(if o==(j==l)then 1 else -1:Int)=ml (sE F f a b l) l o:=by rw[aa];unfold ml;cases o<;>cases j<;>cases l<;>rfl
 rw[m]at H;subst H;have r1:eB (oN (aF af.aJ f/2) (ml (sE F f a b l) l o) o) [Eb (ta f) (ml (sE F f a b l) l o) o,EF (ta f) (ml (sE F f a b l) l o) o] [false,true]:=eB.two (p:=qe (aF af.aJ f/2) 1 (ml (sE F f a b l) l o) o) (q:=qe (aF af.aJ f/2) 2 (-(ml (sE F f a b l) l o)) o) (by intro h;cases h) (by intro h;cases h)
 have r:eB (mC (aF af.aJ f/2) (ml (sE F f a b l) l o) o j) (if sE F f a b l then [EF (ta f) (ml (sE F f a b l) l o) !o,Eb (ta f) (ml (sE F f a b l) l o) !o]else [Eb (ta f) (ml (sE F f a b l) l o) !o,EF (ta f) (ml (sE F f a b l) l o) !o]) [false,true]:=by
  rw[aa];unfold mC;cases j with
  |true=>simp only[if_true];exact eB.two (p:=qe (aF af.aJ f/2) 2 (-(ml true l o)) (!o)) (q:=qe (aF af.aJ f/2) 1 (ml true l o) (!o)) (by intro h;cases h) (by intro h;cases h)
  |false=>simp only[ib,if_false];exact eB.two (p:=qe (aF af.aJ f/2) 1 (ml false l o) (!o)) (q:=qe (aF af.aJ f/2) 2 (-(ml false l o)) (!o)) (by intro h;cases h) (by intro h;cases h)
 unfold RB U9 Uf;by_cases c:a<b
 .rw[aM c,aD (show¬b<a by omega),aD (show¬b<a by omega)];exact((eB.base f).ins r b).ins r1 a
 rw[aD c,aM (show b<a by omega),aM (show b<a by omega)];exact((eB.base f).ins r1 a).ins r b
def amL(a b:Nat):((a:Int)==(b:Int))=decide (a=b):=by rw[kS];simp only[c6,fH];omega
def afo(g:ch F f){a b:Nat}(x:a<I f)(v:b<I f)(r:a≠b)(l o:Bool):
  (Ax F f a b l o).isSome=(decide (2*b∈(cK F f (if l then 2*a else 2*a+1)).aT)||decide (2*b+1∈(cK F f (if l then 2*a else 2*a+1)).aT))/\
  ∀L,Ax F f a b l o=some L->eB L (RB F f a b l o) (U9 f a b):=by
 have m:∀j O,(gJ f a b l o j O).isSome=(j||O):=λj O=>by unfold gJ;cases j<;>cases O<;>rfl
 unfold Ax;simp only[amL];cases l with
 |true=>
  have E:decide (ki F f (2*b)=ki F f (2*a))=decide (2*b∈(cK F f (2*a)).aT):=by rw[kS];simp only[fH];exact H0 J J
  have u:decide (ki F f (2*b+1)=ki F f (2*a))=decide (2*b+1∈(cK F f (2*a)).aT):=by rw[kS];simp only[fH];exact H0 J J
  simp only[if_true];rw[E,u];refine⟨m _ _,TF g r true o _ _ ?_⟩;unfold sE;simp only[if_true];cases decide (2*b∈(cK F f (2*a)).aT)<;>rfl
 |false=>
  have E:decide (ki F f (2*b+1)=ki F f (2*a+1))=decide (2*b+1∈(cK F f (2*a+1)).aT):=by rw[kS];simp only[fH];exact H0 J J
  have u:decide (ki F f (2*b)=ki F f (2*a+1))=decide (2*b∈(cK F f (2*a+1)).aT):=by rw[kS];simp only[fH];exact H0 J J
  simp only[ib,if_false];rw[E,u];refine⟨by rw[m,Bool.or_comm],λL H=>?_⟩;by_cases q:2*b∈(cK F f (2*a+1)).aT
  .have n:2*b+1∉(cK F f (2*a+1)).aT:=λh=>ahK g (CV J) q h;refine TF g r false o _ _ ?_ L H;unfold sE;simp only[ib,if_false];simp[q,n]
  by_cases n:2*b+1∈(cK F f (2*a+1)).aT
  .refine TF g r false o _ _ ?_ L H;unfold sE;simp only[ib,if_false];simp[q,n]
  have:=m (decide (2*b+1∈(cK F f (2*a+1)).aT)) (decide (2*b∈(cK F f (2*a+1)).aT));rw[H]at this;simp[q,n]at this
end
section
variable {F:Nat} {f:aI}
def abJ:∀(w:aA) (g:cM),I g.places<=(w.foldl (cM.add F f) g).places.length/\ ∀x∈w,2*I f<=x->I (pN F f ((x-2*I f)/2))<=(w.foldl (cM.add F f) g).places.length:=by
 intro w
 induction w with
 |nil=>intro g;exact⟨cH _,λx q=>nomatch q⟩
 |cons x w j=>
  intro g;rw[qG];obtain⟨H,m⟩:=j (cM.add F f g x);have n:I g.places<=(cM.add F f g x).places.length:=by
   unfold cM.add;split
   .exact cH _
   simp only[ep];omega
  refine⟨jO n H,λy h hl=>?_⟩;rcases dL.1 h with rfl|h
  .refine jO ?_ H;unfold cM.add;rw[aD J];simp only[ep];split<;>(try rw[j5])<;>omega
  exact m y h hl
def amt(ok:gC F f){l:af}(hl:f[v]?=some l)(hp:l.aN)(g:Bool):∃k,k<I (aH f)/\
  ((bZ f (kU (I f) v g)=2*I f+2*k/\(aH f).getD k 0=v)\/(bZ f (kU (I f) v g)=2*I f+2*k+1/\(aH f).getD ((k+1)%I (aH f)) 0=v)):=by
 obtain⟨H,h⟩:=T6 ok hl hp;rw[Sd hl hp];by_cases c:(dP f v==g)
 .rw[aM c];exact⟨(aH f).idxOf v,H,.inl ⟨rfl,h⟩⟩
 rw[aD c];refine⟨((aH f).idxOf v+I (aH f)-1)%I (aH f),fO _ J,.inr ⟨rfl,?_⟩⟩;rw[A4 H,h]
def aj8(ok:gC F f){k u:Nat}(L:k+1<I (aH f))(n:(aH f).getD k 0=u)(y:(aH f).getD (k+1) 0=v){l m:af}(hl:f[u]?=some l)(r:f[v]?=some m)
  (D:l.aN) (B:m.aN) (O:m.gate<=l.gate):l.gate=m.gate/\m.aK=l.aK+1:=by
 obtain⟨R,H⟩:=bq (h:=aH f) (k:=k) J;obtain⟨N,h⟩:=bq L;rw[dT,H,jV]at n;rw[dT,h,jV]at y;subst n y;obtain⟨T,E,_,z⟩:=Bz ok.ax H;obtain⟨Q,x,_,M⟩:=Bz ok.ax h;rw[hl]at E;cases E;rw[r]at x;cases x;have j:=ok.ax.good l (bY hl) D;have q:=ok.ax.good m (bY r) B;have A:=(adD j q).2 J;unfold yF at A;simp only[jC,cq,fH,c6]at A;have g:l.gate=m.gate:=J;refine⟨g,?_⟩;unfold ei at z M;rw[g]at z;have:=j.r0;have:=q.r0;omega
end
def yt(b c:Nat)(i:Int):af:=⟨1,b,(c:Int)+i,0,0,false⟩
def abE(F:Nat)(f:aI)(a b c:Nat):Bool:=decide ((b,c)∈(cK F f (2*a)).places)
def Wf(F:Nat)(f:aI)(a b c:Nat):aI:=r9 (f.map (rS b c (-2))) (if abE F f a b c != !dP f (a+1)then [yt b c 2,yt b c 1]else [yt b c 1,yt b c 2]) a
def Zp(f:aI)(a:Nat):eo:=r9 (tO f) [dP f (a+1),!dP f (a+1)] a
section
variable {F:Nat} {f:aI}
def w6(f:aI)(x:Nat):Bool:=decide (2*I f<=x)
def asG(f:aI)(x:Nat):Bool:=if 2*I f<=x then x%2==1 else match f[lH f x]? with|some l=>l.aN&&(dP f (lH f x)==(x%2==0))|none=>false
def asJ(x:Nat):w6 f (dW x)=w6 f x:=by unfold w6 dW;rw[kS];simp only[fH];split<;>omega
def asI{l:af}(hl:f[v]?=some l)(F:Bool):asG f (kU (I f) v F)=(l.aN&&(dP f v==F)):=by
 have h:=(ct.1 hl).1;have A:=UR h F;unfold asG;rw[Ah h,hl,aD J];have:(kU (I f) v F%2==0)=F:=by unfold kU;cases F<;>simp
 rw[this]
def asM(ok:gC F f)(n:x<bH f):asG f (dW (bZ f x))=(asG f x !=w6 f x):=by
 unfold bH at n;rcases DE x (2*I f)with c|c
 .have H:w6 f x=false:=by unfold w6;simp;omega
  rw[H];have j:(if x%2=0 then(x/2+1)%I f else x/2)<I f:=by have:=fO (x/2+1) (show 0<I f by omega);split<;>omega
  rw[ON c];generalize(if x%2=0 then(x/2+1)%I f else x/2)=v at j;generalize(x%2==0)=fw;obtain⟨l,hl⟩:=bq j;rw[asI hl];rcases ok.kinds l (bY hl)with hp|h
  .obtain⟨u,A⟩:=T6 ok hl hp;rw[Sd hl hp,hp];by_cases d:(dP f v==fw)
   .rw[aM d,d,show 2*I f+2*(aH f).idxOf v=2*(I f+(aH f).idxOf v) by omega,tq];unfold asG;rw[aM J];have:(2*(I f+(aH f).idxOf v)+1)%2=1:=J;rw[this];rfl
   rw[aD d,Bool.eq_false_iff.2 d,show 2*I f+2*(((aH f).idxOf v+I (aH f)-1)%I (aH f))+1=2*(I f+((aH f).idxOf v+I (aH f)-1)%I (aH f))+1 by omega,AF];unfold asG;rw[aM J];have:(2*(I f+((aH f).idxOf v+I (aH f)-1)%I (aH f)))%2=0:=J;rw[this];rfl
  obtain⟨u,m,q,M,B,z,y⟩:=MS ok.cr hl h;have hp:l.aN=false:=by cases hp:l.aN;rfl;rw[AQ hp]at h;cases h
  have r:m.aN=false:=by cases hp:m.aN;rfl;rw[AQ hp]at M;cases M
  rw[Ml hl h,D7,asI q,hp,r];rfl
 have H:w6 f x:=by unfold w6;simpa using c
 rw[H];rcases Bs x with d|d
 .have g:=fO ((x-2*I f)/2+1) (show 0<I (aH f) by omega);obtain⟨l,hl,hp⟩:=N9 g;have e:asG f x=false:=by unfold asG;rw[aM c,d];rfl
  rw[e,show x=2*I f+2*((x-2*I f)/2) by omega,OY,D7,Bool.not_not];rw[asI hl,hp];simp
 have g:(x-2*I f)/2<I (aH f):=J;obtain⟨l,hl,hp⟩:=N9 g;have e:asG f x:=by unfold asG;rw[aM c,d];rfl
 rw[e,show x=2*I f+2*((x-2*I f)/2)+1 by omega,O_,D7];rw[asI hl,hp];cases dP f ((aH f).getD ((x-2*I f)/2) 0)<;>rfl
abbrev asH(ls:aI):Nat->Nat->Prop:=rJ ls (w6 ls)
def asK(g:ch F f){s:Nat}(n:x<2*I f)(aa:s<2):cJ (asH f) (2*x+s) (ic (dP f (x/2+1)!=dP f 1) s):=by
 have ok:=g.ok;have m:=xy ok;have M:=LO f;have hp:=asJ (f:=f);have str:∀y,y<2*I f->w6 f y=false:=λy X=>by unfold w6;simp;omega
 have j:∀i,i<I f->∀s,s<2->cJ (asH f) (2*(2*i)+s) (ic (dP f (i+1)!=dP f 1) s):=by
  intro i
  induction i with
  |zero=>intro _ s _;simp only[ka];cases dP f 1<;>(rw[show 2*(2*0)+s=s by omega];exact .refl _)
  |succ i O=>
   intro z s aa;obtain⟨l,hl⟩:=bq z;have e:2*i=kU (I f) (i+1) true:=by unfold kU;rw[aM rfl,show i+1+I f-1=i+I f by omega,Jg,o_ J]
   have D:=ag3 ok z true;rw[<-e]at D;have H:2*i<bH f:=J;have u:=m.lt _ H;have N:dW (bZ f (2*i))<bH f:=by rw[M]at u |-;exact E5 u
   have step:∀t,t<2->cJ (asH f) (2*(2*i)+t) (2*(2*(i+1))+ic (w6 f (bZ f (2*i))) t):=λt r=>by have Q:=RH hp H r;have R:=Ux hp u r;have A:=RH hp N (s:=ic (w6 f (bZ f (2*i))) t) (A8 r);rw[D]at A;exact Q.trans (R.trans A)
   have h:=(step (ic (w6 f (bZ f (2*i))) s) (A8 aa)).symm.trans (O J (ic (w6 f (bZ f (2*i))) s) (A8 aa));rw[Gt aa,apq _ _ aa]at h;rcases ok.kinds l (bY hl)with B|q
   .have v:=(T6 ok hl B).1;have n:w6 f (bZ f (2*i)):=by
     rw[e,Sd hl B];unfold w6;simp only[fH];split<;>omega
    rw[n]at h;rw[UG hl B];have:((dP f (i+1)!=dP f 1)!=true)=((!dP f (i+1))!=dP f 1):=by cases dP f (i+1)<;>cases dP f 1<;>rfl
    rw[this]at h;exact h
   obtain⟨_,w,E,T,_,_,_⟩:=MS ok.cr hl q;have B:l.aN=false:=by cases hp:l.aN;rfl;rw[AQ hp]at q;cases q
   have n:w6 f (bZ f (2*i))=false:=by rw[e,Ml hl q];exact str _ (wK (ct.1 E).1)
   rw[n]at h;rw[Up hl B];have:((dP f (i+1)!=dP f 1)!=false)=(dP f (i+1)!=dP f 1):=by cases dP f (i+1)<;>cases dP f 1<;>rfl
   rw[this]at h;exact h
 rcases Bs x with c|c
 .have:=j (x/2) J s aa;rwa[show 2*(x/2)=x by omega]at this
 have v:=j (x/2) J s aa;have H:=Ux (f:=f) hp (x:=2*(x/2)) J aa;rw[tq,str _ J]at H;have L:ic false s=s:=rfl;rw[L,show 2*(x/2)+1=x by omega]at H;exact H.symm.trans v
def asL(g:ch F f){w:aA}(H:w∈fW (bZ f) (bH f)){y:Nat}(h:x∈w)(q:y∈w)(u:x<2*I f)(r:y<2*I f):dP f (x/2+1)=dP f (y/2+1):=by have hp:=asJ (f:=f);have j:=agD (p:=w6 f) g hp H h q (s:=0) U;have m:=asK g u (s:=0) U;have v:=asK g r (s:=0) U;have E:=m.symm.trans (j.trans v);have n:¬cJ (asH f) 0 1:=aqh g hp (c:=asG f) λx h=>asM g.ok h;revert E;cases dP f (x/2+1)<;>cases dP f (y/2+1)<;>cases dP f 1<;>intro E<;>first|rfl|exact absurd E n|exact absurd E.symm n
end
section
variable {F:Nat} {f:aI}
def aoN:∀(w:aA) (g:cM),(w.foldl (cM.add F f) g).dA=g.dA:=by
 intro w
 induction w with
 |nil=>intro g;rfl
 |cons x w h=>intro g;rw[qG,h];unfold cM.add;split<;>rfl
def aaa(g:ch F f){d:Nat}(h:d<2*I f):(cK F f d).dA=dP f (d/2+1):=by
 obtain⟨j,_,r,_⟩:=wP (F:=F) h;obtain⟨w,m,n⟩:=eJ.1 (CV (F:=F) h);rw[<-n,yB]at r;rw[<-n];have H:=(tx.1 r).1;obtain⟨⟨e,t,q,dr⟩,_,_⟩:=yS g.ok w m;unfold iP;rw[aoN];show dP f (w.headD 0/2+1)=_;have u:w.headD 0=e:=by rw[q];rfl
 rw[u];exact asL g m (by rw[q];exact uO) H dr h
def agC(g:ch F f){a b c:Nat}(u:a<I f):
  (rQ F f a b c).isSome=(decide ((b,c)∈(cK F f (2*a)).places)||decide ((b,c)∈(cK F f (2*a+1)).places))/\
  ∀L,rQ F f a b c=some L->eB L (Wf F f a b c) (Zp f a):=by
 have A:=aaa (F:=F) g (d:=2*a) J;have n:=aaa (F:=F) g (d:=2*a+1) J;rw[show 2*a/2=a by omega]at A;rw[show(2*a+1)/2=a by omega]at n;have j:eB (eu (a_ f) b c 2) (f.map (rS b c (-2))) (tO f):=(eB.base f).map λp _=>ID _ _ _ p;have R:∀d,eB [om b ((c+1:Nat):Int) d,om b ((c+2:Nat):Int) (!d)] [yt b c 1,yt b c 2] [d,!d]:=λd=>eB.two (p:=om b ((c+1:Nat):Int) d) (q:=om b ((c+2:Nat):Int) (!d)) (λ_=>rfl) (λ_=>rfl);have r:∀d,eB [om b ((c+2:Nat):Int) d,om b ((c+1:Nat):Int) (!d)] [yt b c 2,yt b c 1] [d,!d]:=λd=>eB.two (p:=om b ((c+2:Nat):Int) d) (q:=om b ((c+1:Nat):Int) (!d)) (λ_=>rfl) (λ_=>rfl);unfold rQ Wf Zp abE;by_cases m:(b,c)∈(cK F f (2*a)).places
 .rw[aM m,sN m];refine⟨aG,λL h=>?_⟩;cases h;unfold xB;rw[A];cases dP f (a+1)with
  |true=>exact j.ins (r true) a
  |false=>exact j.ins (R false) a
 rw[aD m,r3 m];by_cases H:(b,c)∈(cK F f (2*a+1)).places
 .rw[aM H,sN H];refine⟨aG,λL h=>?_⟩;cases h;unfold xB;rw[n];cases dP f (a+1)with
  |true=>exact j.ins (R true) a
  |false=>exact j.ins (r false) a
 rw[aD H,r3 H];exact⟨rfl,λL h=>by cases h⟩
end
def AI(n f k:Int):Int×Int:=if k==2 then(n+2,f)else if k==5 then(n+2,f+1)else if k==7 then(n+4,f+2)else(n,f)
def D1(w p:Bool)(n f k:Int):Int:=if w then 2 else if p then(if decide (400<(AI n f k).1)||decide (100<(AI n f k).2)then 7 else 0)else 4
def JV{k a b c:Int}{l o:Bool}{aP:Int}{w p:Bool}(hl:I f<=400)(pw:aC S 93 [eQ F f,dp k a b c l o aP] (bK w))(g:w=false->aC S 94 [eQ F f,dp k a b c l o aP] (bK p)):
  aC S 59 [eQ F f,dp k a b c l o aP] (fy (D1 w p (I f) (aF af.aJ f/2:Nat) k)):=by
 have j:=Sy (F:Int) f J;have N:aF af.aJ f<=I f:=ld _ _;have L:aF af.aJ f/2<=400:=J;generalize aF af.aJ f/2=h at*;have n:IntKind.i64.wrap ((h:Int)+1)=(h:Int)+1:=j_ J J;have r:IntKind.i64.wrap ((h:Int)+2)=(h:Int)+2:=j_ J J;have q:IntKind.i64.wrap ((I f:Int)+2)=(I f:Int)+2:=j_ J J;have m:IntKind.i64.wrap ((I f:Int)+4)=(I f:Int)+4:=j_ J J;unfold D1 AI;cases w with
 |true=>
  refine bG NX ?_;simp only[go_sem,Jx,FK,ai pw,bne,ae,ao];repeat' ((first|apply jv|apply jw|apply jA|apply ju|apply jB|apply jx)<;>intro H<;>simp only[go_sem, *,FK,ai pw,bne,ae,ao])
  all_goals(first|done|exact aw|exact⟨aw,rfl⟩|rfl)
 |false=>
  have g:=g rfl;cases p with
  |false=>
   refine bG NX ?_;simp only[go_sem,Jx,FK,ai pw,OZ,ai g,bne,ae,ao];repeat' ((first|apply jv|apply jw|apply jA|apply ju|apply jB|apply jx)<;>intro H<;>simp only[go_sem, *,FK,ai pw,OZ,ai g,bne,ae,ao])
   all_goals(first|done|exact aw|exact⟨aw,rfl⟩|rfl)
  |true=>
   refine bG NX ?_;simp only[go_sem,Jx,FK,ai pw,OZ,ai g,E8,c4 j,n,r,q,m,bne,ae,ao];refine⟨aw,?_⟩;repeat' ((first|apply jv|apply jw|apply jA|apply ju|apply jB|apply jx)<;>intro H<;>simp only[go_sem, *,n,r,q,m,bne,ae,ao])
   all_goals(first|done|exact aw|exact⟨aw,rfl⟩|rfl)
def aqa(g:ch F f){i:Nat}{c:Int}{l o:Bool}{aP:Int}(H:i<I f)(h:j<I f):aC S 94 [eQ F f,dp 3 i j c l o aP] (bK (Cg F f i j)):=by
 have ps:=asu g H h;refine bG uz ?_;simp only[go_sem,tl,Yo,ai ps,bne,ae,ao];repeat' ((first|apply jv|apply jw|apply jA|apply ju|apply jB|apply jx)<;>intro m<;>simp only[go_sem, *,Yo,ai ps,bne,ae,ao])
 all_goals(first|done|exact aw|exact⟨aw,rfl⟩|rfl)
def aoZ(g:ch F f){i:Nat}{c:Int}{l o:Bool}{aP:Int}(H:i<I f)(h:j<I f):aC S 94 [eQ F f,dp 6 i j c l o aP] (bK (AN F f i j)):=by
 have ps:=aiR g H h;refine bG uz ?_;simp only[go_sem,tl,abX,ai ps,bne,ae,ao];repeat' ((first|apply jv|apply jw|apply jA|apply ju|apply jB|apply jx)<;>intro m<;>simp only[go_sem, *,abX,ai ps,bne,ae,ao])
 all_goals(first|done|exact aw|exact⟨aw,rfl⟩|rfl)
def ao5(g:ch F f){i k:Nat}{l o:Bool}{aP:Int}(m:i<I f)(H:j<I f)(h:k<I f):aC S 94 [eQ F f,dp 8 i j k l o aP] (bK (yh F f [i,j,k])):=by
 have ps:=arR g m H h;refine bG uz ?_;simp only[go_sem,tl,WW,ai ps,bne,ae,ao];repeat' ((first|apply jv|apply jw|apply jA|apply ju|apply jB|apply jx)<;>intro n<;>simp only[go_sem, *,WW,ai ps,bne,ae,ao])
 all_goals(first|done|exact aw|exact⟨aw,rfl⟩|rfl)
def aeH{a b c:Int}{l o:Bool}{aP:Int}:aC S 94 [eQ F f,dp 5 a b c l o aP] (bK (true)):=by
 refine bG uz ?_;simp only[go_sem,tl,af.ps,bne,ae,ao];repeat' ((first|apply jv|apply jw|apply jA|apply ju|apply jB|apply jx)<;>intro h<;>simp only[go_sem, *,af.ps,bne,ae,ao])
 all_goals(first|done|exact aw|exact⟨aw,rfl⟩|rfl)
def amb(g:ch F f){i:Nat}{b c:Int}{l o:Bool}{aP:Int}(h:i<I f):aC S 94 [eQ F f,dp 4 i b c l o aP] (bK (mK f i&&((aR f i).id==(aR f (bt f i)).id))):=by
 have ps:=H7 (F:=F) h (by have:=g.len;omega);have L:S.lone 6016704192=false:=ah;have pc:=ps;generalize aR f i=X at*;generalize aR f (bt f i)=Y at*;generalize mK f i=e at*;refine bG uz ?_;simp only[go_sem,tl,zO,Dk pc L (.inl rfl),bne,ae,ao];repeat' ((first|apply jv|apply jw|apply jA|apply ju|apply jB|apply jx)<;>intro H<;>simp only[go_sem, *,zO,Dk pc L (.inl rfl),bne,ae,ao])
 all_goals(first|done|exact aw|exact⟨aw,rfl⟩|rfl)
def aml(g:ch F f){i:Nat}{c:Int}{l o:Bool}{aP:Int}(v:i<I f)(A:j<I f):aC S 94 [eQ F f,dp 7 i j c l o aP] (bK (decide (2*j∈(cK F f (if l then 2*i else 2*i+1)).aT)||decide (2*j+1∈(cK F f (if l then 2*i else 2*i+1)).aT))):=by
 have n:=Ty g v l;have u:=g.len;have H:(cK F f (if l then 2*i else 2*i+1)).aT.length<=1000000:=by have h:=DT (F:=F) g.ok (Er (aq3 (F:=F) (h:=f) (d:=if l then 2*i else 2*i+1) (by split<;>omega)));have iD:I (aH f)<=I f:=mv f (I f);simp only[bH]at h;omega
 have D:=AP (cK F f (if l then 2*i else 2*i+1)).aT (2*j) H;have q:=AP (cK F f (if l then 2*i else 2*i+1)).aT (2*j+1) H;have m:IntKind.i64.wrap (2*(j:Int))=((2*j:Nat):Int):=j_ J J;have r:IntKind.i64.wrap (((2*j:Nat):Int)+1)=((2*j+1:Nat):Int):=bJ J;have L:S.lone 6017024320=false:=ah;generalize cK F f (if l then 2*i else 2*i+1)=x at*;generalize decide (2*j∈x.aT)=B at*;generalize decide (2*j+1∈x.aT)=y at*;refine bG uz ?_;simp only[go_sem,tl,JY,Dk n L (.inl rfl),pI,ai D,ai q,m,r,bne,ae,ao];repeat' ((first|apply jv|apply jw|apply jA|apply ju|apply jB|apply jx)<;>intro z<;>simp only[go_sem, *,JY,Dk n L (.inl rfl),pI,ai D,ai q,m,r,bne,ae,ao])
 all_goals(first|done|exact aw|exact⟨aw,rfl⟩|rfl)
def aqe(g:ch F f){i:Nat}{b c:Int}{l o:Bool}{aP:Int}(q:i<I f)(r:CC (aR f i))(n:CC (aR f (bt f i))):aC S 94 [eQ F f,dp 1 i b c l o aP] (bK (sK (aR f i) (aR f (bt f i))&&(decide ((2:Int)<(aF af.aN f:Nat))||(((aF af.aJ f/2:Nat):Int)==0)))):=by
 have H:=g.len;have m:=JL (F:=F) q J;have h:=abu _ _ r n;have j:=Wx (F:Int) f J;have pc:=Sy (F:Int) f J;have L:S.lone 6016192192=false:=ah;generalize sK (aR f i) (aR f (bt f i))=u at*;generalize aR f i=X at*;generalize aR f (bt f i)=Y at*;generalize aF af.aN f=N at*;generalize aF af.aJ f/2=x at*;refine bG uz ?_;simp only[go_sem,tl,BS,Dk m L (.inl rfl),Mo,ai h,AA,dj j,E8,dj pc,bne,ae,ao];repeat' ((first|apply jv|apply jw|apply jA|apply ju|apply jB|apply jx)<;>intro v<;>simp only[go_sem, *,BS,Dk m L (.inl rfl),Mo,ai h,AA,dj j,E8,dj pc,bne,ae,ao])
 all_goals(first|done|exact aw|exact⟨aw,rfl⟩|rfl)
def aeu(g:ch F f){i:Nat}{b c:Int}{l o:Bool}{aP:Int}{x:af}(j:f[i]?=some x):aC S 94 [eQ F f,dp 10 i b c l o aP] (bK ((x.kind==1)&&(decide (0<x.gate)&&(x.aK==1)))):=by
 have H:=(ct.1 j).1;have h:=iF j;refine bG uz ?_;simp only[go_sem,tl,h,H,af.ps,bne,ae,ao];repeat' ((first|apply jv|apply jw|apply jA|apply ju|apply jB|apply jx)<;>intro m<;>simp only[go_sem, *,h,H,af.ps,bne,ae,ao])
 all_goals(first|done|exact aw|exact⟨aw,rfl⟩|rfl)
def agY(g:ch F f){i:Nat}{b c:Int}{l o:Bool}{aP:Int}{x:af}(n:f[i]?=some x):aC S 94 [eQ F f,dp 9 i b c l o aP] (bK ((x.kind==1)&&(decide (x.gate<(F:Int))&&(x.aK==((aF (jh x.gate) f:Nat):Int))))):=by
 have m:=(ct.1 n).1;have H:=g.len;have j:=iF n;have h:=RI (F:Int) f J x.gate;refine bG uz ?_;simp only[go_sem,tl,j,m,af.ps,kG,c4 h,dj h,bne,ae,ao];repeat' ((first|apply jv|apply jw|apply jA|apply ju|apply jB|apply jx)<;>intro q<;>simp only[go_sem, *,j,m,af.ps,kG,c4 h,dj h,bne,ae,ao])
 all_goals(first|done|exact aw|exact⟨aw,rfl⟩|rfl)
def ajf(g:ch F f){i b c:Nat}{l o:Bool}{aP:Int}(H:i<I f)(B:(cK F f (2*i)).places.length<=1000000)(D:(cK F f (2*i+1)).places.length<=1000000):aC S 94 [eQ F f,dp 2 i b c l o aP] (bK (decide ((b,c)∈(cK F f (2*i)).places)||decide ((b,c)∈(cK F f (2*i+1)).places))):=by
 have n:=g.len;have j:((I f:Int)==0)=false:=beq_false_of_ne J;have h:=Ty g H true;have pr:=Ty g H false;simp only[if_true,ib,if_false]at h pr;have L:S.lone 6016448448=false:=ah;have m:S.lone 6016448960=false:=ah;have q:aC S 136 [.agg [.p (.bool (cK F f (2*i)).dA),.p (.sl (aS (cK F f (2*i)).aT)),.p (.sl (dc (cK F f (2*i)).places)),.p (.sl (aS (cK F f (2*i)).mY)),.p (.bool (cK F f (2*i)).outer)],.agg [.p (.int .i64 b),.p (.int .i64 c)]] (bK (decide ((b,c)∈(cK F f (2*i)).places))):=aaE (cK F f (2*i)) (b,c) B
 have O:aC S 136 [.agg [.p (.bool (cK F f (2*i+1)).dA),.p (.sl (aS (cK F f (2*i+1)).aT)),.p (.sl (dc (cK F f (2*i+1)).places)),.p (.sl (aS (cK F f (2*i+1)).mY)),.p (.bool (cK F f (2*i+1)).outer)],.agg [.p (.int .i64 b),.p (.int .i64 c)]] (bK (decide ((b,c)∈(cK F f (2*i+1)).places))):=aaE (cK F f (2*i+1)) (b,c) D;generalize cK F f (2*i)=u at*;generalize cK F f (2*i+1)=r at*;generalize decide ((b,c)∈u.places)=E at*;generalize decide ((b,c)∈r.places)=x at*;refine bG uz ?_
 simp only[go_sem,tl,j,JY,Ms h L (.inl rfl),Ms pr m (.inl rfl),XN,cN q,cN O,bne,ae,ao];repeat' ((first|apply jv|apply jw|apply jA|apply ju|apply jB|apply jx)<;>intro v<;>simp only[go_sem, *,j,JY,Ms h L (.inl rfl),Ms pr m (.inl rfl),XN,cN q,cN O,bne,ae,ao])
 all_goals(first|done|exact aw|exact⟨aw,rfl⟩|rfl)
abbrev fc(s:ByteArray):V:=.one (.p (.str s))
abbrev sP(s:ByteArray):RV:=.one (.p (.str s))
def KP:aC S 35 [aq 1] (sP ⟨#[65]⟩):=gQ S 20 ah
def KI:aC S 35 [aq 2] (sP ⟨#[65,66,67]⟩):=gQ S 20 ah
def MJ:aC S 35 [aq 3] (sP ⟨#[65,66]⟩):=gQ S 20 ah
def Ko:aC S 35 [aq 4] (sP ⟨#[65]⟩):=gQ S 20 ah
def Nv:aC S 35 [aq 5] (sP ⟨#[65,79,83]⟩):=gQ S 20 ah
def MH:aC S 35 [aq 6] (sP ⟨#[65,66]⟩):=gQ S 20 ah
def It:aC S 35 [aq 7] (sP ⟨#[65,66,76,79]⟩):=gQ S 20 ah
def Jd:aC S 35 [aq 8] (sP ⟨#[65,66,67]⟩):=gQ S 20 ah
def ME:aC S 35 [aq 9] (sP ⟨#[65]⟩):=gQ S 20 ah
def Mx:aC S 35 [aq 10] (sP ⟨#[65]⟩):=gQ S 20 ah
def pU:aC S 37 [fc ⟨#[65]⟩,.one (.p (.int .u8 66))] (bK false):=gQ S 30 ah
def qc:aC S 37 [fc ⟨#[65]⟩,.one (.p (.int .u8 67))] (bK false):=gQ S 30 ah
def qo:aC S 37 [fc ⟨#[65]⟩,.one (.p (.int .u8 76))] (bK false):=gQ S 30 ah
def pY:aC S 37 [fc ⟨#[65]⟩,.one (.p (.int .u8 79))] (bK false):=gQ S 30 ah
def yE:aC S 37 [fc ⟨#[65]⟩,.one (.p (.int .u8 83))] (bK false):=gQ S 30 ah
def zz:aC S 37 [fc ⟨#[65,66]⟩,.one (.p (.int .u8 66))] (bK true):=gQ S 30 ah
def z8:aC S 37 [fc ⟨#[65,66]⟩,.one (.p (.int .u8 67))] (bK false):=gQ S 30 ah
def Ak:aC S 37 [fc ⟨#[65,66]⟩,.one (.p (.int .u8 76))] (bK false):=gQ S 30 ah
def zU:aC S 37 [fc ⟨#[65,66]⟩,.one (.p (.int .u8 79))] (bK false):=gQ S 30 ah
def KE:aC S 37 [fc ⟨#[65,66]⟩,.one (.p (.int .u8 83))] (bK false):=gQ S 30 ah
def y7:aC S 37 [fc ⟨#[65,66,67]⟩,.one (.p (.int .u8 66))] (bK true):=gQ S 30 ah
def yL:aC S 37 [fc ⟨#[65,66,67]⟩,.one (.p (.int .u8 67))] (bK true):=gQ S 30 ah
def yr:aC S 37 [fc ⟨#[65,66,67]⟩,.one (.p (.int .u8 76))] (bK false):=gQ S 30 ah
def zb:aC S 37 [fc ⟨#[65,66,67]⟩,.one (.p (.int .u8 79))] (bK false):=gQ S 30 ah
def Mk:aC S 37 [fc ⟨#[65,66,67]⟩,.one (.p (.int .u8 83))] (bK false):=gQ S 30 ah
def JZ:aC S 37 [fc ⟨#[65,66,76,79]⟩,.one (.p (.int .u8 66))] (bK true):=gQ S 30 ah
def KF:aC S 37 [fc ⟨#[65,66,76,79]⟩,.one (.p (.int .u8 67))] (bK false):=gQ S 30 ah
def JN:aC S 37 [fc ⟨#[65,66,76,79]⟩,.one (.p (.int .u8 76))] (bK true):=gQ S 30 ah
def Me:aC S 37 [fc ⟨#[65,66,76,79]⟩,.one (.p (.int .u8 79))] (bK true):=gQ S 30 ah
def LB:aC S 37 [fc ⟨#[65,66,76,79]⟩,.one (.p (.int .u8 83))] (bK false):=gQ S 30 ah
def L_:aC S 37 [fc ⟨#[65,79,83]⟩,.one (.p (.int .u8 66))] (bK false):=gQ S 30 ah
def LI:aC S 37 [fc ⟨#[65,79,83]⟩,.one (.p (.int .u8 67))] (bK false):=gQ S 30 ah
def MB:aC S 37 [fc ⟨#[65,79,83]⟩,.one (.p (.int .u8 76))] (bK false):=gQ S 30 ah
def Jp:aC S 37 [fc ⟨#[65,79,83]⟩,.one (.p (.int .u8 79))] (bK true):=gQ S 30 ah
def Lu:aC S 37 [fc ⟨#[65,79,83]⟩,.one (.p (.int .u8 83))] (bK true):=gQ S 30 ah
def zd:xf .eql ⟨#[65]⟩ ⟨#[]⟩=some (.bool false):=ah
def Iz:xf .eql ⟨#[65,66]⟩ ⟨#[]⟩=some (.bool false):=ah
def K_:xf .eql ⟨#[65,66,67]⟩ ⟨#[]⟩=some (.bool false):=ah
def ZK:xf .eql ⟨#[65,66,76,79]⟩ ⟨#[]⟩=some (.bool false):=ah
def ad1:xf .eql ⟨#[65,79,83]⟩ ⟨#[]⟩=some (.bool false):=ah
def vD{a b:Int}:decide (a<b)= !decide (b<=a):=by
 by_cases h:a<b
 .have:¬b<=a:=J;simp[h,this]
 have:b<=a:=J;simp[h,this]
section
variable {F:Nat} {f:aI} {a b c:Int} {l o:Bool} {aP:Int}
def apE(F:Nat)(f:aI)(b c:Int):(decide (0<=b)&&(decide (b<=(F:Int))&&(decide (0<=c)&&decide (c<=((aF (jh b) f:Nat):Int)))))=(decide (0<=b)&&(decide (b<=(F:Int))&&(decide (0<=c)&&decide (c<=(dY f b.toNat:Int))))):=by
 by_cases h:0<=b
 .rw[show aF (jh b) f=dY f b.toNat by rw[dY,aF,aF];congr 1;funext x;exact Bb b h x]
 simp[h]
def aq5(hl:I f<=1000000):aC S 93 [eQ F f,dp 1 a b c l o aP] (bK (!bV F f 1 a b c l o aP)):=by
 unfold bV;simp only[Int.reduceEq,if_true,if_false,false_or,or_false,or_true,true_or,reduceIte,or_self,vD];refine bG ux ?_;simp only[go_sem,tn,lN,lO KP,zd,kI,ai pU,ai qc,ai qo,ai pY,ai yE,nu,ai (er a),ai (er b),ai (er c),bne,ae,ao];repeat' ((first|apply jv|apply jw|apply jA|apply ju|apply jB|apply jx)<;>intro h<;>simp only[go_sem, *,lN,lO KP,zd,kI,ai pU,ai qc,ai qo,ai pY,ai yE,nu,ai (er a),ai (er b),ai (er c),bne,ae,ao])
 all_goals(first|done|exact aw|exact⟨aw,rfl⟩|rfl)
def aqu(hl:I f<=1000000):aC S 93 [eQ F f,dp 2 a b c l o aP] (bK (!bV F f 2 a b c l o aP)):=by
 unfold bV;simp only[Int.reduceEq,if_true,if_false,false_or,or_false,or_true,true_or,reduceIte,or_self,vD];have g:=ar1 (F:=F) b c hl;rw[apE]at g;generalize(decide (0<=b)&&(decide (b<=(F:Int))&&(decide (0<=c)&&decide (c<=(dY f b.toNat:Int)))))=PB at g |-;have h:(I f==0)=((I f:Int)==0):=by rw[kS];simp
 rw[h];refine bG ux ?_;simp only[go_sem,tn,lN,lO KI,K_,kI,ai y7,ai yL,ai yr,ai zb,ai Mk,nu,ai (er a),ai (er b),ai (er c),Y_,ai g,bne,ae,ao];repeat' ((first|apply jv|apply jw|apply jA|apply ju|apply jB|apply jx)<;>intro H<;>simp only[go_sem, *,lN,lO KI,K_,kI,ai y7,ai yL,ai yr,ai zb,ai Mk,nu,ai (er a),ai (er b),ai (er c),Y_,ai g,bne,ae,ao])
 all_goals(first|done|exact aw|exact⟨aw,rfl⟩|rfl)
def ai7(hl:I f<=1000000):aC S 93 [eQ F f,dp 4 a b c l o aP] (bK (!bV F f 4 a b c l o aP)):=by
 unfold bV;simp only[Int.reduceEq,if_true,if_false,false_or,or_false,or_true,true_or,reduceIte,or_self,vD];refine bG ux ?_;simp only[go_sem,tn,lN,lO Ko,zd,kI,ai pU,ai qc,ai qo,ai pY,ai yE,nu,ai (er a),ai (er b),ai (er c),bne,ae,ao];repeat' ((first|apply jv|apply jw|apply jA|apply ju|apply jB|apply jx)<;>intro h<;>simp only[go_sem, *,lN,lO Ko,zd,kI,ai pU,ai qc,ai qo,ai pY,ai yE,nu,ai (er a),ai (er b),ai (er c),bne,ae,ao])
 all_goals(first|done|exact aw|exact⟨aw,rfl⟩|rfl)
end
end
end Go.Abs
