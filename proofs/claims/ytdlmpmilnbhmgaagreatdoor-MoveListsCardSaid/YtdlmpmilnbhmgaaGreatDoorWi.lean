/- A part. -/
import Derived.Test.YtdlmpmilnbhmgaaGreatDoorWh
set_option linter.all false
open List renaming length->I
set_option maxRecDepth 100000
set_option maxHeartbeats 16000000
namespace Go.Abs
variable{x:Int}{m:cS}{F g n j:Nat}{h L:aI}
section
variable{f:cM}
def j7:cS->cS
 |[]=>[]
 |x::r=>if x∈r then j7 r else x::j7 r
def FP:∀ {l:cS},x∈j7 l↔x∈l:=by
 intro l
 induction l with
 |nil=>simp[j7]
 |cons y r f=>
  unfold j7;split
  .rename_i h;rw[f,dL];constructor
   .exact .inr
   rintro(rfl|H)
   .exact h
   exact H
  rw[dL,dL,f]
def amd:∀l:cS,(j7 l).Nodup:=by
 intro l
 induction l with
 |nil=>exact um
 |cons y r f=>
  unfold j7;split
  .exact f
  rename_i h;exact n9.2 ⟨λH=>h (FP.1 H),f⟩
def aaJ:∀k,k<=I m->(x∈ko m k↔x∈m.take k):=by
 intro k
 induction k with
 |zero=>intro _;simp[ko]
 |succ k f=>
  intro u;obtain⟨y,g⟩:=bq (h:=m) (k:=k) J;have r:m.take (k+1)=m.take k++[y]:=by rw[jN,g];rfl
  have f:=f J;unfold ko;rw[g,r];simp only;split
  .rename_i H;obtain⟨v,n⟩:=H;have j:y∈m.take k:=by
    rw[List.mem_take_iff_getElem];obtain⟨z,q⟩:=ct.1 n;exact⟨k-1,J,q⟩
   rw[f,fB];constructor
   .exact .inl
   rintro(H|H)
   .exact H
   simp at H;subst H;exact j
  rw[fB,fB,f]
def aot(aa:ry oI m 0 (I m)):∀k,k<=I m->(ko m k).Nodup:=by
 intro k
 induction k with
 |zero=>intro _;exact um
 |succ k f=>
  intro B;obtain⟨y,q⟩:=bq (h:=m) (k:=k) J;have f:=f J;unfold ko;rw[q];simp only;split
  .exact f
  rename_i D;rw[xh];refine⟨f,aG,λz r w n=>?_⟩;simp at n;subst n;rintro rfl
  rw[aaJ k J,List.mem_take_iff_getElem]at r;obtain⟨p,hp,j⟩:=r;have v:p<k:=J;have M:m[p]?=some z:=by rw[oO J,j]
  obtain⟨u,H⟩:=bq (h:=m) (k:=k-1) J;have x:=aa (k-1) k u z (bC _) J J H q;have g:u=z:=by
   by_cases e:p=k-1
   .rw[e,H]at M;cases M;rfl
   have A:=aa p (k-1) z u (bC _) J J M H;simp at x A;omega
  rw[g]at H;exact D ⟨J,H⟩
def Wq{E:cS}(hp:m.Perm E)(aa:ry oI m 0 (I m)):I (ko m (I m))=I (j7 E):=by refine List.Perm.length_eq ((List.perm_ext_iff_of_nodup (aot aa _ (cH _)) (amd E)).2 λx=>?_);rw[aaJ _ (cH _),iV,FP,hp.mem_iff]
def tA(h:aI)(e:Nat):Bool:=((aQ h e).l.kind==2)&&((aQ h (bt h e)).l.kind==2)
def od(h:aI)(E:aA):cS:=E.flatMap λe:Nat=>[(e:Int),(bt h e:Int)]
def qu(h:aI)(E:aA):cS:=E.flatMap λe:Nat=>[(aQ h e).l.id,(aQ h (bt h e)).l.id]
def Ch(F:Nat)(h:aI)(a b c:Nat):Bool:=[a,b,c].all (tA h)&&((I (j7 (od h [a,b,c]))==6)&&((I (j7 (qu h [a,b,c]))==3)&&([a,b,c].any (iz h · true)&&([a,b,c].any (iz h · false)&&nD F h 0 [a,b,c] a))))
def uL(F:Nat)(h:aI)(a b c:Nat):Option cO:=if Ch F h a b c then some (mJ h (a_ h) [a,b,c])else none
def MQ(f:Nat->cS)(h:∀e,I (f e)=2):∀l:aA,I (l.flatMap f)=2*I l:=by
 intro l
 induction l with
 |nil=>rfl
 |cons a r g=>rw[xn,ep,g,h,dE];omega
def ac2(f:Nat->cS)(l:aA)(k e:Nat)(h:l[k]?=some e):(l.take (k+1)).flatMap f=(l.take k).flatMap f++f e:=by rw[jN,h];simp
def aa3(f:Nat->Bool)(l:aA)(k e:Nat)(h:l[k]?=some e):(l.take (k+1)).any f=((l.take k).any f||f e):=by rw[jN,h];simp
def arZ(f:Nat->Bool)(l:aA)(k e:Nat)(h:l[k]?=some e):(l.take (k+1)).all f=((l.take k).all f&&f e):=by rw[jN,h];simp
def aao(f:Nat->cS)(E:aA)(x y:Int):dz (E.flatMap f)++[[PV.int .i64 x],[PV.int .i64 y]]=dz (E.flatMap f++[x,y]):=aG
def aoc(g:ch F h){A B L:Nat}(ha:A<I h)(hb:B<I h)(hc:L<I h){k:Int}{l o:Bool}{aP:Int}:
  aC S 81 [.one (.p (df F h)),dp k A B L l o aP] (pZ (uL F h A B L)):=by
 have a5:=g.len;have bd:=bR h;have gI:∀e∈[A,B,L],e<I h:=λe a6=>by simp at a6;rcases a6 with rfl|rfl|rfl<;>assumption
 generalize Z:[A,B,L]=E at*;have dr:I E=3:=by rw[<-Z];rfl
 have Bh:aS [A,B,L]=[[.int .i64 A],[.int .i64 B],[.int .i64 L]]:=rfl;rw[Z]at Bh;have w3:((3:Nat):Int)=3:=rfl;refine bG akP ?_;simp only[go_sem,aap,ae,ao];refine cD (λj z blk=>z 0=.one (.p (df F h))/\z 6=.one (.hsl 5184064384 1 1 0 3)/\z 22=.one (.hsl 5184064384 1 1 0 3)/\z 23=aq 3/\z 24=aq j/\blk 5184064384=(1,some (.arr 3 1 (aS E)))/\(E.take j).all (tA h)/\
  z 9=kN ((E.take j).any (iz h · true))/\z 10=kN ((E.take j).any (iz h · false))/\ ∃uX zr,z 7=.one uX/\z 8=.one zr/\aW 5184640256 3 1 (dz (od h (E.take j))) (.one uX) blk/\aW 5184705280 3 1 (dz (qu h (E.take j))) (.one zr) blk) 0 3 (bC _) ?_ ?_
 .simp only[go_sem];exact⟨rfl,rfl,by rw[Bh],rfl,rfl,_,_,rfl,rfl,aW.nil,aW.nil⟩
 rintro j z blk hj ⟨H,q,lr,sU,qh,b6,di,u,f,uX,zr,h7,h8,g7,g8⟩
 by_cases au:j<3
 .have aL:((j:Int)<3):=J;obtain⟨e,T⟩:=bq (h:=E) (k:=j) J;have X:=gI e (bY T);have ug:=fC T;have pe:=xG g X;have hm:=fO (e+1) (show 0<I h by omega);obtain⟨P,y⟩:=bq (h:=a_ h) (k:=e) J;obtain⟨Q,hQ⟩:=bq (h:=a_ h) (k:=(e+1)%I h) J;have u5:=gO y;have M:=gO hQ;have w1:=bJ (n:=j) J;have po:=DL g X true;have pu:=DL g X false;have fY:tA h e=((P.l.kind==2)&&(Q.l.kind==2)):=by unfold tA;rw[nI y,nI hQ]
  have a8:I (dz (od h (E.take j)))<=100:=by unfold od;rw[mD,MQ _ (λ_=>rfl),iU];omega
  have a7:I (dz (qu h (E.take j)))<=100:=by unfold qu;rw[mD,MQ _ (λ_=>rfl),iU];omega
  have dh:tA h e=false->uL F h A B L=none:=λa6=>by
   have:E.all (tA h)=false:=by
    cases hh:E.all (tA h)with
    |false=>rfl
    |true=>rw[gL.1 hh e (bY T)]at a6;cases a6
   unfold uL Ch;rw[Z,this];rfl
  cases k1:(P.l.kind==2)with
  |false=>
   rw[k1]at fY;have N:(P.l.kind !=2):=by simp only[bne,k1];rfl
   rw[dh fY];simp only[go_sem,Gn,H,q,lr,sU,qh,b6,au,aL,ug,dB,bl pe bQ,X,u5,M,aZ.ps,N,bd];rfl
  |true=>
   have N:(P.l.kind !=2)=false:=by simp only[bne,k1];rfl
   cases k2:(Q.l.kind==2)with
   |false=>
    rw[k1,k2]at fY;have ab:(Q.l.kind !=2):=by simp only[bne,k2];rfl
    rw[dh fY];simp only[go_sem,Gn,H,q,lr,sU,qh,b6,au,aL,ug,dB,bl pe bQ,X,hm,u5,M,aZ.ps,N,ab,bd];rfl
   |true=>
    rw[k1,k2]at fY;have ab:(Q.l.kind !=2)=false:=by simp only[bne,k2];rfl
    simp only[go_sem,Gn,H,q,h7,lr,sU,qh,b6,au,aL,ug,dB,bl pe bQ,X,hm,u5,M,aZ.ps,N,ab,bd];refine iR (A:=[[.int .i64 (e:Nat)],[.int .i64 ((e+1)%I h:Nat)]]) (g7.of_eq (bo U)) (by simp only[eO,bj,if_true];rfl) (.inl rfl) (by simp only[dE,eR];omega) λd7 bp ap ba=>?_;have q6:=ba 5184064384 U U;simp only[go_sem,b6]at q6;have aE:=g8.of_eq ((ba 5184705280 U U).trans (bo U));simp only[go_sem,H,q,h8,u5,M,aZ.ps,bd,X,hm];refine tB (A:=[[.int .i64 P.l.id],[.int .i64 Q.l.id]]) (aE.of_eq (bo U)) (by simp only[eO,bj,if_true];rfl) (.inl rfl) (by simp only[dE,eR];omega) λd8 aV r w a4 bc hw=>?_
    have p6:=(bc 5184064384 U U).trans ((bo U).trans q6);have ay:=ap.of_eq ((bc 5184640256 U U).trans (bo U));simp only[go_sem];refine⟨?_,?_⟩
    .rcases hw with⟨rfl,rfl⟩|⟨rfl,rfl⟩|⟨rfl,rfl⟩<;>kernel_rfl
    generalize a2:(E.take j).any (iz h · true)=x9 at u;generalize aY:(E.take j).any (iz h · false)=a1 at f;have e9:=aa3 (iz h · true) E j e T;have Cu:=aa3 (iz h · false) E j e T;have eA:=arZ (tA h) E j e T;rw[a2]at e9;rw[aY]at Cu;rw[di,fY]at eA;have G7:aW 5184640256 3 1 (dz (od h (E.take (j+1)))) (.one d7) aV:=by have:=aao (λe:Nat=>[(e:Int),(bt h e:Int)]) (E.take j) e (bt h e);have D:=ac2 (λe:Nat=>[(e:Int),(bt h e:Int)]) E j e T;rw[show od h (E.take (j+1))=(E.take j).flatMap (λe:Nat=>[(e:Int),(bt h e:Int)])++[(e:Int),(bt h e:Int)]from D,<-this];exact ay
    have G8:aW 5184705280 3 1 (dz (qu h (E.take (j+1)))) (.one d8) aV:=by have:=aao (λe:Nat=>[(aQ h e).l.id,(aQ h (bt h e)).l.id]) (E.take j) (aQ h e).l.id (aQ h (bt h e)).l.id;have D:=ac2 (λe:Nat=>[(aQ h e).l.id,(aQ h (bt h e)).l.id]) E j e T;rw[show qu h (E.take (j+1))=(E.take j).flatMap (λe:Nat=>[(aQ h e).l.id,(aQ h (bt h e)).l.id])++[(aQ h e).l.id,(aQ h (bt h e)).l.id]from D,<-this,nI y,show aQ h (bt h e)=Q from nI hQ];exact a4
    cases x9<;>cases a1<;>simp only[go_sem,H,u,f,lr,sU,qh,fl,ai po,ai pu,w1,au]<;>exact⟨q,p6,by rw[eA];rfl,by rw[e9];rfl,by rw[Cu];rfl,d7,d8,rfl,rfl,G7,G8⟩
 have:j=3:=J;subst this;have ht:E.take 3=E:=by rw[<-Z];rfl
 rw[ht]at di u f g7 g8;have n7:I (od h E)=6:=by unfold od;rw[MQ _ (λ_=>rfl),dr]
 have n8:I (qu h E)=6:=by unfold qu;rw[MQ _ (λ_=>rfl),dr]
 rcases g7 with⟨e,_⟩|⟨_,am,e,b7⟩
 .have:=congrArg List.length e;rw[mD,n7]at this;cases this
 cases e;rcases g8 with⟨e,_⟩|⟨_,an,e,b8⟩
 .have:=congrArg List.length e;rw[mD,n8]at this;cases this
 cases e;have R:S.shared 101:=ah;have O:S.shared 118:=ah;have tV:¬(((3:Nat):Int)<3):=U;simp only[go_sem,Gn,Y3,H,q,h7,h8,u,f,lr,sU,qh,tV,R,mD];refine tJ b7 (by rfl) (.inl rfl) (P:=z_ oI 5184640256 am 3 (od h E) blk) (λlQ h1 D=>TE h1 (by rw[D];kernel_rfl) J b7) λv bp y=>?_;obtain⟨rfl,⟨m,bw,pw,sw⟩,kw⟩:=y;have Eu:=(kw 5184705280 U).trans b8;have Hk:=(kw 5184064384 U).trans b6;simp only[go_sem,H,q,h7,h8,u,f,R,mD];refine tJ Eu (by rfl) (.inl rfl) (P:=z_ oI 5184705280 an 3 (qu h E) bp) (λlQ h1 D=>TE h1 (by rw[D];kernel_rfl) J Eu) λv aV y=>?_
 obtain⟨rfl,⟨us,bu,pu,su⟩,ku⟩:=y;have ad:=(ku 5184640256 U).trans bw;have az:=(ku 5184064384 U).trans Hk;have wl:=pw.length_eq;have ul:=pu.length_eq;have cw:=Wq pw sw;have cu:=Wq pu su;have x:=Vn g E J (h:=A) (by rw[<-Z];rfl) ha 0;have a0:((0:Nat):Int)=0:=rfl;rw[a0]at x;have a3:=aeE g E gI J;have Dh:List.take 3 (aS E)=aS E:=eW (by rw[HT];omega);have hB:Ch F h A B L=(((I (j7 (od h E)):Int)==6)&&(((I (j7 (qu h E)):Int)==3)&&(E.any (iz h · true)&&(E.any (iz h · false)&&nD F h 0 E A)))):=by unfold Ch;rw[Z,di,Bx,Bx];rfl
 unfold uL;rw[hB];clear hB;simp only[go_sem,H,q,h7,h8,u,f,O,mD,<-wl];refine tJ ad (by rfl) (.inl rfl) (P:=Ot 5184640256 am 3 m aV) (λlQ h1 D=>ads h1 J ad) λv gh y=>?_;obtain⟨rfl,_,kc⟩:=y;have ag:=(kc 5184705280 U).trans bu;have ar:=(kc 5184064384 U).trans az;rw[cw];have lo:S.lone 5185152128=false:=ah;cases q1:((I (j7 (od h E)):Int)==6)with
 |false=>
  have Y:((I (j7 (od h E)):Int)!=6):=by simp only[bne,q1];rfl
  simp only[go_sem,H,q,h7,h8,u,f,Y];rfl
 |true=>
  have Y:((I (j7 (od h E)):Int)!=6)=false:=by simp only[bne,q1];rfl
  simp only[go_sem,H,q,h7,h8,u,f,Y,O,mD,<-ul];refine tJ ag (by rfl) (.inl rfl) (P:=Ot 5184705280 an 3 us gh) (λlQ h1 D=>ads h1 J ag) λv qb y=>?_;obtain⟨rfl,_,kd⟩:=y;have ak:=(kd 5184064384 U).trans ar;rw[cu];cases q2:((I (j7 (qu h E)):Int)==3)with
  |false=>
   have Gg:((I (j7 (qu h E)):Int)!=3):=by simp only[bne,q2];rfl
   simp only[go_sem,H,q,u,f,Gg];rfl
  |true=>
   have Gg:((I (j7 (qu h E)):Int)!=3)=false:=by simp only[bne,q2];rfl
   cases q3:E.any (iz h · true)with
   |false=>rw[q3]at u;simp only[go_sem,H,q,u,f,Gg];rfl
   |true=>
    rw[q3]at u;cases q4:E.any (iz h · false)with
    |false=>rw[q4]at f;simp only[go_sem,H,q,u,f,Gg];rfl
    |true=>
     rw[q4]at f;cases q5:nD F h 0 E A with
     |false=>rw[q5]at x;simp only[go_sem,H,q,u,f,Gg,ak,e_,ai x,dr,HT,Dh];rfl
     |true=>rw[q5]at x;simp only[go_sem,H,q,u,f,Gg,ak,e_,ai x,alD,dr,HT,Dh];refine ke a3 lo (.inr (ff (gb _))) λcc yY gc xS=>?_;simp only[go_sem];rw[<-Z]at gc;exact iW gc
abbrev F1(F:Nat):V:=.agg [.p (.int .i64 F),.p (.sl [])]
def yT:¬(((0:Int))<((0:Nat):Int)):=U
def XB:IntKind.i64.wrap (2*((0:Nat):Int))=((0:Nat):Int):=U
def Wj:(0:Nat)<=140737488355328:=U
def akb:(0:Nat)*8<=140737488355328:=U
section
variable {F:Nat}
def alw(h:F<=40):kM (F:Int) []=0:=by unfold kM;rw[aD (by simp[aF]),aD J,aM rfl]
def afY(h:F<=40):aC S 52 [F1 F] (uR (J_ F) (.int .i64 0)):=by have pr:=Zj F [] (bC _);rw[MK (alw h),aM rfl]at pr;exact pr
def afm:aC S 60 [.one (.p (J_ F))] (.one (.own 4 1 [])):=by refine bG W_ ?_;simp only[go_sem,Vl,ae,ao];refine mu ?_;simp only[go_sem,FE,UB,yT,ae,ao];rfl
def afT(H:F<=40):aC S 39 [F1 F] (.tup [.one (bn qY 5 []),.one (.p (.int .i64 0))]):=by
 have pr:=afY H;have h:∀blk:aB,d_ blk [] 2496384064 ((RV.one (.own 4 1 [])).eU (S.lone 2496384064))=some (.one (.hsl 2496384064 ((blk 2496384064).1+1) 1 0 0),[(2496384064,((blk 2496384064).1+1,some (.arr 4 1 [])))]):=by intro blk;rw[show S.lone 2496384064=false by kernel_rfl];rfl
 refine bG We ?_;simp only[go_sem,Vb,X1,bl pr bQ,Xg,bl afm (h _),XB,Wj];refine mu ?_;simp only[go_sem,HI,PF,yT];rfl
def agu(v:F<=40):aC S 18 [F1 F] (uR (df F []) (.int .i64 0)):=by
 have j:=afT v;have g:aC S 40 [F1 F] (fy ((0:Nat):Int)):=N8 F [] (bC _);have f:aC S 41 [F1 F] (fy ((0:Nat):Int)):=ab0 F [] (bC _);have L:S.lone 1152064064=false:=ah;have x:=bJ (n:=F) J;have r:(F+1)*8<=140737488355328:=J;have E:List.replicate (F+1) [PV.int .i64 0]=aS (eF [] F):=by rw[<-TD,eR,UU];simp
 refine bG aci ?_;simp only[go_sem,Uz,ZS];refine Zd j L λy z u q=>?_;have H:=q 1152000000 U;simp only[go_sem]at H;obtain⟨_,m⟩|⟨h,_⟩:=u
 .cases m;simp only[go_sem,H,x,r,XB,Wj,akb,RU,acw,c4 g,c4 f,E];refine⟨aw,?_⟩;refine mu ?_;simp only[go_sem,F6,IK,yT];refine mu ?_;simp only[go_sem,J7,Mu,yT];have T:List.take (F+1) (aS (eF [] F))=aS (eF [] F):=eW (by simp[eF]);have N:F+1<=I (eF [] F):=by simp[eF]
  simp only[go_sem,hJ,pn,rl,lJ,kQ,iZ,T,N];rfl
 exact absurd rfl h
end
section
variable {F:Nat}
def ah1:IntKind.i64.wrap (1:Int)=1:=U
def aqE:IntKind.i64.wrap (2:Int)=2:=U
abbrev D9(F:Nat):V:=.one (.p (.box [.int .i64 F,.sl [],.sl [],.sl [],.int .i64 ((0:Nat):Int),.int .i64 ((0:Nat):Int),.sl (aS (eF [] F))]))
def aoJ{b:Nat}(r:b<=F):aC S 48 [D9 F,dp 2 0 b 0 false false 0] (bK true):=by
 have D:aC S 73 [aq 0,.one (.p (.box [.int .i64 ((0:Nat):Int)]))] (bK false):=VN 0 0;have f:=fC (Bt (h:=[]) r);have m:(0:Int)<=(b:Int):=J;have g:(b:Int)<=(F:Int):=J;have j:(0:Int)<=(dY [] b:Int):=J;have q:b<F+1:=J;have H:I (eF [] F)=F+1:=by simp[eF]
 have n:(((0:Nat):Int)==0):=U;refine bG yR ?_;simp only[go_sem,xi,cV,cN D,ai D,f,m,g,j,q,H,n,ae,ao];exact aw
abbrev DR(b:Nat):cO:=[⟨⟨1,b,1,0,0,false⟩,true⟩,⟨⟨1,b,2,0,0,false⟩,false⟩]
def arN{b:Nat}{l o:Bool}{aP:Int}:aC S 75 [D9 F,dp 2 0 b 0 l o aP] (pZ (some (DR b))):=by have h:(((0:Nat):Int)==0):=U;refine bG XO ?_;simp only[go_sem,NF,h,ah1,aqE,ae,ao];rfl
end
def apL(y:I h<=400)(fY:aF af.aJ h<=200){a b c:Int}{l o:Bool}{aP:Int}{r:Option cO}(Z:aC S 48 [.one (.p (df F h)),dp 2 a b c l o aP] (bK true))(A:aC S 75 [.one (.p (df F h)),dp 2 a b c l o aP] (pZ r))(M:∀L,r=some L->I L<=1000000):
  aC S 25 [.one (.p (df F h)),dp 2 a b c l o aP] (tQ F h 2 r):=by
 have Q:=aaP F;have u:=acJ 2;have N:S.lone 1600192384=false:=ah;have T:S.lone 1600576128=false:=ah;have X:∀(blk:aB),d_ blk [] 1600192000 ((RV.agg [.p .tj,.p (.fn 74 [] []),.p (.fn 75 [] []),.p (.fn 76 [] []),.p (.fn 77 [] []),.p (.fn 78 [] []),.p (.fn 79 [] []),.p (.fn 80 [] []),.p (.fn 81 [] []),.p (.fn 82 [] []),.p (.fn 82 [] [])]).eU (S.lone 1600192000))=some (.agg [.p .tj,.p (.fn 74 [] []),.p (.fn 75 [] []),.p (.fn 76 [] []),.p (.fn 77 [] []),.p (.fn 78 [] []),.p (.fn 79 [] []),.p (.fn 80 [] []),.p (.fn 81 [] []),.p (.fn 82 [] []),.p (.fn 82 [] [])],[]):=λblk=>by cases S.lone 1600192000<;>rfl
 have R:=bR h;have m:IntKind.i64.wrap ((I (a_ h):Int)+(iG 2).1)=(I h:Int)+(iG 2).1:=by rw[R];exact j_ (by simp only[iG];simp;omega) (by simp only[iG];simp;omega)
 have v:IntKind.i64.wrap (((aF af.aJ h/2:Nat):Int)+(iG 2).2)=((aF af.aJ h/2:Nat):Int)+(iG 2).2:=j_ (by simp only[iG];simp;omega) (by simp only[iG];simp;omega);have n:∀blk:aB,d_ blk [] 1600384128 ((RV.tup [.one (.p (.int .i64 (iG 2).1)),.one (.p (.int .i64 (iG 2).2))]).eU (S.lone 1600384128))=some (.tup [.one (.p (.int .i64 (iG 2).1)),.one (.p (.int .i64 (iG 2).2))],[]):=λblk=>bQ;unfold pZ at A;refine bG NK ?_;simp only[go_sem,KQ,TP,ai Z,acW,fT adP (X _),aix];refine Zg A N λcc bp w z x j=>?_;have b0:=x 1600000000 U;have B:=x 1600000064 U;simp only[go_sem]at b0 B;cases r with
 |none=>simp only[go_sem,b0,B];refine⟨?_,rfl⟩;rcases j with rfl|rfl<;>kernel_rfl
 |some L=>
  simp only[jV]at z;have f:=Q L (M L rfl) (.sl (bX (a_ h))) (.sl (g_ (cZ F h))) (.sl (aS (gK F h))) (.int .i64 (aF af.aN h:Nat)) (.int .i64 ((aF af.aJ h/2:Nat):Int)) (.sl (aS (eF h F)));obtain⟨rs,O,_⟩:=z.dS;by_cases H:(400:Int)<(I h:Int)+(iG 2).1
  .rw[show tQ F h 2 (some L)=rm 7 from aM (.inl H)];simp only[go_sem,b0,B,CA,bl u (n _),m,v,H];refine⟨?_,rfl⟩;rcases j with rfl|rfl<;>kernel_rfl
  by_cases g:(100:Int)<((aF af.aJ h/2:Nat):Int)+(iG 2).2
  .rw[show tQ F h 2 (some L)=rm 7 from aM (.inr g)];simp only[go_sem,b0,B,CA,bl u (n _),m,v,H,g];refine⟨?_,rfl⟩;rcases j with rfl|rfl<;>kernel_rfl
  rw[show tQ F h 2 (some L)=s9 F (tP L)from aD (by rintro(Y|Y);exact H Y;exact g Y)];simp only[go_sem,b0,B,CA,bl u (n _),m,v,H,g,O,Xa];refine⟨?_,?_⟩
  .rcases j with rfl|rfl<;>kernel_rfl
  refine WE f T rfl (abo _) λc2 aV D E=>?_;have q:=(E 1600000064 U).trans B;simp only[go_sem,q];exact Zn (D.of_eq (bo U))
abbrev MA(b:Nat):aI:=[⟨1,b,1,0,0,false⟩,⟨1,b,2,0,0,false⟩]
def ajZ(b:Nat):tP (DR b)=MA b:=by unfold tP;rw[show sh (DR b)=some 0 from rfl];rfl
def aoq(F b:Nat):tQ F [] 2 (some (DR b))=s9 F (MA b):=by rw[<-ajZ];rfl
def aiO{b:Nat}(H:b<=F):aC S 25 [D9 F,dp 2 0 b 0 false false 0] (s9 F (MA b)):=by have:=apL (F:=F) (h:=[]) U U (a:=0) (b:=b) (c:=0) (l:=false) (o:=false) (aP:=0) (r:=some (DR b)) (aoJ H) arN (λL f=>by cases f;exact(by simp:I (DR b)<=1000000));rw[aoq]at this;exact this
def xP(F:Nat)(h:aI)(k:Int)(a b c:Nat)(l o:Bool)(aP:Int):Option cO:=if k=1 then Cf h a else if k=2 then rQ F h a b c else if k=3 then xQ F h a b else if k=4 then BG h a else if k=5 then some (OP h a aP o)else if k=6 then xk F h a b else if k=7 then Ax F h a b l o else if k=8 then uL F h a b c else if k=9 then BK F h a else AD h a
def uJ(F:Nat)(h:aI)(k a b c:Int)(l o:Bool)(aP:Int):RV:=if bV F h k a b c l o aP then tQ F h k (xP F h k a.toNat b.toNat c.toNat l o aP)else rm 2
def ie{n:Nat}{i:Int}(h:gW n i):∃k:Nat,i=(k:Int)/\k<n:=by unfold gW at h;simp at h;exact⟨i.toNat,J,J⟩
def Oe(l:cO)(drop:Nat->aZ->Bool):I (nZ l drop)<=I l:=EA l drop (I l)
def Ya(l:cO)(i:Nat)(g r:Int):I (vT l i g r)=I l:=by simp[vT]
def ajr{k:Int}{a b c:Nat}{l o:Bool}{aP:Int}{L:cO}(H:xP F h k a b c l o aP=some L):I L<=I h+4:=by
 have hp:=bR h;unfold xP at H;repeat' split at H
 .unfold Cf at H;simp only at H;split at H
  .cases H;have:=Oe (a_ h) (λk _=>decide (k=a)||decide (k=(a+1)%I h));simp only[eu,cT];omega
  cases H
 .unfold rQ at H;split at H
  .cases H;simp only[xB,hM,eu,cT,dE,eR];omega
  split at H
  .cases H;simp only[xB,hM,eu,cT,dE,eR];omega
  cases H
 .unfold xQ at H;split at H
  .cases H;simp only[Em,Q5];omega
  cases H
 .unfold BG at H;simp only at H;split at H
  .cases H;have:=Oe (a_ h) (qJ [((a_ h).getD a ⟨nv,false⟩).l.id]);simp only[zm,cT];omega
  cases H
 .cases H;simp only[OP,hM,dE,eR];omega
 .unfold xk at H;split at H
  .cases H;have:=Oe (a_ h) (qJ [(aQ h a).l.id,(aQ h (bt h a)).l.id]);simp only[zm,cT];omega
  cases H
 .have f:∀s t,gJ h a b l o s t=some L->I L<=I h+4:=λs t H=>by
   unfold gJ at H;split at H
   .cases H
   simp only[fu]at H;subst H;have g:∀x aP o s,I (mC x aP o s)=2:=λx aP o s=>by unfold mC;split<;>rfl
   split<;>simp only[hM,g,dE,eR]<;>omega
  unfold Ax at H;split at H
  .exact f _ _ H
  exact f _ _ H
 .unfold uL at H;split at H
  .cases H;simp only[Em];omega
  cases H
 .unfold BK at H;split at H
  .cases H;simp only[Ya,eu,cT];omega
  cases H
 unfold AD at H;split at H
 .cases H;simp only[Ya,eu,cT];omega
 cases H
def akE(g:ch F h)(k a b c:Int)(l o:Bool)(aP:Int):aC S 25 [.one (.p (df F h)),dp k a b c l o aP] (uJ F h k a b c l o aP):=by
 have q:=akB (F:=F) (m:=h) (a:=a) (b:=b) (c:=c) (l:=l) (o:=o) (aP:=aP) k;have f:=g.len;have r:=g.cr;unfold uJ;cases H:bV F h k a b c l o aP with
 |false=>rw[H]at q;exact ap5 q
 |true=>
  rw[H]at q;rw[aM rfl];have m:∀L,xP F h k a.toNat b.toNat c.toNat l o aP=some L->I L<=1000000:=λL ab=>by have:=ajr ab;omega
  have ne:=g.ne;have iI:¬I h=0:=by have:=nA.2 ne;omega
  unfold bV at H;by_cases z:k=1
  .subst z;simp only[Int.reduceEq,if_true,if_false,false_or,or_false,or_true,true_or,reduceIte,or_self]at H;simp only[cq,hY,c6]at H;obtain⟨rfl,rfl,rfl,j,rfl,rfl⟩:=H;obtain⟨A,rfl,n⟩:=ie j;simp only[nY]at m |-;exact vJ f r (k:=1) rfl U ah q (aka g n) m
  by_cases x:k=2
  .subst x;simp only[Int.reduceEq,if_true,if_false,false_or,or_false,or_true,true_or,reduceIte,or_self]at H;simp only[cq,jC,hY,c6,fH]at H;obtain⟨rfl,rfl,rfl,j,Y,CK,sV,T⟩:=H;rcases j with j|⟨j,_⟩
   rotate_left
   .exact absurd j iI
   obtain⟨A,rfl,n⟩:=ie j;obtain⟨B,rfl⟩:=lM Y;obtain⟨X,rfl⟩:=lM sV;simp only[nY]at m T |-;have:=ld (rn B) h;exact vJ f r (k:=2) rfl U ah q (ah4 g n J (by simp only[dY]at T;omega)) m
  by_cases O:k=3
  .subst O;simp only[Int.reduceEq,if_true,if_false,false_or,or_false,or_true,true_or,reduceIte,or_self]at H;simp only[cq,hY,c6,fH]at H;obtain⟨rfl,rfl,rfl,j,rfl,v,au⟩:=H;obtain⟨A,rfl,n⟩:=ie j;obtain⟨B,rfl,u⟩:=ie v;simp only[nY]at m |-;exact vJ f r (k:=3) rfl U ah q (an0 g n u) m
  by_cases y:k=4
  .subst y;simp only[Int.reduceEq,if_true,if_false,false_or,or_false,or_true,true_or,reduceIte,or_self]at H;simp only[cq,hY,c6]at H;obtain⟨rfl,rfl,rfl,j,rfl,rfl⟩:=H;obtain⟨A,rfl,n⟩:=ie j;simp only[nY]at m |-;exact vJ f r (k:=4) rfl U ah q (aoV g n) m
  by_cases E:k=5
  .subst E;simp only[Int.reduceEq,if_true,if_false,false_or,or_false,or_true,true_or,reduceIte,or_self]at H;simp only[cq,jC,hY,c6]at H;obtain⟨rfl,aa,j,rfl,rfl⟩:=H;obtain⟨A,rfl,n⟩:=ie j;simp only[nY]at m |-;exact vJ f r (k:=5) rfl U ah q (alj g n) m
  by_cases Q:k=6
  .subst Q;simp only[Int.reduceEq,if_true,if_false,false_or,or_false,or_true,true_or,reduceIte,or_self]at H;simp only[cq,hY,c6,fH]at H;obtain⟨rfl,rfl,rfl,j,rfl,v,au⟩:=H;obtain⟨A,rfl,n⟩:=ie j;obtain⟨B,rfl,u⟩:=ie v;simp only[nY]at m |-;exact vJ f r (k:=6) rfl U ah q (aeG g n u) m
  by_cases D:k=7
  .subst D;simp only[Int.reduceEq,if_true,if_false,false_or,or_false,or_true,true_or,reduceIte,or_self]at H;simp only[cq,hY,c6,pQ]at H;obtain⟨rfl,j,rfl,v,aY⟩:=H;obtain⟨A,rfl,n⟩:=ie j;obtain⟨B,rfl,u⟩:=ie v;simp only[nY]at m |-;exact vJ f r (k:=7) rfl U ah q (amh g n u J) m
  by_cases N:k=8
  .subst N;simp only[Int.reduceEq,if_true,if_false,false_or,or_false,or_true,true_or,reduceIte,or_self]at H;simp only[cq,hY,c6,fH]at H;obtain⟨rfl,rfl,rfl,j,v,Z,_,_⟩:=H;obtain⟨A,rfl,n⟩:=ie j;obtain⟨B,rfl,u⟩:=ie v;obtain⟨X,rfl,hc⟩:=ie Z;simp only[nY]at m |-;exact vJ f r (k:=8) rfl U ah q (aoc g n u hc) m
  by_cases R:k=9
  .subst R;simp only[Int.reduceEq,if_true,if_false,false_or,or_false,or_true,true_or,reduceIte,or_self]at H;simp only[cq,hY,c6]at H;obtain⟨rfl,rfl,rfl,j,rfl,rfl⟩:=H;obtain⟨A,rfl,n⟩:=ie j;simp only[nY]at m |-;exact vJ f r (k:=9) rfl U ah q (akU g n) m
  by_cases M:k=10
  .subst M;simp only[Int.reduceEq,if_true,if_false,false_or,or_false,or_true,true_or,reduceIte,or_self]at H;simp only[cq,hY,c6]at H;obtain⟨rfl,rfl,rfl,j,rfl,rfl⟩:=H;obtain⟨A,rfl,n⟩:=ie j;simp only[nY]at m |-;exact vJ f r (k:=10) rfl U ah q (agI g n) m
  simp[z,x,O,y,E,Q,D,N,R,M]at H
def UN{k a b c:Int}{l o:Bool}{aP:Int}(h:bV F [] k a b c l o aP):∃B:Nat,k=2/\a=0/\b=(B:Int)/\B<=F/\c=0/\l=false/\o=false/\aP=0:=by
 have f:∀i:Int,gW 0 i=false:=λi=>by unfold gW;simp
 unfold bV at h;by_cases H:k=2
 .subst H;simp only[if_true,eR,f,wL,cq,hY,c6,fH]at h;obtain⟨rfl,rfl,rfl,⟨_,rfl⟩,g,j,m,n⟩:=h;obtain⟨B,rfl⟩:=lM g;have:dY [] ((B:Int).toNat)=0:=rfl;rw[this]at n;exact⟨B,rfl,rfl,rfl,J,J,rfl,rfl,rfl⟩
 simp[H,f]at h

structure db where
 k:Int
 a:Int
 b:Int
 c:Int
 l:Bool
 o:Bool
 s:Int
abbrev dm:=List db
def db.ps(m:db):c_:=[.int .i64 m.k,.int .i64 m.a,.int .i64 m.b,.int .i64 m.c,.bool m.l,.bool m.o,.int .i64 m.s]
abbrev Kp(ms:dm):PV:=.sl (ms.map db.ps)
def Et{M:dm}{k:Nat}{m:db}(h:M[k]?=some m):(M.map db.ps)[k]?=some m.ps:=by rw[gZ,h];rfl
def Fa(L:aI)(c:b_)(blk:aB):Prop:=aW 832256128 ze 6 (ur L) (.one c) blk\/aW 832512129 ze 6 (ur L) (.one c) blk\/(L=[]/\c=.p (.sl []))
def Fa.snap{c:b_}{blk:aB}(h:Fa L c blk):∃r,Go.Abs.snap blk dS c=some (jF L,r):=by
 rcases h with h|h|⟨rfl,rfl⟩
 .obtain⟨r,H,_⟩:=h.dS;exact⟨r,H⟩
 .obtain⟨r,H,_⟩:=h.dS;exact⟨r,H⟩
 exact⟨[],rfl⟩
def Fa.of_eq{c:b_}{blk ak:aB}(h:Fa L c blk)(H:ak 832256128=blk 832256128)(f:ak 832512129=blk 832512129):Fa L c ak:=by
 rcases h with h|h|h
 .exact .inl (h.of_eq H)
 .exact .inr (.inl (h.of_eq f))
 exact .inr (.inr h)
def ans{blk:aB}{rd:aA}{s:Nat}{e:Int}{l:Bool}:d_ blk rd s ((rm e).eU l)=some (.tup [.agg [.p (.int .i64 0),.p .nils],.one (.p (.int .i64 e))],[]):=by cases l<;>(unfold d_;rw[aM (.inr rfl)];rfl)
abbrev Gx(m:db):V:=dp m.k m.a m.b m.c m.l m.o m.s
def HZ(s:Nat)(L:aI)(c:b_)(blk:aB):Prop:=aW s ze 6 (ur L) (.one c) blk\/(L=[]/\c=.p (.sl []))
def HZ.snap{s:Nat}{c:b_}{blk:aB}(h:HZ s L c blk):∃r,Go.Abs.snap blk dS c=some (jF L,r):=by
 rcases h with h|⟨rfl,rfl⟩
 .obtain⟨r,H,_⟩:=h.dS;exact⟨r,H⟩
 exact⟨[],rfl⟩
def HZ.of_eq{s:Nat}{c:b_}{blk ak:aB}(h:HZ s L c blk)(H:ak s=blk s):HZ s L c ak:=by
 rcases h with h|h
 .exact .inl (h.of_eq H)
 exact .inr h
def lZ(x y:db):Bool:=decide (x.b<y.b)||(decide (x.b=y.b)&&decide (x.c<y.c))
def yI(m:db):Prop:=(0<=m.b/\m.b<=1000000)/\0<=m.c/\m.c<=1000000
def OS:MG lZ:=⟨λa b h=>by unfold lZ at*;simp at*;omega,λa b c h k=>by unfold lZ at*;simp at*;omega⟩
def aqY(x y:db)(g:yI x)(H:yI y):∃n:Int,aC S 104 [Gx x,Gx y] (fy n)/\(decide (n<0)=lZ x y):=by
 obtain⟨⟨v,r⟩,m,X⟩:=g;obtain⟨⟨Y,z⟩,u,q⟩:=H;have f:IntKind.i64.wrap (x.b-y.b)=x.b-y.b:=j_ J J;have j:IntKind.i64.wrap (x.c-y.c)=x.c-y.c:=j_ J J;cases h:(x.b==y.b)with
 |true=>
  have e:x.b=y.b:=eq_of_beq h;refine⟨x.c-y.c,?_,?_⟩
  .refine bG ZO ?_;simp only[go_sem,Si,bne,h,j,ae,ao]
  unfold lZ;rw[kS];simp;omega
 |false=>
  have e:¬x.b=y.b:=by simpa using h
  refine⟨x.b-y.b,?_,?_⟩
  .refine bG ZO ?_;simp only[go_sem,Si,bne,h,f,ae,ao]
  unfold lZ;rw[kS];simp;omega
abbrev bh(o:dm):dC:=o.map db.ps
def ZD(o:dm)(k:Nat)(v:db):(bh o).set k v.ps=bh (o.set k v):=by simp[tK]
def j4(o:dm):I (bh o)=I o:=cT _
def CP(id g n:Nat)(E:dm)(blk:aB)(v:V)(A:aB):Prop:=v=.tup []/\(∃m:dm,A id=(g,some (.arr n 7 (bh m)))/\m.Perm E/\ry lZ m 0 (I m))/\c8 (· =id) blk A
abbrev yH:V:=.one (.p (.fn 104 [] []))
def aio{al:bP}{blk:aB}{id:Nat}{E:dm}(o:al.ok id)(hl:I E<=1000000)(r:∀ag∈E,yI ag)(hC:blk id=(g,some (.arr n 7 (bh E)))):
  ∃v f,ia S 188 [.one (.hsl id g 7 0 (I E)),aq 0,aq (I E),yH] al blk v f/\CP id g n E blk v f:=by
 have u:S.shared 104=false:=ah;refine mU Zz (gU rfl) ?_;have w0:IntKind.i64.wrap (0+1)=((0+1:Nat):Int):=U;simp only[go_sem,Se,w0,ae,ao];refine cD (λk A f=>A 0=.one (.hsl id g 7 0 (I E))/\A 1=aq 0/\A 2=aq (I E)/\A 3=yH/\A 8=aq ((k+1:Nat):Int)/\ ∃zs:dm,f id=(g,some (.arr n 7 (bh zs)))/\zs.Perm E/\ry lZ zs 0 (k+1)/\c8 (· =id) blk f) 0 (I E) (bC _) ?_ ?_
 .simp only[go_sem];exact⟨rfl,E,hC,.refl _,λp q x y _ F z=>J,c8.refl _ _⟩
 rintro k A bp hk ⟨h0,F,z,T,h6,zs,hZ,hp,aa,cR⟩
 have mI:=hp.length_eq;by_cases au:k+1<I E
 .have N:((k+1:Nat):Int)<(I E:Int):=J;obtain⟨x,hx⟩:=bq (h:=zs) (k:=k+1) J;have sx:yI x:=r x (hp.mem_iff.1 (bY hx));simp only[go_sem,JQ,h0,F,z,T,h6,N,ae,ao];refine cD (λq A f=>A 0=.one (.hsl id g 7 0 (I E))/\A 1=aq 0/\A 2=aq (I E)/\A 3=yH/\A 8=aq ((k+1:Nat):Int)/\A 9=aq ((k+1-q:Nat):Int)/\ ∃m:dm,f id=(g,some (.arr n 7 (bh m)))/\uQ lZ zs m x 0 (k+1) (k+1-q)/\c8 (· =id) blk f) 0 (k+1) (bC _) ?_ ?_
  .simp only[go_sem,h0,F,z,T,h6];exact⟨zs,hZ,uQ.start (bC _) hx aa,cR⟩
  rintro q cF aV hq ⟨k0,Z,Y,O,k6,D,m,hW,H,R⟩
  have nj:I m=I E:=H.perm.length_eq.trans mI;have wk:IntKind.i64.wrap (((k+1:Nat):Int)+1)=((k+1+1:Nat):Int):=bJ (n:=k+1) J;by_cases X:k+1-q=0
  .have B:¬((0:Int)<((k+1-q:Nat):Int)):=J;simp only[go_sem,KL,Mz,k0,Z,Y,O,k6,D,B,wk,ae,ao];refine⟨aw,J,m,hW,H.perm.trans hp,H.stop OS (.inl X),R⟩
  obtain⟨j,hj⟩:∃j,k+1-q=j+1:=⟨k-q,J⟩;have B:((0:Int)<((j+1:Nat):Int)):=J;obtain⟨y,L⟩:=bq (h:=m) (k:=j) J;have sy:yI y:=r y ((H.perm.trans hp).mem_iff.1 (bY L));rw[hj]at H D;have wj:IntKind.i64.wrap (((j+1:Nat):Int)-1)=(j:Int):=by rw[oe J];omega
  have kY:=Et H.at';have th:=Et L;have j1:j+1<I E:=by have:=H.le;omega
  have j2:j<I E:=J;obtain⟨ad,pl,M⟩:=aqY x y sx sy;cases Q:lZ x y with
  |false=>
   rw[Q]at M;have pC:¬(ad<0):=by simpa using M
   simp only[go_sem,KL,Mz,k0,Z,Y,O,k6,D,B,wk,wj,hW,kY,th,db.ps,j1,j2,o,u,JU pl,pC,ae,ao];refine⟨aw,J,m,rfl,H.perm.trans hp,H.stop OS (.inr ⟨y,J,L,Q⟩),R⟩
  |true=>
   rw[Q]at M;have pC:ad<0:=by simpa using M
   have tY:=H.step OS (bC _) L Q;have ab:¬(j+1=j):=J;have l1:j+1<I m:=J;have l2:j<I m:=J;simp only[go_sem,KL,Mz,k0,Z,Y,O,k6,D,B,wk,wj,hW,kY,th,db.ps,j1,j2,l1,l2,ab,o,u,JU pl,pC,lC,jc,j4,ae,ao];have IZ:k+1-(q+1)=j:=J;refine⟨aw,aw,J,by rw[IZ],(m.set (j+1) y).set j x,by rw[<-ZD,<-ZD];rfl,by rw[IZ];exact tY,(R.cQ rfl _).cQ rfl _⟩
 have N:¬(((k+1:Nat):Int)<(I E:Int)):=J;simp only[go_sem,JQ,h0,F,z,T,h6,N,ae,ao];exact⟨rfl,⟨zs,hZ,hp,aa.mono (.inl J)⟩,cR⟩
def aqm{al:bP}{blk:aB}{id:Nat}{E:dm}(o:al.ok id)(F:al.fs.contains 188)(hl:I E<=12)(h:∀m∈E,yI m)(H:blk id=(g,some (.arr n 7 (bh E))))(L:Int):
  ∃v A,ia S 158 [.one (.hsl id g 7 0 (I E)),aq 0,aq (I E),aq L,yH] al blk v A/\CP id g n E blk v A:=by
 refine mU Y0 (gU rfl) ?_;have j:IntKind.i64.wrap ((I E:Int)-0)=(I E:Int):=by rw[Int.sub_zero];exact j_ J J
 have r:(I E:Int)<=12:=J;simp only[go_sem,U1,ae,ao];refine mu ?_;simp only[go_sem,RA,j,r,WJ,ae,ao];refine tJ H (by rfl) (.inr ⟨o,by rw[show S.sites 188=[188] by kernel_rfl];simp only[oQ,qF,F,Ba]⟩) (P:=CP id g n E blk) (λx u _=>aio u J h H) λv A q=>?_;obtain⟨rfl,f⟩:=q;simp only[go_sem,ae,ao];exact⟨rfl,f⟩
def ap2{al:bP}{blk:aB}{id:Nat}{E:dm}(o:al.ok id)(F:(S.sites 158).all al.fs.contains)(hl:I E<=12)(H:∀m∈E,yI m)(j:blk id=(g,some (.arr n 7 (bh E)))):
  ∃v A,ia S 103 [.one (.hsl id g 7 0 (I E)),yH] al blk v A/\CP id g n E blk v A:=by
 obtain⟨k,x⟩:=Ow (I E) J;have r:IntKind.u64.wrap (I E:Int)=(I E:Int):=by
  have e:IntKind.u64.wrap (I E:Int)=(I E:Int)%18446744073709551616:=by unfold IntKind.wrap;rfl
  rw[e];omega
 refine mU acL (gU rfl) ?_;have f:S.shared 100=false:=ah;simp only[go_sem,UT,r,f,Uv x,ZC,ae,ao];refine tJ j (by rfl) (.inr ⟨o,F⟩) (P:=CP id g n E blk) (λL u h=>aqm u (by rw[h];kernel_rfl) hl H j k) λv A q=>?_;obtain⟨rfl,h⟩:=q;simp only[go_sem,ae,ao];exact⟨rfl,h⟩
def ahi(o:cS)(x:Int)(hl:I o<=1000000):aC S 63 [.one (.p (.sl (dz o))),aq x] (fy (match (List.range (I o)).find? (mA o x)with|some k=>(k:Int)|none=> -1)):=by
 refine bG aop ?_;simp only[go_sem,Vy,ae,ao];refine cD (λk A blk=>A 0=.one (.p (.sl (dz o)))/\A 1=aq x/\A 7=aq (I o)/\A 8=aq k/\ ∀j,j<k->mA o x j=false) 0 (I o) (bC _) ?_ ?_
 .simp only[go_sem];exact⟨rfl,λj v=>absurd v (l_ j)⟩
 rintro k A blk O ⟨r,F,z,q,u⟩
 by_cases f:k<I o
 .have D:((k:Int)<(I o:Int)):=J;obtain⟨y,B⟩:=bq f;have E:=sQ B;have M:=bJ (n:=k) J;have m:mA o x k=(y==x):=by simp[mA,B]
  cases H:(y==x)with
  |true=>
   have L:(x==y):=by have:=c6.1 H;simp[this]
   rw[H]at m;have g:=wR (p:=mA o x) f u m;simp only[go_sem,MM,r,F,z,q,f,D,E,H,L,g,ae,ao]
  |false=>
   have L:(x==y)=false:=by
    have:¬y=x:=by simpa using H
    simp;exactλh=>this h.symm
   rw[H]at m;have N:∀j,j<k+1->mA o x j=false:=λj v=>by
    rcases jG.1 v with h|rfl
    .exact u j h
    exact m
   simp only[go_sem,MM,r,F,z,q,f,D,E,H,L,M,ae,ao];exact N
 have:k=I o:=J;subst this;have g:=Ek (p:=mA o x) u;simp only[go_sem,MM,aby,r,z,q,dF,g,ae,ao]
def ajA(o:cS)(x:Int)(hl:I o<=1000000):aC S 42 [.one (.p (.sl (dz o))),aq x] (bK (o.contains x)):=by
 have f:=ahi o x hl;refine bG are ?_;cases q:o.contains x with
 |true=>
  have m:x∈o:=by simpa using q
  obtain⟨k,r⟩:=iA m;have D:=(ct.1 r).1;cases h:(List.range (I o)).find? (mA o x)with
  |none=>have:=zf.1 h k (f_.2 D);simp[mA,r]at this
  |some j=>rw[h]at f;have n:(0:Int)<=(j:Int):=J;simp only[go_sem,OH,Wy,dj f,n,ae,ao]
 |false=>
  have m:x∉o:=by simpa using q
  cases h:(List.range (I o)).find? (mA o x)with
  |some j=>
   have H:=EG h;unfold mA at H;cases g:o[j]? with
   |none=>rw[g]at H;cases H
   |some y=>
    rw[g]at H;have:y=x:=by simpa using H
    subst this;exact absurd (bY g) m
  |none=>rw[h]at f;have n:¬(0:Int)<= -1:=U;simp only[go_sem,OH,Wy,dj f,n,ae,ao]
def Ci(a b:db):Bool:=(a.k==b.k)&&((a.a==b.a)&&((a.b==b.b)&&((a.c==b.c)&&((a.l==b.l)&&((a.o==b.o)&&(a.s==b.s))))))
def aic(x y:db):kV [true,true,true,true,false,false,true] [.p (.int .i64 x.k),.p (.int .i64 x.a),.p (.int .i64 x.b),.p (.int .i64 x.c),.p (.bool x.l),.p (.bool x.o),.p (.int .i64 x.s)] [.p (.int .i64 y.k),.p (.int .i64 y.a),.p (.int .i64 y.b),.p (.int .i64 y.c),.p (.bool y.l),.p (.bool y.o),.p (.int .i64 y.s)]=some (Ci x y):=by
 have e:∀a b:Int,k_ true (.int .i64 a) (.int .i64 b)=some (a==b):=λa b=>by simp[k_]
 have E:∀a b:Bool,k_ false (.bool a) (.bool b)=some (a==b):=λa b=>by simp[k_]
 simp only[kV,Ci,e,E];cases(x.k==y.k)<;>cases(x.a==y.a)<;>cases(x.b==y.b)<;>cases(x.c==y.c)<;>cases(x.l==y.l)<;>cases(x.o==y.o)<;>cases(x.s==y.s)<;>rfl
def arG{a b:db}(h:Ci a b):a=b:=by cases a;cases b;unfold Ci at h;simp only[cq,c6]at h;obtain⟨j,f,q,g,n,H,m⟩:=h;subst j f q g n H m;rfl
def amj(a:db):Ci a a:=by unfold Ci;simp
def anO(M:dm)(x:db)(N:I M<=1000000):∃i:Int,((0<=i->x∈M)/\(i<0->x∉M))/\aC S 157 [.one (.p (.sl (bh M))),Gx x] (fy i):=by
 have:∃r,(∃i:Int,((0<=i->x∈M)/\(i<0->x∉M))/\r=fy i)/\aC S 157 [.one (.p (.sl (bh M))),Gx x] r:=by
  refine vm rfl alP (gU rfl) ?_;simp only[go_sem,adC,ae,ao];refine cD (λk A blk=>A 0=.one (.p (.sl (bh M)))/\A 3=.one (.bg 10048000000 1 0)/\blk 10048000000=(1,some (.var [.p (.int .i64 x.k),.p (.int .i64 x.a),.p (.int .i64 x.b),.p (.int .i64 x.c),.p (.bool x.l),.p (.bool x.o),.p (.int .i64 x.s)]))/\A 7=aq (I M)/\A 8=aq k/\x∉M.take k) 0 (I M) (bC _) ?_ ?_
  .simp only[go_sem];simp
  rintro k A blk O ⟨j,z,E,q,g,y⟩
  by_cases u:k<I M
  .have B:((k:Int)<(I M:Int)):=J;obtain⟨m,L⟩:=bq u;have D:=Et L;have v:=bJ (n:=k) J;have f:=aic x m;cases H:Ci x m with
   |true=>rw[H]at f;simp only[go_sem,JG,j,z,E,q,g,u,B,D,db.ps,v,f,ae,ao];exact⟨aw,_,⟨_,⟨λ_=>(arG H)▸bY L,λh=>J⟩,rfl⟩,rfl⟩
   |false=>
    rw[H]at f;simp only[go_sem,JG,j,z,E,q,g,u,B,D,db.ps,v,f,ae,ao];refine⟨aw,λh=>?_⟩;rw[jN,L]at h;rcases fB.1 h with h|h
    .exact y h
    simp only[Option.toList_some,pA]at h;rw[h,amj]at H;cases H
  have:k=I M:=J;subst this;simp only[go_sem,JG,aav,j,q,g,dF,ae,ao];exact⟨_,⟨_,⟨λh=>absurd h U,λ_=>by rwa[iV]at y⟩,rfl⟩,rfl⟩
 obtain⟨_,⟨i,F,rfl⟩,h⟩:=this;exact⟨i,F,h⟩
def aag(m:dm)(x:db)(f:I m<=1000000):∃b,((b=true->x∈m)/\(b=false->x∉m))/\aC S 102 [.one (.p (.sl (bh m))),Gx x] (bK b):=by obtain⟨i,H,g⟩:=anO m x f;refine⟨decide (0<=i),⟨λh=>H.1 (mX h),λh=>H.2 (by have:=fJ h;omega)⟩,?_⟩;refine bG aj4 ?_;simp only[go_sem,WI,aqv,dj g,ae,ao]
def L6{S:eo}{x:Nat}(h:cG S x=false):x<I S:=by
 rcases DE x (I S) with H|H
 .exact H
 rw[cG,dT,o6 H]at h;cases h
def ZH(next:Nat->Nat):∀(k x:Nat) (S:eo),(∀y∈(eZ next k x S).1,cG S y=false)/\(eZ next k x S).1.Nodup/\ ∀y,cG (eZ next k x S).2 y=(cG S y||decide (y∈(eZ next k x S).1)):=by
 intro k
 induction k with
 |zero=>intro x S;simp[eZ]
 |succ k q=>
  intro x S;unfold eZ;cases H:S.getD x true with
  |true=>simp
  |false=>
   have hl:=L6 (S:=S) (x:=x) H;obtain⟨f,g,m⟩:=q (next x) (S.set x true);simp only[ib,if_false];have j:∀y,cG (S.set x true) y=if y=x then true else cG S y:=λy=>Fw hl;refine⟨λy h=>?_,?_,λy=>?_⟩
   .rcases dL.1 h with rfl|h
    .exact H
    have:=f y h;rw[j]at this;split at this
    .cases this
    exact this
   .refine n9.2 ⟨λn=>?_,g⟩;have:=f x n;rw[j,aM rfl]at this;cases this
   rw[m,j];by_cases e:y=x
   .subst e;simp
   rw[aD e];have:decide (y∈x::(eZ next k (next x) (S.set x true)).1)=decide (y∈(eZ next k (next x) (S.set x true)).1):=by simp[e]
   rw[this]
def afe(next:Nat->Nat)(N:Nat):∀k,(dN next N k).1.flatten.Nodup/\(∀y,y<N->cG (dN next N k).2 y=decide (y∈(dN next N k).1.flatten))/\(∀y∈(dN next N k).1.flatten,y<N)/\ ∀x,x<k->x<N->cG (dN next N k).2 x:=by
 intro k
 induction k with
 |zero=>refine⟨by simp[dN],λy H=>?_,by simp[dN],λx f=>absurd f (l_ x)⟩;have:(dN next N 0).2=List.replicate N false:=rfl;rw[this,N0 H];simp[dN]
 |succ k L=>
  obtain⟨q,g,m,u⟩:=L;rw[s_];unfold qX;have r:=Ce next N k;cases n:(dN next N k).2.getD k true with
  |true=>
   rw[aM rfl];refine⟨q,g,m,λx f Y=>?_⟩;rcases jG.1 f with h|rfl
   .exact u x h Y
   exact n
  |false=>
   rw[aD U];have F:k<N:=by have:=L6 (S:=(dN next N k).2) n;omega
   obtain⟨g1,A,v⟩:=ZH next ((dN next N k).2.length+1) k (dN next N k).2;have D:=aca next ((dN next N k).2.length+1) k (dN next N k).2 (by have:=EK (dN next N k).2;omega);refine⟨?_,λy H=>?_,?_,λx f Y=>?_⟩
   .rw[wU,xh];refine⟨q,by simpa using A,λy H z B=>?_⟩;rintro rfl
    have E:=g1 y (by simpa using B);have j:=m y H;rw[g y j]at E;simp[H]at E
   .rw[v,g y H,wU,kS];simp
   .intro y H;rw[wU,fB]at H;rcases H with H|H
    .exact m y H
    have:=L6 (g1 y (by simpa using H));omega
   rcases jG.1 f with h|rfl
   .rw[v,u x h Y];rfl
   exact D
def LH(next:Nat->Nat)(N:Nat):(fW next N).flatten.Nodup/\ ∀y,y<N->y∈(fW next N).flatten:=by obtain⟨f,H,_,g⟩:=afe next N N;refine⟨f,λy h=>?_⟩;have:=g y h h;rw[H y h]at this;exact mX this
def adu{L:List aA}(h:L.flatten.Nodup){i:Nat}{a b:aA}{x:Nat}(H:L[i]?=some a)(f:L[j]?=some b)(n:x∈a)(m:x∈b):i=j:=by
 induction L generalizing i j with
 |nil=>simp at H
 |cons l L r=>
  rw[kT,xh]at h;obtain⟨_,q,g⟩:=h;cases i with
  |zero=>
   simp at H;subst H;cases j with
   |zero=>rfl
   |succ j=>simp at f;exact absurd rfl (g x n x (Ho.2 ⟨b,bY f,m⟩))
  |succ i=>
   simp at H;cases j with
   |zero=>simp at f;subst f;exact absurd rfl (g x m x (Ho.2 ⟨a,bY H,n⟩))
   |succ j=>simp at f;rw[r q H f]
section
variable {F:Nat} {h:aI}
def V1(H:(cZ F h)[j]?=some f):∃w,(fW (bZ h) (bH h))[j]?=some w/\f=iP F h w:=by
 unfold cZ at H;rw[gZ]at H;cases g:(fW (bZ h) (bH h))[j]? with
 |none=>rw[g]at H;cases H
 |some w=>rw[g]at H;cases H;exact⟨w,rfl,rfl⟩
def M4{i:Nat}{a b:cM}{d:Nat}(q:(cZ F h)[i]?=some a)(m:(cZ F h)[j]?=some b)(H:d∈a.aT)(f:d∈b.aT):i=j:=by obtain⟨v,n,rfl⟩:=V1 q;obtain⟨w,g,rfl⟩:=V1 m;rw[yB]at H f;exact adu (LH _ _).1 n g (tx.1 H).1 (tx.1 f).1
def Yu(g:f∈cZ F h):f.aT.Nodup:=by obtain⟨w,H,rfl⟩:=eJ.1 g;rw[yB];have:=(LH (bZ h) (bH h)).1;exact List.Pairwise.sublist List.filter_sublist (List.Pairwise.sublist (List.sublist_flatten_of_mem H) this)
def aoO{d:Nat}(g:d<2*I h):∃(j:Nat) (f:cM),(cZ F h)[j]?=some f/\d∈f.aT:=by
 have:=(LH (bZ h) (bH h)).2 d (by unfold bH;omega);obtain⟨w,m,H⟩:=Ho.1 this;obtain⟨j,q⟩:=iA m;have n:(cZ F h)[j]?=some (iP F h w):=by unfold cZ;rw[gZ,q];rfl
 refine⟨j,iP F h w,n,?_⟩;rw[yB];exact tx.2 ⟨H,by simpa using g⟩
def VB{D:aA}{v:Nat}{d:Nat}:∀ {L:aA},d<I L->(mB L D v)[d]?=if d∈D then some v else L[d]? :=by
 induction D with
 |nil=>intro L _;simp[mB]
 |cons e D j=>
  intro L f;show(mB (L.set e v) D v)[d]?=_;rw[j (by simpa using f),lC];by_cases g:d∈D
  .simp[g]
  by_cases H:e=d
  .subst H;simp[f]
  have:d≠e:=λh=>H h.symm;simp[g,H,this]
def ahf{d:Nat}:∀ {fs:wi}{j:Nat}{L:aA},d<I L->(∀f∈fs,d∉f.aT)->(nE fs j L)[d]?=L[d]? :=by
 intro fs
 induction fs with
 |nil=>intro j L _ _;rfl
 |cons f fs m=>intro j L H h;show(nE fs (j+1) (mB L f.aT j))[d]?=_;rw[m (by rw[Gr];exact H) λg n=>h g (by simp[n]),VB H,aD (h f aG)]
def aqj{d:Nat}:∀ {fs:wi}{j i:Nat}{L:aA}{f:cM},d<I L->fs[i]?=some f->d∈f.aT->(∀m F,fs[m]?=some F->d∈F.aT->m=i)->(nE fs j L)[d]?=some (j+i):=by
 intro fs
 induction fs with
 |nil=>intro j i L f _ h;simp at h
 |cons g fs v=>
  intro j i L f n H q r;show(nE fs (j+1) (mB L g.aT j))[d]?=_;cases i with
  |zero=>
   simp at H;subst H;rw[ahf (by rw[Gr];exact n),VB n,aM q]
   .rfl
   intro F A z;obtain⟨m,y⟩:=iA A;have:=r (m+1) F (by simpa using y) z;omega
  |succ i=>simp at H;rw[v (by rw[Gr];exact n) H q λm F x u=>by have:=r (m+1) F (by simpa using x) u;omega];congr 1;omega
def left_at{d:Nat}(n:d<2*I h)(H:(cZ F h)[j]?=some f)(g:d∈f.aT):(gK F h)[d]?=some j:=by unfold gK;rw[aqj (by simpa using n) H g λu r m q=>M4 m H q g];congr 1;omega
def wP{d:Nat}(g:d<2*I h):∃j,(cZ F h)[j]?=some (cK F h d)/\d∈(cK F h d).aT/\(gK F h)[d]?=some j:=by
 obtain⟨j,f,H,m⟩:=aoO (F:=F) g;have hl:=left_at g H m;have e:cK F h d=f:=by unfold cK;rw[dT (l:=gK F h),hl,jV,dT,H,jV]
 exact⟨j,e▸H,e▸m,hl⟩
def Ur{d:Nat}(m:d<2*I h)(q:f∈cZ F h)(n:d∈f.aT):cK F h d=f:=by obtain⟨j,g,r,_⟩:=wP (F:=F) m;obtain⟨i,H⟩:=iA q;have:=M4 H g n r;subst this;rw[g]at H;cases H;rfl
def CV{d:Nat}(H:d<2*I h):cK F h d∈cZ F h:=by obtain⟨j,f,_⟩:=wP (F:=F) H;exact bY f
def aq3{d:Nat}(H:d<2*I h):(cZ F h).find? (λf=>f.aT.contains d)=some (cK F h d):=by
 cases j:(cZ F h).find? (λf=>f.aT.contains d)with
 |none=>have:=zf.1 j _ (CV H);obtain⟨_,_,g,_⟩:=wP (F:=F) H;simp[g]at this
 |some f=>have m:=Er j;have g:=EG j;rw[Ur H m (by simpa using g)]
def vS(g:Nat)(E:aA)(f:cM):Bool:=(I f.aT==I E)&&((I f.places==g)&&E.all λe=> !(decide (2*e∈f.aT)==decide (2*e+1∈f.aT)))
def qK(F:Nat)(h:aI)(f:Nat)(E:aA):Bool:=(cZ F h).any (vS f E)
def ann(h:f.aT.Nodup)(e:Nat):rR f e=(if 2*e∈f.aT then 1 else 0)+(if 2*e+1∈f.aT then 1 else 0):=by
 unfold rR;generalize f.aT=D at h
 induction D with
 |nil=>simp
 |cons d D m=>
  obtain⟨H,n⟩:=n9.1 h;rw[sO,m n];by_cases g:d=2*e
  .subst g;have:(2*e/2==e):=aG;have E:¬(2*e+1=2*e):=J;simp[this,H,E];omega
  by_cases j:d=2*e+1
  .subst j;have:((2*e+1)/2==e):=by simp;omega
   have E:¬(2*e=2*e+1):=J;simp[this,H,E]
  have:(d/2==e)=false:=by simp;omega
  have E:¬(2*e=d):=λh=>g h.symm;have q:¬(2*e+1=d):=λh=>j h.symm;simp[this,E,q]
def Ws(h:f.aT.Nodup)(g:Nat)(E:aA):tG f g E=vS g E f:=by unfold tG vS;congr 2;refine List.all_congr rfl λe=>?_;rw[ann h];by_cases H:2*e∈f.aT<;>by_cases j:2*e+1∈f.aT<;>simp[H,j]
def SS{q:Nat}{E:aA}{g:Nat}(x:E[0]?=some g)(v:g<I h):nD F h q E g=qK F h q E:=by
 unfold nD qK;have u:=CV (F:=F) (h:=h) (d:=2*g) J;have M:=CV (F:=F) (h:=h) (d:=2*g+1) J;rw[Ws (Yu u),Ws (Yu M),kS,jC,Ad];constructor
 .rintro (j|j)
  .exact⟨_,u,j⟩
  exact⟨_,M,j⟩
 rintro⟨f,m,j⟩
 have H:=j;unfold vS at H;simp only[cq,gL]at H;have:=H.2.2 g (bY x);by_cases r:2*g∈f.aT
 .left;rw[Ur J m r];exact j
 by_cases n:2*g+1∈f.aT
 .right;rw[Ur J m n];exact j
 simp[r,n]at this
end
end
end Go.Abs
