/- A part. -/
import Derived.Test.YtpfkjhlcoghioaaGreatDoorWb
set_option linter.all false
open List renaming length->I
set_option maxRecDepth 100000
set_option maxHeartbeats 16000000
namespace Go.Abs
variable{m ty y s1 t1 z1 j M X Z idG gG tG N T:Nat}{H:dy}{L:ae}{D:dK}{Y dF:Int}{O:cT}{R E E':Nat->Nat->Prop}
section
variable{u:ae}{F z B n v x:Nat}{f:cX}
def eI(l:bK)(i:Nat)(r:Int):bK:=l.set i {(l.getD i ⟨jJ,false⟩)with l:={(l.getD i ⟨jJ,false⟩).l with ao:=r}}
def vx(l:bK)(i:Nat)(r:Int):I (eI l i r)=I l:=by simp[eI]
def sE(F:Nat)(u:ae)(z B:Nat):Option bK:=
 if(ff u z).2.2&&((ff u B).2.2&&(!((ff u z).2.1==(ff u B).2.1)&&(((bR u (ff u z).2.1).l.id==(bR u (ff u B).2.1).l.id)&&pN F u 1 [z,B] z)))
 then some (dY u (eI (eI (aJ u) (ff u z).1 (bR u (ff u B).1).l.ao) (ff u B).1 (bR u (ff u z).1).l.ao) [z,B])else none
def UR{e:Nat}(H:e<I u):(ff u e).1<I u/\(ff u e).2.1<I u:=by
 have h:=dB (e+1) (show 0<I u by omega);unfold ff nx
 grind
def aDT(g:aU F u)(ha:z<I u)(hb:B<I u){k c:Int}{l o:Bool}{sg:Int}:
  aC S 116 [.one (.p (fk F u)),c6 k z B c l o sg] (vu (sE F u z B)):=by
 have ar:=g.len;have bQ:=dI u;have v:=anC g ha;have pb:=anC g hb;have pc:=aaX g [z,B] aG rfl ha 1;obtain⟨p1,mr⟩:=UR ha;obtain⟨q1,w1⟩:=UR hb;unfold sE;generalize ff u z=x at*;generalize ff u B=y at*;obtain⟨f,O,one⟩:=x;obtain⟨L,N,two⟩:=y;simp only at v pb p1 mr q1 w1 |-;simp only[fq,ml]at pc;have c1:((1:Nat):Int)=1:=rfl;rw[c1]at pc;obtain⟨P,hP⟩:=aP (h:=aJ u) (k:=f) J;obtain⟨Q,hQ⟩:=aP (h:=aJ u) (k:=L) J;obtain⟨V,hV⟩:=aP (h:=aJ u) (k:=O) J;obtain⟨W,hW⟩:=aP (h:=aJ u) (k:=N) J;rw[jL hP,jL hQ,jL hV,jL hW];have Y:=kA hP;have an:=kA hQ;have D:=kA hV;have h:=kA hW;have aN:aJ u≠[]:=iW.1 J;have ap:=Qu aN J;have lo:S.lone 7424384256=false:=ah
 refine ba aGB ?_;cases one with
 |false=>simp only[go_sem,Jv,Lm,dt v Aw,dt pb Aw];exact⟨aK,rfl⟩
 |true=>
 cases two with
 |false=>simp only[go_sem,Jv,Lm,dt v Aw,dt pb Aw];exact⟨aK,rfl⟩
 |true=>
 cases c2:(O==N)with
 |true=>
  have T:((O:Int)==(N:Int)):=by simp[show O=N by simpa using c2]
  simp only[go_sem,Jv,Lm,dt v Aw,dt pb Aw,T];exact⟨aK,rfl⟩
 |false=>
 have T:((O:Int)==(N:Int))=false:=by
  have:¬O=N:=by simpa using c2
  simp;omega
 cases c4:(V.l.id==W.l.id)with
 |false=>
  have n3:(V.l.id !=W.l.id):=aHL
  simp only[go_sem,Jv,Lm,dt v Aw,dt pb Aw,T,D,h,aQ.ps,n3];exact⟨aK,rfl⟩
 |true=>
 have n3:(V.l.id !=W.l.id)=false:=aHL
 cases fv:pN F u 1 [z,B] z with
 |false=>rw[fv]at pc;simp only[go_sem,Jv,Lm,dt v Aw,dt pb Aw,T,D,h,aQ.ps,n3,Oo,mA pc];exact⟨aK,rfl⟩
 |true=>
 rw[fv]at pc;simp only[go_sem,Jv,Lm,dt v Aw,dt pb Aw,T,D,h,Y,an,aQ.ps,n3,Oo,mA pc,Gj];refine⟨aK,aK,?_⟩;refine pB ap lo (.inl rfl) λcc mN gc ia=>?_;have b3:=ia 7424000000 aa;simp only[go_sem]at b3;rcases gc with⟨e,_⟩|⟨_,gg,e,hC⟩
 .exact absurd aH0 aN
 cases e;rw[ct,bQ];have s1:=B7 (aJ u) f {P with l:={P.l with ao:=Q.l.ao}};have jr:(aJ u).set f {P with l:={P.l with ao:=Q.l.ao}}=eI (aJ u) f Q.l.ao:=by unfold eI;rw[dM,hP];rfl
 rw[jr]at s1;have nO:I (eI (aJ u) f Q.l.ao)=I u:=by rw[vx,bQ]
 obtain⟨Q',X⟩:=aP (h:=eI (aJ u) f Q.l.ao) (k:=L) J;have ag:=kA X;have E:=B7 (eI (aJ u) f Q.l.ao) L {Q' with l:={Q'.l with ao:=P.l.ao}};have ir:(eI (aJ u) f Q.l.ao).set L {Q' with l:={Q'.l with ao:=P.l.ao}}=eI (eI (aJ u) f Q.l.ao) L P.l.ao:=by rw[eI.eq_def (eI (aJ u) f Q.l.ao),dM,X];rfl
 rw[ir]at E;simp only[aQ.ps]at s1 E;have rR:I (eI (eI (aJ u) f Q.l.ao) L P.l.ao)=I u:=by rw[vx,nO]
 simp only[go_sem,b3,hC,Y,ag,aQ.ps,s1,E,p1,q1];generalize eI (eI (aJ u) f Q.l.ao) L P.l.ao=M at rR |-;obtain⟨H,Uz⟩:∃H,H=[z,B]:=⟨_,rfl⟩;have Gv:I H=2:=by rw[Uz];rfl
 have fD:∀e∈H,e<I u:=λe j=>by rw[Uz]at j;simp only[dh,e_,or_false]at j;rcases j with rfl|rfl<;>assumption
 refine cZ (λk A blk=>A 0=.one (.p (fk F u))/\A 14=.one (.hsl 7424384256 gg 7 0 (I u))/\(∃R,A 116=.one (.hsl 7424512256 R 1 0 2)/\blk 7424512256=(R,some (.arr 3 1 (aY H))))/\A 117=ai ((2:Nat):Int)/\A 118=ai k/\blk 7424384256=(gg,some (.arr mY 7 (dP (dY u M (H.take k)))))) 0 2 (bj _) ?_ ?_
 .simp only[go_sem];exact⟨⟨_,rfl,by rw[Uz];rfl⟩,rfl,rfl⟩
 rintro k A blk hk ⟨h0,AX,⟨R,HU,bE⟩,Z,ad,bO⟩
 by_cases aw:k<2
 .have aL:((k:Int)<((2:Nat):Int)):=J;have Iq:k<I H:=J;obtain⟨e,j⟩:=aP Iq;have am:=i_ j;have Qo:=fD e (a8 j);have pe:=FB g Qo;have w1:=cg (n:=k) J;have iw:dY u M (H.take (k+1))=ig u (dY u M (H.take k)) e:=by
   unfold dY;rw[jM,j,Bq];rfl
  have iX:I (dY u M (H.take k))=I u:=by rw[yX,rR]
  have hm:=dB (e+1) (show 0<I u by omega);generalize dY u M (H.take k)=m at bO iw iX;obtain⟨p,hp⟩:=aP (h:=m) (k:=e) J;obtain⟨q,hq⟩:=aP (h:=m) (k:=(e+1)%I u) J;have dp:=kA hp;have Ba:=kA hq;have l1:e<I m:=J;have l2:(e+1)%I u<I m:=J;have s1:=B7 m e q;have yB:(m.set e q).set ((e+1)%I u) p=ig u m e:=by unfold ig nx;rw[dM,hq,dM,hp];rfl
  have E:=B7 (m.set e q) ((e+1)%I u) p;rw[yB,<-iw]at E;simp only[aQ.ps]at s1 E;obtain⟨q',Fa⟩:=aP (h:=m.set e q) (k:=(e+1)%I u) aIp;have ak:=kA Fa;simp only[go_sem,adR,h0,AX,HU,Z,ad,bE,bO,aw,aL,am,oK,dt pe kR,Qo,hm,dp,Ba,ak,s1,E,aQ.ps,w1];first|exact⟨aK,R,rfl,rfl⟩|exact⟨aK,⟨R,rfl,rfl⟩⟩|exact⟨aK,⟨R,rfl,rfl⟩,rfl⟩|trace_state
 have:k=2:=J;subst this;have e1:H.take 2=[z,B]:=by rw[Uz];rfl
 rw[e1]at bO;have kI:¬(((2:Nat):Int)<((2:Nat):Int)):=J;simp only[go_sem,adR,akb,AX,Z,ad,kI];have h1:I (dY u M [z,B])=I u:=by rw[yX,rR]
 refine Ak (.inr ⟨?_,gg,by rw[mw,ct,h1],bO⟩);intro h2;have:=congrArg List.length h2;rw[mw,ct,h1,fB]at this;omega
def qi(l:bK)(i:Nat)(g r:Int):bK:=l.set i {(l.getD i ⟨jJ,false⟩)with l:={(l.getD i ⟨jJ,false⟩).l with gate:=g,ao:=r}}
def wY(F:Nat)(u:ae)(z:Nat):Option bK:=
 if((bR u z).l.kind==1)&&(decide ((bR u z).l.gate<(F:Int))&&((bR u z).l.ao==(aZ u (bR u z).l.gate.toNat:Int)))
 then some (qi (dT (aJ u) ((bR u z).l.gate+1) 0 1) z ((bR u z).l.gate+1) 1)else none
def aGZ(g:aU F u)(ha:z<I u){b c:Int}{l o:Bool}{sg:Int}:
  aC S 122 [.one (.p (fk F u)),c6 9 z b c l o sg] (vu (wY F u z)):=by
 unfold wY;have X:=g.len;have bQ:=dI u;obtain⟨p,hp⟩:=aP (h:=aJ u) (k:=z) J;have D:=kA hp;have Y:aJ u≠[]:=iW.1 J;have v:=Qu Y J;have lo:S.lone 7808256256=false:=ah;have gO:S.shared 151:=ah;have qZ:=Jt g;rw[jL hp];refine ba ak7 ?_;cases y:(p.l.kind==1)with
 |false=>
  have N:(p.l.kind !=1):=aIu
  simp only[go_sem,E5,D,aQ.ps,N];exact⟨aK,rfl⟩
 |true=>
 have N:(p.l.kind !=1)=false:=aIu
 obtain⟨i,l0,xt,mg⟩:=RQ (a8 hp);have R:ub F u p.l:=Fn
 obtain⟨G,h⟩:=lV R.g0;have zE:G<=F:=by have:=R.g1;omega
 have EO:=g.fing;have wG:=cg (n:=G) J;have tH:=i_ (JL (h:=u) zE);have Gn:G<I (gY u F):=by simp[gY];omega
 have eG:p.l.gate.toNat=G:=EQ
 rw[eG];by_cases c2:G<F
 .have T:((G:Int)<(F:Int)):=J;have Q:decide (p.l.gate<(F:Int))=true:=uG aIh;cases c4:(p.l.ao==(aZ u G:Int))with
  |false=>simp only[go_sem,E5,D,aQ.ps,N,h,Gj];refine⟨aK,?_⟩;refine pB v lo (.inl rfl) λcc mN L j=>?_;have B:=j 7808000000 aa;have f:=j 7808064512 aa;simp only[go_sem]at B f;simp only[go_sem,B,f,T,tH,c4];exact⟨aK,rfl⟩
  |true=>
   have H:p.l.gate+1=((G+1:Nat):Int):=aIt
   rw[Q,H];simp only[go_sem,E5,D,aQ.ps,N,Gj];refine⟨aK,?_⟩;refine pB v lo (.inl rfl) λcc mN L j=>?_;have B:=j 7808000000 aa;have f:=j 7808064512 aa;simp only[go_sem]at B f;simp only[go_sem,B,f,h,T,tH,c4,wG,gO];refine⟨aK,?_⟩;refine Nf J aa qZ L λcE E cU=>?_;have O8:=(cU 7808000000 aa).trans B;have O9:=(cU 7808064512 aa).trans f;rcases E with⟨e,_⟩|⟨_,gg,e,Z⟩
   .exact absurd aHR Y
   cases e;have A:I (dT (aJ u) ((G+1:Nat):Int) 0 1)=I u:=by rw[ct,bQ]
   obtain⟨x,M⟩:=aP (h:=dT (aJ u) ((G+1:Nat):Int) 0 1) (k:=z) J;have e0:qi (dT (aJ u) ((G+1:Nat):Int) 0 1) z ((G+1:Nat):Int) 1=(dT (aJ u) ((G+1:Nat):Int) 0 1).set z {x with l:={x.l with gate:=((G+1:Nat):Int),ao:=1}}:=by unfold qi;rw[dM,M];rfl
   rw[e0];generalize dT (aJ u) ((G+1:Nat):Int) 0 1=m at Z A M |-;have gR:=kA M;have s1:=B7 m z {x with l:={x.l with gate:=((G+1:Nat):Int)}};have qE:(m.set z {x with l:={x.l with gate:=((G+1:Nat):Int)}})[z]?=some {x with l:={x.l with gate:=((G+1:Nat):Int)}}:=aIf
   have QW:=kA qE;have O:=B7 (m.set z {x with l:={x.l with gate:=((G+1:Nat):Int)}}) z {x with l:={x.l with gate:=((G+1:Nat):Int),ao:=1}};rw[QL]at O;simp only[aQ.ps]at s1 O QW;have l1:z<I m:=J;simp only[go_sem,O8,O9,Z,A,ha,gR,QW,aQ.ps,h,s1,O,wG];refine⟨aK,?_⟩;refine Ak (.inr ⟨?_,gg,by rw[mw,ct,oF,A],rfl⟩);intro h2;have:=congrArg List.length h2;rw[mw,ct,oF,A,fB]at this;omega
 have T:¬((G:Int)<(F:Int)):=J;have Q:decide (p.l.gate<(F:Int))=false:=uE aIh;simp only[go_sem,E5,D,aQ.ps,N,Gj];refine⟨aK,?_⟩;refine pB v lo (.inl rfl) λcc mN L j=>?_;have B:=j 7808000000 aa;have f:=j 7808064512 aa;simp only[go_sem]at B f;simp only[go_sem,B,f,h,T];exact⟨aK,rfl⟩
def xE(u:ae)(z:Nat):Option bK:=
 if((bR u z).l.kind==1)&&(decide (0<(bR u z).l.gate)&&((bR u z).l.ao==1))
 then some (qi (dT (aJ u) (bR u z).l.gate 1 (-1)) z ((bR u z).l.gate-1) ((aZ u ((bR u z).l.gate-1).toNat+1:Nat):Int))else none
def aAe(g:aU F u)(ha:z<I u){b c:Int}{l o:Bool}{sg:Int}:
  aC S 122 [.one (.p (fk F u)),c6 10 z b c l o sg] (vu (xE u z)):=by
 unfold xE;have Y:=g.len;have bQ:=dI u;obtain⟨p,hp⟩:=aP (h:=aJ u) (k:=z) J;have D:=kA hp;have Z:aJ u≠[]:=iW.1 J;have v:=Qu Z J;have lo:S.lone 7808256256=false:=ah;have gO:S.shared 151:=ah;have qZ:=Jt g;rw[jL hp];refine ba ak7 ?_;cases y:(p.l.kind==1)with
 |false=>
  have N:(p.l.kind !=1):=aIu
  simp only[go_sem,E5,D,aQ.ps,N];exact⟨aK,rfl⟩
 |true=>
 have N:(p.l.kind !=1)=false:=aIu
 obtain⟨i,l0,xt,mg⟩:=RQ (a8 hp);have X:ub F u p.l:=Fn
 obtain⟨G,h⟩:=lV X.g0;have zE:G<=F:=by have:=X.g1;omega
 have EO:=g.fing;by_cases c2:0<G
 .have T:((0:Int)<(G:Int)):=J;obtain⟨H,rfl⟩:∃H,G=H+1:=⟨G-1,J⟩;have R:decide (0<p.l.gate)=true:=uG aIh;have wG:=EU (a:=H+1) J J;rw[Jh]at wG;have tH:=i_ (JL (h:=u) (show H<=F by omega));have Gn:H<I (gY u F):=by simp[gY];omega
  have eh:aZ u H<=I u:=ny _ _;have wC:=cg (n:=aZ u H) J;have L:p.l.gate-1=(H:Int):=aIt
  cases c4:(p.l.ao==1)with
  |false=>simp only[go_sem,E5,D,aQ.ps,N,h,Gj];refine⟨aK,?_⟩;refine pB v lo (.inl rfl) λcc mN M j=>?_;have B:=j 7808000000 aa;have f:=j 7808064512 aa;simp only[go_sem]at B f;simp only[go_sem,B,f,T,c4];first|exact⟨aK,rfl⟩|rfl
  |true=>
   rw[R,L,h,lJ];simp only[go_sem,E5,D,aQ.ps,N,Gj];refine⟨aK,?_⟩;refine pB v lo (.inl rfl) λcc mN M j=>?_;have B:=j 7808000000 aa;have f:=j 7808064512 aa;simp only[go_sem]at B f;simp only[go_sem,B,f,h,T,c4,gO];refine⟨aK,?_⟩;refine Nf J aa qZ M λcE E cU=>?_;have O8:=(cU 7808000000 aa).trans B;have O9:=(cU 7808064512 aa).trans f;rcases E with⟨e,_⟩|⟨_,gg,e,hC⟩
   .exact absurd aHR Z
   cases e;have A:I (dT (aJ u) ((H+1:Nat):Int) 1 (-1))=I u:=by rw[ct,bQ]
   obtain⟨x,O⟩:=aP (h:=dT (aJ u) ((H+1:Nat):Int) 1 (-1)) (k:=z) J;have e0:qi (dT (aJ u) ((H+1:Nat):Int) 1 (-1)) z (H:Int) ((aZ u H+1:Nat):Int)=(dT (aJ u) ((H+1:Nat):Int) 1 (-1)).set z {x with l:={x.l with gate:=(H:Int),ao:=((aZ u H+1:Nat):Int)}}:=by unfold qi;rw[dM,O];rfl
   rw[e0];generalize dT (aJ u) ((H+1:Nat):Int) 1 (-1)=m at hC A O |-;have gR:=kA O;have s1:=B7 m z {x with l:={x.l with gate:=(H:Int)}};have qE:(m.set z {x with l:={x.l with gate:=(H:Int)}})[z]?=some {x with l:={x.l with gate:=(H:Int)}}:=aIf
   have QW:=kA qE;have Q:=B7 (m.set z {x with l:={x.l with gate:=(H:Int)}}) z {x with l:={x.l with gate:=(H:Int),ao:=((aZ u H+1:Nat):Int)}};rw[QL]at Q;simp only[aQ.ps]at s1 Q QW;have l1:z<I m:=J;simp only[go_sem,O8,O9,hC,A,ha,gR,QW,aQ.ps,h,s1,Q,wG,tH,wC];refine⟨aK,?_⟩;refine Ak (.inr ⟨?_,gg,by rw[mw,ct,oF,A],rfl⟩);intro h2;have:=congrArg List.length h2;rw[mw,ct,oF,A,fB]at this;omega
 have T:¬((0:Int)<(G:Int)):=J;have R:decide (0<p.l.gate)=false:=uE aIh;simp only[go_sem,E5,D,aQ.ps,N,Gj];refine⟨aK,?_⟩;refine pB v lo (.inl rfl) λcc mN M j=>?_;have B:=j 7808000000 aa;have f:=j 7808064512 aa;simp only[go_sem]at B f;simp only[go_sem,B,f,h,T];first|exact⟨aK,rfl⟩|rfl
section
attribute [local go_sem ↓] R_ Pf
def J1(a b:Nat):(a==b)=((a:Int)==(b:Int)):=by grind
def sV(F:Nat)(u:ae)(z B:Nat):Option bK:=
 if((jf u z true&&jf u B false)||(jf u z false&&jf u B true))&&(!((bR u z).l.id==(bR u (nx u z)).l.id)&&
  (((((bR u B).l.id==(bR u z).l.id)&&((bR u (nx u B)).l.id==(bR u (nx u z)).l.id))||(((bR u B).l.id==(bR u (nx u z)).l.id)&&((bR u (nx u B)).l.id==(bR u z).l.id)))&&
  (!((z+2)%I u==B)&&(!((B+2)%I u==z)&&pN F u 0 [z,B] z))))
 then some (pV (aJ u) [(bR u z).l.id,(bR u (nx u z)).l.id])else none
def ayD(g:aU F u)(ha:z<I u)(hb:B<I u){k c:Int}{l o:Bool}{sg:Int}:
  aC S 119 [.one (.p (fk F u)),c6 k z B c l o sg] (vu (sV F u z B)):=by
 have b5:=g.len;have bQ:=dI u;have N8:=FB g ha;have Hg:=FB g hb;have zN:=dB (z+1) (show 0<I u by omega);have rR:=dB (B+1) (show 0<I u by omega);have pc:=aaX g [z,B] aG rfl ha 0;simp only[fq,ml]at pc;have c0:((0:Nat):Int)=0:=rfl;rw[c0]at pc;have b1:=Lh g ha true;have b2:=Lh g hb false;have b3:=Lh g ha false;have b4:=Lh g hb true;obtain⟨P,hP⟩:=aP (h:=aJ u) (k:=z) J;obtain⟨P2,bi⟩:=aP (h:=aJ u) (k:=(z+1)%I u) J;obtain⟨Q,hQ⟩:=aP (h:=aJ u) (k:=B) J;obtain⟨Q2,H⟩:=aP (h:=aJ u) (k:=(B+1)%I u) J;have rM:=kA hP;have bx:=kA bi;have mD:=kA hQ;have bT:=kA H;have hz:¬((I u:Int)=0):=J
 have br:IntKind.i64.wrap ((z:Int)+2)=((z+2:Nat):Int):=(iS J J).trans J;have bq:=tu (z+2) (I u);have bD:IntKind.i64.wrap ((B:Int)+2)=((B+2:Nat):Int):=(iS J J).trans J;have bp:=tu (B+2) (I u);have lo:S.lone 7616704448=false:=ah;have pd:=af2 (aJ u) [P.l.id,P2.l.id] J aG (Y7 g);simp only[fq,ml]at pd;have x3:jf u z true->jf u z false=false:=λx=>by
  unfold jf at x |-;rw[jL hP]at x |-;simp only[cF]at x;have:P.l.over:=by simpa using x.2.2.1
  simp[this]
 unfold sV;rw[jL hP,jL hQ,jL bi,jL H,J1,J1];have f:=And.intro rM (And.intro mD (And.intro bx (And.intro bT (And.intro ha (And.intro hb (And.intro zN (And.intro rR (And.intro bQ (And.intro br (And.intro bq (And.intro hz (And.intro bD bp))))))))))));refine ba auV ?_;simp only[go_sem,agS,L_,cS b1,f];refine AW [0,3,4,5,6,7,22] λe1 h1=>?_;try simp only[go_sem]at h1
 obtain⟨TT,TU,v,aB,ad,a0,R⟩:=h1;cases x:jf u z true
 case' false=>
  simp only[go_sem,L_,cS b3,TT,TU,R,x];refine AW [0,3,4,5,6,7,28,33] λe2 h2=>?_;try simp only[go_sem,TT,TU,v,aB,ad,a0]at h2
  obtain⟨j,h,M,m,Yp,Yq,T,a6⟩:=h2;cases x4:jf u z false
  .simp only[go_sem,M,m,T,a6,x4];first|rfl|exact aK|exact⟨aK,rfl⟩|exact⟨aK,aK,rfl⟩
  simp only[go_sem,L_,cS b4,j,h,T,a6,x4];cases x5:jf u B true
  .simp only[go_sem,M,m];first|rfl|exact aK|exact⟨aK,rfl⟩|exact⟨aK,aK,rfl⟩
  simp only[go_sem,oK,dt N8 kR,dt Hg kR,f,aQ.ps,j,h,Yq];refine⟨aK,?_⟩;refine AW [0,3,4,5,6,9,10,11,12,76] λe3 O=>?_;try simp only[go_sem,j,h,M,m,Yp]at O
  obtain⟨Yr,bn,Yt,Yu,an,Yv,am,Ys,a4,TV⟩:=O
 case' true=>
  simp only[go_sem,L_,cS b2,TT,TU,R,x];refine AW [0,3,4,5,6,7,28] λe2 h2=>?_;try simp only[go_sem,TT,TU,v,aB,ad,a0]at h2
  obtain⟨j,h,M,m,Yp,Yq,T⟩:=h2;cases x2:jf u B false
  .have bL:=x3 x;simp only[go_sem,L_,cS b3,j,h,M,m,T,x2,bL];first|rfl|exact aK|exact⟨aK,rfl⟩|exact⟨aK,aK,rfl⟩
  simp only[go_sem,oK,dt N8 kR,dt Hg kR,f,aQ.ps,j,h,Yq,T,x2];refine⟨aK,?_⟩;refine AW [0,3,4,5,6,9,10,11,12,76] λe3 O=>?_;try simp only[go_sem,j,h,M,m,Yp]at O
  obtain⟨Yr,bn,Yt,Yu,an,Yv,am,Ys,a4,TV⟩:=O
 all_goals
  cases c1:(P.l.id==P2.l.id)
  rotate_left
  .simp only[go_sem,Yt,Yu,TV,c1];first|rfl|exact aK|exact⟨aK,rfl⟩|exact⟨aK,aK,rfl⟩
  simp only[go_sem,f,aQ.ps,Yr,Yv,Ys,TV,c1];refine AW [0,3,4,5,6,9,10,11,12,76,88] λe4 h4=>?_;try simp only[go_sem,Yr,bn,Yt,Yu,an,Yv,am,Ys,a4,TV,c1]at h4
  obtain⟨TW,bo,a2,aN,y,Y,Yw,ap,TX,TY,n⟩:=h4;cases c2:(Q.l.id==P.l.id)
  case' false=>
   simp only[go_sem,f,aQ.ps,TW,Y,TX,TY,n,c2];refine AW [0,3,4,5,6,10,11,12,76,101,113] λe8 h8=>?_;try simp only[go_sem,TW,bo,a2,aN,y,Yw,ap,TX,TY]at h8
   obtain⟨X,bs,ag,aF,bV,bt,Z,bM,bf,A,a9⟩:=h8;cases fv:(Q.l.id==P2.l.id)
   .simp only[go_sem,ag,aF,bf,A,a9,fv];first|rfl|exact aK|exact⟨aK,rfl⟩|exact⟨aK,aK,rfl⟩
   simp only[go_sem,f,aQ.ps,X,bt,Z,bf,A,a9,fv];refine azp [0,3,4,5,6,11,12] λe9 h9=>?_;try simp only[go_sem,X,bs,ag,aF,bV,Z,bM]at h9
   obtain⟨bI,bb,aw,ar,bg,bz,bZ⟩:=h9;cases c5:(Q2.l.id==P.l.id)
   .simp only[go_sem,aw,ar];first|rfl|exact aK|exact⟨aK,rfl⟩|exact⟨aK,aK,rfl⟩
   simp only[go_sem,f,bb,bg];refine Dd [0,3,4,5,6,11,12,137] λe6 h6=>?_;try simp only[go_sem,bI,bb,aw,ar,bg,bz,bZ]at h6
   obtain⟨bh,Yy,Yz,YA,bm,E,ak,Yx⟩:=h6
  case' true=>
   have fv:(Q.l.id==P2.l.id)=false:=by rw[show Q.l.id=P.l.id by simpa using c2];exact c1
   simp only[go_sem,f,aQ.ps,TW,Yw,TX,TY,n,c2];refine AW [0,3,4,5,6,9,10,11,12,76,101] λe5 h5=>?_;try simp only[go_sem,TW,bo,a2,aN,y,Y,Yw,ap,TX,TY]at h5
   obtain⟨bk,a1,D,a5,be,bO,bC,bu,aL,L,N⟩:=h5;cases c4:(Q2.l.id==P2.l.id)
   .simp only[go_sem,f,aQ.ps,bk,D,a5,bO,aL,L,N,c4,fv];first|rfl|exact aK|exact⟨aK,rfl⟩|exact⟨aK,aK,rfl⟩
   simp only[go_sem,f,a1,be,L,N,c4];refine Dd [0,3,4,5,6,11,12,137] λe6 h6=>?_;try simp only[go_sem,bk,a1,D,a5,be,bu,aL]at h6
   obtain⟨bh,Yy,Yz,YA,bm,E,ak,Yx⟩:=h6
  all_goals
   cases d1:((((z+2)%I u:Nat):Int)==(B:Int))
   rotate_left
   .simp only[go_sem,Yz,YA,Yx,d1];first|rfl|exact aK|exact⟨aK,rfl⟩|exact⟨aK,aK,rfl⟩
   simp only[go_sem,f,Yy,bm,Yx,d1];refine Dd [0,3,4,5,11,12,147] λe7 h7=>?_;try simp only[go_sem,bh,Yy,Yz,YA,E,ak]at h7
   obtain⟨bw,bE,bd,a3,bX,bH,az⟩:=h7;cases d2:((((B+2)%I u:Nat):Int)==(z:Int))
   rotate_left
   .simp only[go_sem,bd,a3,az,d2];first|rfl|exact aK|exact⟨aK,rfl⟩|exact⟨aK,aK,rfl⟩
   cases d3:pN F u 0 [z,B] z;all_goals
    rw[d3]at pc;simp only[go_sem,Oo,mA pc,aoO,bw,bE,bd,a3,bX,bH,az,d2]
   .first|rfl|exact aK|exact⟨aK,rfl⟩|exact⟨aK,aK,rfl⟩
   refine⟨aK,?_⟩;refine pB pd lo (.inr (qF (zP _))) λcc cE gc b6=>?_;simp only[go_sem];exact Ak gc
end
def lU(h:Nat):ae:=(List.range (2*h)).map λi=>⟨1,0,((i+1:Nat):Int),0,0,false⟩
section
variable {h:Nat}
theorem DV:I (lU h)=2*h:=by simp[lU]
theorem I4{i:Nat}(H:i<2*h):(lU h)[i]?=some ⟨1,0,((i+1:Nat):Int),0,0,false⟩:=by
 unfold lU
 grind
theorem MG{l:U}(hl:l∈lU h):∃i,i<2*h/\l=⟨1,0,((i+1:Nat):Int),0,0,false⟩:=by
 obtain _:=c_.1 hl
 grind
def Yg(p:U->Bool)(hp:∀l∈lU h,p l)(k:Nat)(H:k<=2*h):aq p ((lU h).take k)=k:=by grind [List.countP_eq_length,DV]
def apT:∀l∈lU h,l.ay:=λl hl=>by obtain⟨i,_,rfl⟩:=MG hl;rfl
def aHo:aq U.ay (lU h)=2*h:=by have:=Yg U.ay apT (2*h) (cP _);rwa[eT aIk]at this
def aq4:aq U.au (lU h)=0:=by grind [MG,U.au]
def aGu:aZ (lU h) 0=2*h:=by have:=Yg (jw 0) (λl hl=>by obtain⟨i,_,rfl⟩:=MG hl;rfl) (2*h) (cP _);rwa[eT aIk]at this
theorem acp{i:Nat}(H:i<=2*h):dn (lU h) i=(i%2==0):=by unfold dn;rw[Yg U.ay apT i H]
theorem Z_(i:Nat):dN (lU h) ⟨1,0,((i+1:Nat):Int),0,0,false⟩=i:=by
 unfold dN;have:dX (lU h) 0=0:=rfl
 grind
def atK:zU 1 (lU h):=by
 refine(QQ).2 ⟨?_,?_,?_⟩
 .rw[HI];intro l hl;obtain⟨i,_,rfl⟩:=MG hl;simp[eK]
 .refine(Ji (F:=1) λl hl hp=>?_).2 ⟨λl hl hp=>?_,λi j l m v f _ _ y=>?_⟩
  .obtain⟨i,_,rfl⟩:=MG hl;exact⟨aG,aG⟩
  .obtain⟨i,x,rfl⟩:=MG hl;refine⟨aG,aG,by simp;omega,?_⟩;show((i+1:Nat):Int)<=(aZ (lU h) (0:Int).toNat:Int);rw[Int.toNat_zero,aGu];omega
  have i1:=(bN.1 v).1;have i2:=(bN.1 f).1
  grind [DV,I4,Z_]
 unfold oH;have n:gL (lU h) (I (lU h))=[]:=by
  have:∀k,k<=2*h->gL (lU h) k=[]:=by
   intro k
   induction k with
   |zero=>intro _;rfl
   |succ k u=>intro H;unfold gL;rw[I4 J,u J];rfl
  exact this _ aIk
 rw[n,aq4];simp only[cF];refine⟨⟨rfl,mz.2 λk H=>?_⟩,rfl⟩;have H:=fU.1 H;rw[DV]at H;unfold pk;rw[I4 H];rfl
def amG(H:h<=500000):fY 1 (lU h):=by
 obtain⟨m,j,F⟩:=(QQ).1 (atK);have T:=λl hl=>by simpa using HI.1 m l hl
 obtain⟨g1,f⟩:=(Ji (λl hl hp=>((nu hp).1 (T l hl)).1.1.1)).1 j;exact⟨by rw[DV];omega,⟨g1,f⟩,F,λl hl=>Dy (T l hl)⟩
theorem Xw:I (aA (lU h))=2*h:=by rw[Ea,aHo]
def av6(f:h<=500000){i:Nat}(H:i<2*h):(aA (lU h))[i]?=some i:=by have:=Lt (amG f).ax (I4 H) rfl;rwa[Z_]at this
theorem aA1(f:h<=500000){i:Nat}(H:i<2*h):(aA (lU h)).getD i 0=i:=by rw[dM,av6 f H];rfl
def agb(f:h<=500000){i:Nat}(H:i<2*h):(aA (lU h)).idxOf i=i:=by rw[L4 (amG f).ax (I4 H) rfl,Z_]
def agF(H:h<=500000){p:Nat}(hp:p<2*h):aT (lU h) (4*h+2*p)=dS (2*h) ((p+1)%(2*h)) (!(((p+1)%(2*h))%2==0)):=by grind [dB,jd,DV,Xw,aA1,acp]
def afe(f:h<=500000){e:Nat}(j:e<2*h):aT (lU h) (2*e)=if((e+1)%(2*h))%2=0 then 4*h+2*((e+1)%(2*h))else 4*h+2*(((e+1)%(2*h)+2*h-1)%(2*h))+1:=by
 have H:=dB (e+1) (show 0<2*h by omega);show jd _ _ _=_;unfold jd;rw[DV,Xw,aE J];have E:(2*e%2==0):=aG;simp[show 2*e/2=e by omega,I4 H,agb f H,acp (VB H)]
 grind
def akx(f:h<=500000){e:Nat}(H:e<2*h):aT (lU h) (2*e+1)=if e%2=0 then 4*h+2*((e+2*h-1)%(2*h))+1 else 4*h+2*e:=by
 show jd _ _ _=_;unfold jd;rw[DV,Xw,aE J];have E:((2*e+1)%2==0)=false:=aG;simp[iJ,show(2*e+1)/2=e by omega,I4 H,agb f H,acp (VB H)]
 grind
end
section
variable {h:Nat}
def W9{e:Nat}(h:e<n):(e+1)%n=if e+1=n then 0 else e+1:=by
 by_cases c:e+1=n
 .simp_all
 rw[aE c,fC J]
def WZ(h:m<n):(m+n-1)%n=if m=0 then n-1 else m-1:=by
 by_cases c:m=0
 .simp_all
 rw[aE c,show m+n-1=(m-1)+n by omega,rn,fC J]
def mr(f:h<=500000){e:Nat}(H:e<2*h)(c:e%2=0):aT (lU h) (2*e)=4*h+2*e+1:=by rw[afe f H,W9 H,aE ii,aE J,WZ J,aE J];omega
def v2(f:h<=500000){e:Nat}(H:e<2*h)(c:e%2=1):∃q,q<2*h/\q%2=0/\(e+1<2*h->q=e+1)/\aT (lU h) (2*e)=4*h+2*q:=by
 rw[afe f H,W9 H];by_cases d:e+1=2*h
 .rw[aI d];exact⟨0,J,rfl,J,rfl⟩
 rw[aE d,aI J];exact⟨e+1,J,J,λ_=>rfl,rfl⟩
def v3(f:h<=500000){e:Nat}(H:e<2*h)(c:e%2=0):∃q,q<2*h/\q%2=1/\(1<=e->q=e-1)/\aT (lU h) (2*e+1)=4*h+2*q+1:=by
 rw[akx f H,aI c,WZ H];by_cases d:e=0
 .rw[aI d];exact⟨2*h-1,J,J,J,rfl⟩
 rw[aE d];exact⟨e-1,J,J,λ_=>rfl,rfl⟩
def v4(f:h<=500000){e:Nat}(H:e<2*h)(c:e%2=1):aT (lU h) (2*e+1)=4*h+2*e:=by rw[akx f H,aE J]
def v5(H:h<=500000){p:Nat}(hp:p<2*h)(c:p%2=1):aT (lU h) (4*h+2*p)=2*p+1:=by
 rw[agF H hp,W9 hp];by_cases d:p+1=2*h
 .rw[aI d];unfold dS;rw[aE aa,WZ J,aI rfl];omega
 rw[aE d];have:(!((p+1)%2==0))=false:=fd
 rw[this];unfold dS;rw[aE aa,WZ J,aE J];omega
def Je(H:h<=500000){p:Nat}(hp:p<2*h)(c:p%2=0):aT (lU h) (4*h+2*p)=2*(p+1):=by
 rw[agF H hp,W9 hp,aE J];have:(!((p+1)%2==0)):=fd
 rw[this];rfl
end
def akn(L:bK):I (ch L)=I L:=by simp[ch,tg]
def F7(l x:bK)(k:Nat):I (fe l x k)=I l+I x:=by grind
section
def ayw{al:cD}{blk:aH}{id:Nat}{c:cG}(o:H=[]\/al.ok id)(hl:I H<=1000000)(R:∀e∈H,I e=7/\ ∀v∈e,v.norm=v)(h:a_ id ty 7 H (.one c) blk):
  ∃v f,ja S 160 [.one c] al blk v f/\Ki id ty 7 H c blk v f:=by
 refine mL auv (jg rfl) ?_;rcases h with⟨rfl,j⟩|⟨O,g,j,hC⟩
 .cases j;have D:IntKind.i64.wrap (((0:Nat):Int)-1)= -1:=aa;have hz:¬((0:Int)< -1):=aa;simp only[go_sem,aa3,D];refine cZ (λk A f=>k=0/\A 2=ai 0/\A 3=ai (-1)/\f=blk) 0 0 (cP _) ?_ ?_
  .simp only[go_sem]
  rintro k A f _ ⟨rfl,j,u,rfl⟩
  simp only[go_sem,VD,j,u,hz];exact⟨rfl,.inl ⟨rfl,rfl⟩,λ_ _=>rfl⟩
 cases j;have o:=o.resolve_left O;have D:=sq (a:=I H) J;simp only[go_sem,aa3,D];refine cZ (λk A f=>A 0=.one (.hsl id g 7 0 (I H))/\A 2=ai k/\A 3=ai ((I H:Int)-1-(k:Int))/\ ∃fs,f id=(g,some (.arr ty 7 fs))/\wN H fs k/\dk (· =id) blk f) 0 (I H) (bj _) ?_ ?_
 .simp only[go_sem];refine⟨rfl,aG,H,hC,wN.start H,dk.refl _ _⟩
 rintro k A f hk ⟨h0,j,u,fs,z,B,Q⟩
 by_cases T:k<I H-1-k
 .have e1:((I H:Int)-1-(k:Int))=((I H-1-k:Nat):Int):=J;rw[e1]at u;have x:((k:Int)<((I H-1-k:Nat):Int)):=J;have w1:=cg (n:=k) J;have w2:IntKind.i64.wrap (((I H-1-k:Nat):Int)-1)=((I H:Int)-1-((k+1:Nat):Int)):=by
   rw[sq J];omega
  obtain⟨a,M⟩:=aP (show k<I H by omega);obtain⟨b,F⟩:=aP (show I H-1-k<I H by omega);obtain⟨fa,fb,yt⟩:=B.step T M F;obtain⟨la,m⟩:=R a (a8 M);obtain⟨lb,N⟩:=R b (a8 F);obtain⟨x0,x1,x2,X,x4,x5,x6,rfl⟩:=alY la;obtain⟨y0,y1,y2,y3,y4,y5,y6,rfl⟩:=alY lb;have Kr:=m x0 aG;have QG:=m x1 aG;have ZH:=m x2 aG;have ZI:=m X aG;have ZJ:=m x4 aG;have Y:=m x5 aG;have y:=m x6 aG;have Ks:=N y0 aG;have QH:=N y1 aG;have ZL:=N y2 aG;have ZM:=N y3 aG;have ZN:=N y4 aG;have Z:=N y5 aG;have E:=N y6 aG;have qT:=B.len;have ET:¬(k=I H-1-k):=J;have L:¬(I H-1-k=k):=J;have l1:k<I fs:=J;have l2:I H-1-k<I fs:=J;have l3:k<I H:=J
  have l4:I H-1-k<I H:=J;simp only[go_sem,VD,h0,j,u,z,x,fa,fb,w1,w2,o,l1,l3,l4,ET,Kr,QG,ZH,ZI,ZJ,Y,y,Ks,QH,ZL,ZM,ZN,Z,E,qt];refine⟨aK,_,rfl,yt,?_⟩;exact(Q.dz rfl _).dz rfl _
 have x:¬((k:Int)<(I H:Int)-1-(k:Int)):=J;simp only[go_sem,VD,j,u,x];refine⟨rfl,?_,Q⟩;rw[B.done T]at z;exact .inr ⟨by simpa using O,g,by rw[r_],z⟩
def ann{Q:ib}{A:bP}{blk:aH}{os:fx}{d:eF}{f id z:Nat}{c:cG}(Z:∀ {al:cD}{blk:aH},H=[]\/al.ok id->a_ id ty z H (.one c) blk->∃v j,ja S f [.one c] al blk v j/\Ki id ty z H c blk v j)(m:a_ id ty z H (.one c) blk)
  (x:∀j,a_ id ty z H.reverse (.one c) j->(∀i,i≠id->j i=blk i)->jC S .all os Q (dL A d (.tup [])) j):jW S .all (.sc f [.one c]) d os Q A blk:=by
 refine rG (P:=Ki id ty z H c blk) uS (Z ?_ m) ?_
 .rcases U2 m with⟨h,_⟩|h
  .exact .inl h
  exact .inr (uI ut)
 rintro v j ⟨rfl,u,n⟩
 exact x j u n
abbrev u4(x k:Nat)(sg:Int)(ov:Bool):aQ:=⟨⟨2,0,0,((x+k:Nat):Int),sg,ov⟩,false⟩
attribute [local go_sem ↓] R_ Pf
abbrev lG(F:Nat)(ls:ae)(d:Nat):Nat:=(lM F ls).getD d 0
abbrev pP(x:Nat)(sg:Int)(o:Bool):bK:=[u4 x 1 sg o,u4 x 2 (-sg) o]
abbrev qo(x:Nat)(sg:Int)(o same:Bool):bK:=if same then [u4 x 2 (-sg) (!o),u4 x 1 sg (!o)]else [u4 x 1 sg (!o),u4 x 2 (-sg) (!o)]
def tj(u:ae)(z B:Nat)(l o h O:Bool):Option bK:=
 if !h&& !O then none
 else
  let sg:Int:=if o==(h==l)then 1 else -1
  let first:=pP (aq U.au u/2) sg o
  let f:=qo (aq U.au u/2) sg o h
  some (if z<B then fe (fe (aJ u) f B) first z else fe (fe (aJ u) first z) f B)
def wH(F:Nat)(u:ae)(z B:Nat)(l o:Bool):Option bK:=
 if l then tj u z B l o ((lG F u (2*B):Int)==(lG F u (2*z):Int)) ((lG F u (2*B+1):Int)==(lG F u (2*z):Int))
 else tj u z B l o ((lG F u (2*B+1):Int)==(lG F u (2*z+1):Int)) ((lG F u (2*B):Int)==(lG F u (2*z+1):Int))
def Xq{d:Nat}(h:d<2*I u):(lM F u)[d]?=some (lG F u d):=by obtain⟨j,H⟩:=aP (h:=lM F u) (k:=d) (by rw[Js];exact h);rw[lG,dM,H];rfl
def aFf(g:aU F u)(ha:z<I u)(hb:B<I u)(dE:z≠B){k c:Int}{l o:Bool}{sg:Int}:
  aC S 120 [.one (.p (fk F u)),c6 k z B c l o sg] (vu (wH F u z B l o)):=by
 have a4:=g.len;have fA:=g.cr;have bQ:=dI u;have A6:=Js F u;have ar:=qj (a:=z) J;have a2:=qj (a:=B) J;have aL:IntKind.i64.wrap (((2*z:Nat):Int)+0)=((2*z:Nat):Int):=(iS (x:=((2*z:Nat):Int)+0) J J).trans J;have aN:=cg (n:=2*z) J;have an:IntKind.i64.wrap (((2*B:Nat):Int)+0)=((2*B:Nat):Int):=(iS (x:=((2*B:Nat):Int)+0) J J).trans J;have a3:=cg (n:=2*B) J;have aF:IntKind.i64.wrap (((2*B+1:Nat):Int)-0)=((2*B+1:Nat):Int):=(iS (x:=((2*B+1:Nat):Int)-0) J J).trans J;have am:IntKind.i64.wrap (((2*B+1:Nat):Int)-1)=((2*B:Nat):Int):=(iS (x:=((2*B+1:Nat):Int)-1) J J).trans J;have ag:2*z<I (lM F u):=J;have a0:2*z+1<I (lM F u):=J
 have ak:2*B<I (lM F u):=J;have ap:2*B+1<I (lM F u):=J;have az:=i_ (Xq (F:=F) (u:=u) (d:=2*z) J);have a1:=i_ (Xq (F:=F) (u:=u) (d:=2*z+1) J);have ad:=i_ (Xq (F:=F) (u:=u) (d:=2*B) J);have aB:=i_ (Xq (F:=F) (u:=u) (d:=2*B+1) J);have gO:S.shared 160:=ah;have Oh:=λ(t:Int) ov a b c d e=>UW F (aq U.au u/2) t ov a b c d e 1 J J;have Oi:=λ(t:Int) ov a b c d e=>UW F (aq U.au u/2) t ov a b c d e 2 J J;simp only[show((1:Nat):Int)=1 from rfl,show((2:Nat):Int)=2 from rfl]at Oh Oi;have T:IntKind.i64.wrap (0-1)= -1:=aa;have M:IntKind.i64.wrap (0 - -1)=1:=aa
 have Z:∀blk:aH,∀s,∀x1 x2 x3 x4 x5 x6 x7:PV,fQ blk [] s ((RV.agg [.p x1,.p x2,.p x3,.p x4,.p x5,.p x6,.p x7]).gV (S.lone s))=some (.agg [.p x1,.p x2,.p x3,.p x4,.p x5,.p x6,.p x7],[]):=λblk s x1 x2 x3 x4 x5 x6 x7=>by cases S.lone s<;>rfl
 have wz:=And.intro aL (And.intro aN (And.intro an (And.intro a3 (And.intro aF (And.intro am (And.intro ar (And.intro a2 (And.intro ag (And.intro a0 (And.intro ak (And.intro ap (And.intro az (And.intro a1 (And.intro ad aB))))))))))))));unfold wH;refine ba auU ?_
 let X:=λm t=>qo (aq U.au u/2) (if o==(m==l)then 1 else -1) o t
 let Y:=λm=>pP (aq U.au u/2) (if o==(m==l)then 1 else -1) o
 have hX:∀s t,I (X s t)=2:=λs t=>by simp only[X,qo];split<;>rfl
 by_cases HV:z<B
 case' pos=>
  have aw:(z:Int)<B:=J
  let A:=λm=>X m m
  let a6:=Y
  have E:∀s,I (A s)=2/\I (a6 s)=2:=λs=>⟨hX s s,rfl⟩
  let i:=B
  let j:=z
  have hi:i<I u/\j<I u:=⟨hb,ha⟩
 case' neg=>
  have aw:¬(z:Int)<B:=J
  let A:=Y
  let a6:=λm=>X m m
  have E:∀s,I (A s)=2/\I (a6 s)=2:=λs=>⟨rfl,hX s s⟩
  let i:=z
  let j:=B
  have hi:i<I u/\j<I u:=⟨ha,hb⟩
 all_goals cases l
 case' pos.false|neg.false=>generalize lG F u (2*z+1)=p at*;generalize lG F u (2*B+1)=q at*;generalize lG F u (2*B)=r at*
 case' pos.true|neg.true=>generalize lG F u (2*z)=p at*;generalize lG F u (2*B)=q at*;generalize lG F u (2*B+1)=r at*
 all_goals cases o
 all_goals
  simp only[go_sem,afa,wz];refine⟨aK,aK,?_⟩;refine Dd [0,3,4,5,6,7,8,9,40] λe1 v=>?_;simp only[go_sem]at v;cases af:((q:Int)==(p:Int))
  .cases ho:((r:Int)==(p:Int))
   .simp only[go_sem,wz,v,af,ho,bne];first|rfl|exact aK|exact⟨aK,rfl⟩|exact⟨aK,aK,rfl⟩
   simp only[go_sem,wz,v,af,ho,bne,tj,HV];refine⟨aK,?_⟩;simp only[go_sem,v,af,aa8,od (Oh _ _ _ _ _ _ _) (Z _ _ _ _ _ _ _ _ _),od (Oi _ _ _ _ _ _ _) (Z _ _ _ _ _ _ _ _ _),T,M,aw,Ie];refine⟨aK,aK,?_⟩;refine J5 (IP (aJ u) (A false) i J J (by have:=E false;omega)) ah (.inr (qF (zP _))) λc1 cE mr g1 L xC=>?_;obtain⟨r1,ZX,lO⟩:=g1.jK;have N:=L 7680000000 aa;have O:=L 7680640704 aa;have Q:=L 7680704832 aa;simp only[go_sem]at N O Q;simp only[go_sem,v,N,O,Q,ZX,Ie];refine J5 (IP (fe (aJ u) (A false) i) (a6 false) j (by rw[F7];omega) (by rw[F7];have:=E false;omega) (by have:=E false;omega)) ah (.inr (qF (zP _))) λc2 bt v2 g2 bh qD=>?_
   simp only[go_sem];refine⟨?_,Ak g2⟩;rcases lO with rfl|rfl<;>rcases xC with rfl|rfl<;>rcases qD with rfl|rfl<;>kernel_rfl
  simp only[go_sem,v,af,tj,HV];refine⟨aK,?_⟩;simp only[go_sem,v,af,aa8,od (Oh _ _ _ _ _ _ _) (Z _ _ _ _ _ _ _ _ _),od (Oi _ _ _ _ _ _ _) (Z _ _ _ _ _ _ _ _ _),T,M,gO];refine⟨aK,aK,?_⟩;refine ann (f:=160) (H:=dP (X true false)) (id:=7680704832) (ty:=mY) (z:=7) (λo h=>ayw o (by rw[show(dP (X true false)).length=2 from rfl];omega) (aE6 _) h) (.inr ⟨nofun,_,rfl,by simp only[bG,Nat.reduceEqDiff,if_true,if_false];rfl⟩) λa5 iz R=>?_;have D:=R 7680000000 aa;have y:=R 7680640704 aa;simp only[go_sem]at D y;rcases iz with⟨e,_⟩|⟨_,gg,e,EJ⟩
  .cases e
  cases e;simp only[X]at EJ;simp only[go_sem,v,D,y,EJ,aw,Ie,r_];refine J5 (IP (aJ u) (A true) i J J (by have:=E true;omega)) ah (.inr (qF (zP _))) λc1 cE mr g1 L xC=>?_;obtain⟨r1,ZX,lO⟩:=g1.jK;have N:=L 7680000000 aa;have O:=L 7680640704 aa;have Q:=L 7680704832 aa;simp only[go_sem,D,y,EJ]at N O Q;simp only[go_sem,v,N,O,Q,ZX,Ie];refine J5 (IP (fe (aJ u) (A true) i) (a6 true) j (by rw[F7];omega) (by rw[F7];have:=E true;omega) (by have:=E true;omega)) ah (.inr (qF (zP _))) λc2 bt v2 g2 bh qD=>?_;simp only[go_sem];refine⟨?_,Ak g2⟩;rcases lO with rfl|rfl<;>rcases xC with rfl|rfl<;>rcases qD with rfl|rfl<;>kernel_rfl
end
section
def dQ(F:Nat)(u:ae)(k a b c:Int)(l o:Bool)(sg:Int):Bool:=
 if k=2 then !l&&(!o&&(sg==0&&((ng (I u) a||(I u==0&&a==0))&&(decide (0<=b)&&(decide (b<=(F:Int))&&(decide (0<=c)&&decide (c<=(aZ u b.toNat:Int))))))))
 else if k=3\/k=6 then !l&&(!o&&(sg==0&&(ng (I u) a&&(c==0&&(ng (I u) b&&decide (a<b))))))
 else if k=5 then !l&&((sg==1||sg== -1)&&(ng (I u) a&&(b==0&&c==0)))
 else if k=7 then sg==0&&(ng (I u) a&&(c==0&&(ng (I u) b&& !(a==b))))
 else if k=8 then !l&&(!o&&(sg==0&&(ng (I u) a&&(ng (I u) b&&(ng (I u) c&&(decide (a<b)&&decide (b<c)))))))
 else if k=1\/k=4\/k=9\/k=10 then !l&&(!o&&(sg==0&&(ng (I u) a&&(b==0&&c==0))))
 else false
def Cx{x y:Int}(h:¬x=y):(x==y)=false/\(x !=y):=by simp[h]
attribute [local go_sem ↓] R_ Pf
section
variable {F:Nat} {u:ae} {a b c:Int} {l o:Bool} {sg:Int}
def Ex{k:Int}(H:k=1\/k=3\/k=4\/k=5\/k=6\/k=7\/k=8\/k=9\/k=10):aC S 75 [.one (.p (fk F u)),c6 k a b c l o sg] (cK (dQ F u k a b c l o sg)):=by
 unfold dQ;rcases H with rfl|rfl|rfl|rfl|rfl|rfl|rfl|rfl|rfl
 all_goals
  simp only[Int.reduceEq,if_true,if_false,or_false,or_true,or_self];refine ba Ui ?_;simp only[go_sem,Ov,dI,bne,Bool.false_beq,Bool.true_beq];refine AW [0,3,4,5,6,7,8,9,10,41,60] λE h=>?_;simp only[go_sem]at h;repeat' ((first|apply qh|apply ql|apply qg|apply qq|apply pL|apply qf)<;>intro f<;>simp only[go_sem, *,Lq,cS (Sk a _),cS (Sk b _),cS (Sk c _),bne,Bool.false_beq,Bool.true_beq])
  all_goals(first|done|exact aK|exact⟨aK,rfl⟩|rfl|(rw[eq_of_beq f];rfl))
end
end
section
attribute [local go_sem ↓] R_ Pf
def aoH{i:Int}{x:Bool}(h:ng (I u) i=x):aC S 113 [ai i,.one (.p (.box [.int .i64 (I u)]))] (cK x):=h▸Sk i (I u)
def adM{x:Int}(h:¬x=0):(x==0)=false/\(x !=0):=by simp[h]
section
variable {F:Nat} {u:ae} {a b c:Int} {l o:Bool} {sg:Int}
def avR:aC S 75 [.one (.p (fk F u)),c6 2 a b c l o sg] (cK (dQ F u 2 a b c l o sg)):=by
 obtain⟨v,hv⟩:∃v,dQ F u 2 a b c l o sg=v:=⟨_,rfl⟩;rw[hv];refine ba Ui ?_;simp only[go_sem,Ov,dI];refine AW [0,3,4,5,6,7,8,9,10,41] λe1 D=>?_;simp only[go_sem]at D;cases l with
 |true=>
  obtain rfl:v=false:=by rw[<-hv];simp[dQ]
  simp only[go_sem,D]
 |false=>
  simp only[go_sem,D];refine AW [0,3,4,5,6,7,8,9,10,53] λe2 E=>?_;simp only[go_sem,D]at E;cases o with
  |true=>
   obtain rfl:v=false:=by rw[<-hv];simp[dQ]
   simp only[go_sem,E]
  |false=>
   simp only[go_sem,E];refine AW [0,3,4,5,6,7,8,9,10,60] λe3 O=>?_;simp only[go_sem,E]at O;by_cases af:sg=0
   rotate_left
   .have jr:=(adM af).1;have Z:=(adM af).2;obtain rfl:v=false:=by rw[<-hv];simp[dQ,af]
    simp only[go_sem,O,Z]
   subst af;cases L:ng (I u) a with
   |true=>
    have bR:=aoH L;simp only[go_sem,Lq,O,mA bR];refine Dd [0,3,4,6,7,9,92] λe4 M=>?_;simp only[go_sem,O]at M;by_cases f:0<=b
    rotate_left
    .obtain rfl:v=false:=by rw[<-hv];simp[dQ,L,f]
     simp only[go_sem,M,f];exact aK
    simp only[go_sem,M,f];refine Dd [0,3,4,6,7,9,101] λe5 j=>?_;simp only[go_sem,M]at j;by_cases y:b<=(F:Int)
    rotate_left
    .obtain rfl:v=false:=by rw[<-hv];simp[dQ,L,f,y]
     simp only[go_sem,j,y];exact aK
    obtain⟨B,rfl⟩:=lV f;have Q:B<=F:=J;have T:=i_ (JL (h:=u) Q);have h5:B<F+1:=J;have h6:I (gY u F)=F+1:=at8
    simp only[go_sem,j,y];refine Dd [0,3,4,6,7,9,106] λe6 m=>?_;simp only[go_sem,j]at m;by_cases A:0<=c
    rotate_left
    .obtain rfl:v=false:=by rw[<-hv];simp[dQ,L,f,y,A]
     simp only[go_sem,m,A];exact aK
    by_cases N:c<=(aZ u B:Int)
    rotate_left
    .obtain rfl:v=false:=by rw[<-hv];simp[dQ,L,f,y,A,N]
     simp only[go_sem,T,m,A,N];exact aK
    obtain rfl:v:=by rw[<-hv];simp[dQ,L,f,y,A,N]
    simp only[go_sem,T,m,A,N];exact aK
   |false=>
    have bR:=aoH L;by_cases H:I u=0
    rotate_left
    .have R:((I u:Int)==0)=false:=beq_false_of_ne J;have Y:u≠[]:=λh=>H EQ;obtain rfl:v=false:=by rw[<-hv];simp[dQ,L,H]
     simp only[go_sem,Lq,O,mA bR,R];exact aK
    have R:((I u:Int)==0):=i6
    have Y:=yc.mp H;by_cases X:a=0
    rotate_left
    .have Gr:=(adM X).1;obtain rfl:v=false:=by rw[<-hv];simp[dQ,Y,X,show ng 0 a=false by rw[<-H];exact L]
     simp only[go_sem,Lq,O,mA bR,R,Gr];exact aK
    subst X;simp only[go_sem,Lq,O,mA bR,R];refine Dd [0,3,4,6,7,9,92] λe7 z=>?_;simp only[go_sem,O]at z;by_cases f:0<=b
    rotate_left
    .obtain rfl:v=false:=by rw[<-hv];simp[dQ,H,f]
     simp only[go_sem,z,f];exact aK
    simp only[go_sem,z,f];refine Dd [0,3,4,6,7,9,101] λe8 x=>?_;simp only[go_sem,z]at x;by_cases y:b<=(F:Int)
    rotate_left
    .obtain rfl:v=false:=by rw[<-hv];simp[dQ,H,f,y]
     simp only[go_sem,x,y];exact aK
    obtain⟨B,rfl⟩:=lV f;have Q:B<=F:=J;have T:=i_ (JL (h:=u) Q);have h5:B<F+1:=J;have h6:I (gY u F)=F+1:=at8
    simp only[go_sem,x,y];refine Dd [0,3,4,6,7,9,106] λe9 n=>?_;simp only[go_sem,x]at n;by_cases A:0<=c
    rotate_left
    .obtain rfl:v=false:=by rw[<-hv];simp[dQ,H,f,y,A]
     simp only[go_sem,n,A];exact aK
    by_cases N:c<=(aZ u B:Int)
    rotate_left
    .obtain rfl:v=false:=by rw[<-hv];simp[dQ,H,f,y,A,N]
     simp only[go_sem,T,n,A,N];exact aK
    obtain rfl:v:=by rw[<-hv];simp[dQ,H,f,y,A,N]
    simp only[go_sem,T,n,A,N];exact aK
def aj3(k:Int):aC S 75 [.one (.p (fk F u)),c6 k a b c l o sg] (cK (dQ F u k a b c l o sg)):=by
 by_cases n:k=1
 .subst n;exact Ex aa
 by_cases j:k=2
 .subst j;exact avR
 by_cases y:k=3
 .subst y;exact Ex aa
 by_cases m:k=4
 .subst m;exact Ex aa
 by_cases x:k=5
 .subst x;exact Ex aa
 by_cases h:k=6
 .subst h;exact Ex aa
 by_cases v:k=7
 .subst v;exact Ex aa
 by_cases f:k=8
 .subst f;exact Ex aa
 by_cases H:k=9
 .subst H;exact Ex aa
 by_cases D:k=10
 .subst D;exact Ex aa
 rw[show dQ F u k a b c l o sg=false by simp[dQ,n,j,y,m,x,h,v,f,H,D]];have E:=(Cx x).1;have A:=(Cx h).1;have B:=(Cx v).1;have L:=(Cx f).1;have z:=(Cx H).1;refine ba Ui ?_;simp only[go_sem,Ov,dI,(Cx n).1,(Cx j).1,(Cx y).1,(Cx m).1,E,A,B,L,z,(Cx D).1]
end
end
abbrev AF(F:Nat)(ls:ae):eC:=[.p (.int .i64 F),.p (fz ls),.p (.int .i64 (I ls)),.p (.sl (ki (dA F ls)))]
abbrev ic(F:Nat)(ls:ae):V:=.agg (AF F ls)
abbrev DO(l:U):RV:=.agg [.p (.int .i64 l.kind),.p (.int .i64 l.gate),.p (.int .i64 l.ao),.p (.int .i64 l.id),.p (.int .i64 l.sign),.p (.bool l.over)]
def as0{c:cG}{x y w:PV}{blk:aH}(h:a_ s1 t1 z1 H (.one c) blk):iD blk (.agg [.p x,.p y,.p w,c])=some (.agg [.p x,.p y,.p w,bU t1 z1 H]):=by obtain⟨v,o,u,j,n⟩:=h.iN;cases u;have E:iN blk (.p x)=some _:=rfl;have m:iN blk (.p y)=some _:=rfl;have f:iN blk (.p w)=some _:=rfl;rcases n with rfl|rfl<;>simp[iD,mM,kZ,kD,j,E,m,f,lg,oE,nq]
def Ay(g:aU F u):aC S 19 [c7 F u] (.agg [.p (.int .i64 F),.p (fz u),.p (.int .i64 (I u)),bU tV 5 (ki (dA F u))]):=by
 have n:=g.fing;have H:(0:Int)<(I u:Int):=by have:=iW.2 g.ne;omega
 refine ba ajn ?_;simp only[go_sem,aby,H,aEF];refine pB (ax6 g.ok J g.axne) ah (.inl rfl) λm j f h=>?_;simp only[go_sem,h 1216064320 aa,h 1216000064 aa];exact as0 (f.of_eq ((cJ aa).trans (cJ aa)))
def BB{e:Nat}(H:e<I u)(hl:I u<=1000000):aC S 26 [ic F u,ai e] (fH ((e+1)%I u:Nat)):=by have h:¬((I u:Int)=0):=J;have T:=tu (e+1) (I u);refine ba arq ?_;simp only[go_sem,aiG,cg (n:=e) J,h,T]
def Kt{e:Nat}(h:e<I u)(hl:I u<=1000000):aC S 24 [ic F u,ai e] (.tup [DO (aV u e),DO (aV u (nx u e))]):=by refine ba axs ?_;simp only[go_sem,ago,yf,jZ (BB h hl),fW (iQ h),fW (iQ (dB (e+1) (show 0<I u by omega))),U.ps];exact⟨aK,rfl⟩
theorem NZ(o:cT)(x:Int)(hl:I o<=1000000):aC S 64 [.one (.p (.sl (fm o))),ai x] (cK (decide (x∈o))):=by
 refine ba ML ?_;simp only[go_sem,i64];refine cZ (λk A blk=>A 0=.one (.p (.sl (fm o)))/\A 1=ai x/\A 5=ai k/\ ∀j,j<k->o[j]? ≠some x) 0 (I o) (bj _) ?_ ?_
 .simp only[go_sem];exact⟨rfl,λj h=>absurd h (oJ j)⟩
 rintro k A blk N ⟨H,B,f,F⟩
 by_cases v:k<I o
 .have z:((k:Int)<(I o:Int)):=J;obtain⟨y,m⟩:=aP v;have D:=yL m;by_cases u:y=x
  .subst u;simp only[go_sem,S5,H,B,f,z,D,by simpa using a8 m]
  have E:∀j,j<k+1->o[j]? ≠some x:=λj h=>by grind
  simp only[go_sem,S5,H,B,f,v,z,D,(Cx u).1,cg (n:=k) J];exact E
 have:k=I o:=J;subst this;have M:decide (x∈o)=false:=by simp only[decide_eq_false_iff_not];intro L;obtain⟨j,h⟩:=gJ L;exact absurd h (F j (bN.1 h).1)
 simp only[go_sem,S5,alM,H,f,ek,M]
theorem au1(o:aD):aY o=fm (o.map λn:Nat=>(n:Int)):=by simp[kU]
def Et(o:aD)(x:Nat)(hl:I o<=1000000):aC S 64 [.one (.p (.sl (aY o))),ai x] (cK (decide (x∈o))):=by grind [NZ,au1]
def aeC(i:Int):aC S 93 [ic F u,ai i] (cK (ng (I u) i)):=by
 refine ba axX ?_;unfold ng;by_cases h:0<=i
 .by_cases H:i<(I u:Int)
  .simp only[go_sem,Uh,h,H]
  simp only[go_sem,Uh,h,H]
 simp only[go_sem,Uh,h]
def aCI{S:dK}(h:dO S x=false):x<I S:=by grind
def al7(next:Nat->Nat):∀(k x:Nat) (S:dK),(∀y∈(hU next k x S).1,dO S y=false)/\(hU next k x S).1.Nodup/\ ∀y,dO (hU next k x S).2 y=(dO S y||decide (y∈(hU next k x S).1)):=by
 intro k
 induction k with
 |zero=>intro x S;simp[hU]
 |succ k f=>
  intro x S;unfold hU
  grind
def atz(next:Nat->Nat)(N:Nat):∀k,(fJ next N k).1.flatten.Nodup/\(∀y,y<N->dO (fJ next N k).2 y=decide (y∈(fJ next N k).1.flatten))/\(∀y∈(fJ next N k).1.flatten,y<N)/\ ∀x,x<k->x<N->dO (fJ next N k).2 x:=by
 intro k
 induction k with
 |zero=>
  refine⟨by simp[fJ],λy H=>?_,by simp[fJ],λx f=>absurd f (oJ x)⟩
  grind [fJ]
 |succ k B=>
  obtain⟨F,u,E,v⟩:=B;rw[Bn];unfold wQ;have j:=JU next N k;cases z:(fJ next N k).2.getD k true with
  |true=>grind
  |false=>
   rw[aE aa];have n:k<N:=by have:=aCI z;omega
   obtain⟨g1,D,m⟩:=al7 next ((fJ next N k).2.length+1) k (fJ next N k).2;have Z:=alZ next ((fJ next N k).2.length+1) k (fJ next N k).2 (by have:=Mx (fJ next N k).2;omega);refine⟨?_,λy H=>?_,?_,λx f A=>?_⟩
   .grind
   .rw[m,u y H,H9,sv];simp
   .intro y H;rw[H9,iI]at H
    grind
   rcases vq.1 f with h|rfl
   .rw[m,v x h A];rfl
   exact Z
theorem CO(next:Nat->Nat)(N:Nat):(eX next N).flatten.Nodup/\ ∀y,y<N->y∈(eX next N).flatten:=by obtain⟨f,H,_,j⟩:=atz next N N;refine⟨f,λy h=>?_⟩;have:=j y h h;rw[H y h]at this;exact xT this
def ai6{L:List aD}(h:L.flatten.Nodup){i:Nat}{a b:aD}(H:L[i]?=some a)(f:L[j]?=some b)(m:x∈a)(u:x∈b):i=j:=by
 induction L generalizing i j with
 |nil=>simp at H
 |cons l L n=>grind [Fp]
section
variable {F:Nat} {u:ae}
def U6(h:(dA F u)[j]?=some f):∃w,(eX (aT u) (aX u))[j]?=some w/\f=jc F u w:=by
 unfold dA at h
 grind
theorem W7{i:Nat}{a b:cX}{d:Nat}(x:(dA F u)[i]?=some a)(m:(dA F u)[j]?=some b)(h:d∈a.bc)(H:d∈b.bc):i=j:=by obtain⟨v,n,rfl⟩:=U6 x;obtain⟨w,f,rfl⟩:=U6 m;rw[zd]at h H;exact ai6 (CO _ _).1 n f (rv.1 h).1 (rv.1 H).1
def akF(h:f∈dA F u):f.bc.Nodup:=by
 obtain⟨w,H,rfl⟩:=c_.1 h;rw[zd];have:=(CO (aT u) (aX u)).1
 grind
def aCz{d:Nat}(m:d<2*I u):∃(j:Nat) (f:cX),(dA F u)[j]?=some f/\d∈f.bc:=by
 have:=(CO (aT u) (aX u)).2 d ii;obtain⟨w,h,M⟩:=Fp.1 this;obtain⟨j,H⟩:=gJ h;refine⟨j,jc F u w,by unfold dA;rw[fX,H];rfl,?_⟩;rw[zd]
 grind
theorem al3{D:aD}{d:Nat}:∀ {L:aD},d<I L->(s_ L D v)[d]?=if d∈D then some v else L[d]? :=by
 induction D with
 |nil=>intro L _;simp[s_]
 |cons e D f=>
  intro L h;show(s_ _ D v)[d]?=_;rw[f ii,qt]
  grind
def aDw{d:Nat}:∀ {fs:Fq}{j:Nat}{L:aD},d<I L->(∀f∈fs,d∉f.bc)->(tO fs j L)[d]?=L[d]? :=by
 intro fs
 induction fs with
 |nil=>intro j L _ _;rfl
 |cons f fs h=>grind [tO,al3]
def atA{d:Nat}:∀ {fs:Fq}{j i:Nat}{L:aD}{f:cX},d<I L->fs[i]?=some f->d∈f.bc->(∀m F,fs[m]?=some F->d∈F.bc->m=i)->(tO fs j L)[d]?=some (j+i):=by
 intro fs
 induction fs with
 |nil=>intro j i L f _ h;simp at h
 |cons g fs y=>
  intro j i L f n H hf u;show(tO fs (j+1) _)[d]?=_;cases i with
  |zero=>
   simp at H;subst H;rw[aDw (by rw[TL];exact n),al3 n,aI hf]
   .rfl
   intro F z x;obtain⟨m,Z⟩:=gJ z;have:=u (m+1) F ii x;omega
  |succ i=>simp at H;rw[y (by rw[TL];exact n) H hf λm F A v=>by have:=u (m+1) F ii v;omega];congr 1;omega
def left_at{d:Nat}(x:d<2*I u)(hf:(dA F u)[j]?=some f)(h:d∈f.bc):(lM F u)[d]?=some j:=by unfold lM;rw[atA ii hf h λv n H m=>W7 H hf m h];congr 1;omega
def BC{d:Nat}(h:d<2*I u):∃j,(dA F u)[j]?=some (c8 F u d)/\d∈(c8 F u d).bc/\(lM F u)[d]?=some j:=by
 obtain⟨j,f,hf,H⟩:=aCz h;have hl:=left_at h hf H;have e:c8 F u d=f:=by unfold c8;rw[dM (l:=lM F u),hl,mw,dM,hf,mw]
 grind
theorem amj{d:Nat}(h:d<2*I u)(hf:f∈dA F u)(H:d∈f.bc):c8 F u d=f:=by
 obtain⟨j,n,m,_⟩:=BC h;obtain⟨i,v⟩:=gJ hf;have:=W7 v n H m
 grind
theorem Jg{d:Nat}(h:d<2*I u):c8 F u d∈dA F u:=by obtain⟨j,H,_⟩:=BC h;exact a8 H
def aov{d:Nat}(H:d<2*I u):(dA F u).find? (λf=>f.bc.contains d)=some (c8 F u d):=by
 cases h:(dA F u).find? (λf=>f.bc.contains d)with
 |none=>have:=Fw.1 h _ (Jg H);obtain⟨_,_,j,_⟩:=BC (F:=F) H;simp[j]at this
 |some f=>rw[amj H (AP h) ii]
def Aq(pl:Nat)(E:aD)(f:cX):Bool:=(I f.bc==I E)&&((I f.places==pl)&&E.all λe=> !(decide (2*e∈f.bc)==decide (2*e+1∈f.bc)))
def mZ(F:Nat)(u:ae)(pl:Nat)(E:aD):Bool:=(dA F u).any (Aq pl E)
theorem aBj(h:f.bc.Nodup)(e:Nat):xW f e=(if 2*e∈f.bc then 1 else 0)+(if 2*e+1∈f.bc then 1 else 0):=by
 unfold xW;generalize f.bc=D at h
 induction D with
 |nil=>simp
 |cons d D j=>grind
def ahD(h:f.bc.Nodup)(pl:Nat)(E:aD):yU f pl E=Aq pl E f:=by grind [yU,Aq,aBj]
theorem Ft{pl:Nat}{E:aD}{f:Nat}(H:E[0]?=some f)(h:f<I u):pN F u pl E f=mZ F u pl E:=by
 unfold pN mZ;have m:=Jg (F:=F) (u:=u) (d:=2*f) J;have M:=Jg (F:=F) (u:=u) (d:=2*f+1) J;rw[ahD (akF m),ahD (akF M),sv,nK,Bk]
 grind [Aq,amj]
end
def zk(a b:U):Bool:=(a.kind==1)&&((b.kind==1)&&((a.gate==b.gate)&&((a.ao==b.ao+1)||(b.ao==a.ao+1))))
abbrev Mt(a:U):Prop:= -1000000<=a.ao/\a.ao<=1000000
def anY(a b:U)(H:Mt a)(h:Mt b):aC S 95 [yk a,yk b] (cK (zk a b)):=by
 have j:IntKind.i64.wrap _=a.ao+1:=iS (by have:=H.1;omega) (by have:=H.2;omega);have wb:IntKind.i64.wrap _=b.ao+1:=iS (by have:=h.1;omega) (by have:=h.2;omega);unfold zk;refine ba aq0 ?_;simp only[go_sem,al8];repeat' ((first|apply qh|apply ql|apply qg|apply qq|apply pL|apply qf)<;>intro f<;>simp only[go_sem, *])
 all_goals(first|done|exact aK|exact _|rfl)
def abJ{blk:aH}{s:Nat}{l:Bool}(a b:U):fQ blk [] s ((RV.tup [DO a,DO b]).gV l)=some (.tup [yk a,yk b],[]):=by cases l<;>rfl
def HP{blk:aH}{s:Nat}{l:Bool}(a b:U)(x:Bool):fQ blk [] s ((RV.tup [DO a,DO b,.one (.p (.bool x))]).gV l)=some (.tup [yk a,yk b,iB x],[]):=by cases l<;>rfl
def kQ(u:ae)(e:Nat):U×U×Bool:=if(aV u e).kind==1 then(aV u (nx u e),aV u e,((aV u (nx u e)).kind==2)&&((aV u e).kind==1))else(aV u e,aV u (nx u e),((aV u e).kind==2)&&((aV u (nx u e)).kind==1))
def r6(u:ae)(e:Nat):Bool:=((aV u e).kind==2)&&((aV u (nx u e)).kind==2)
def IY(u:ae)(e:Nat):Int:=(if(aV u e).over then 1 else 0)+(if(aV u (nx u e)).over then 1 else 0)
section
variable {F:Nat} {u:ae}
def Wg{e:Nat}(h:e<I u)(hl:I u<=1000000):aC S 29 [ic F u,ai e] (.tup [DO (kQ u e).1,DO (kQ u e).2.1,.one (.p (.bool (kQ u e).2.2))]):=by
 have pb:=Kt (F:=F) h hl;unfold kQ;generalize aV u e=A at pb |-;refine ba awl ?_;cases H:(A.kind==1)
 case' true=>rw[aI rfl]
 case' false=>rw[aE aa]
 all_goals
  simp only[go_sem,akN,F1,dt pb (abJ _ _),H];repeat' ((first|apply qh|apply ql|apply qg|apply qq|apply pL|apply qf)<;>intro h<;>simp only[go_sem, *])
  all_goals(first|done|exact aK|exact⟨aK,rfl⟩|rfl)
def WT{e:Nat}(h:e<I u)(hl:I u<=1000000):aC S 97 [ic F u,ai e] (.tup [DO (aV u e),DO (aV u (nx u e)),.one (.p (.bool (r6 u e)))]):=by
 have pb:=Kt (F:=F) h hl;unfold r6;refine ba aGF ?_;simp only[go_sem,aly,F1,dt pb (abJ _ _)];repeat' ((first|apply qh|apply ql|apply qg|apply qq|apply pL|apply qf)<;>intro h<;>simp only[go_sem, *])
 all_goals(first|done|exact aK|exact⟨aK,rfl⟩|rfl)
def aDd{e:Nat}(h:e<I u)(hl:I u<=1000000):aC S 141 [ic F u,ai e] (fH (IY u e)):=by
 have pb:=Kt (F:=F) h hl;unfold IY;generalize aV u e=A at pb |-;generalize aV u _=B at pb |-;have m:IntKind.i64.wrap (0+1)=1:=aa;have j:IntKind.i64.wrap (1+1)=2:=aa;refine ba aB0 ?_;cases H:A.over<;>cases f:B.over<;>simp only[go_sem,aho,F1,dt pb (abJ _ _),H,f]
 all_goals rfl
def ar8(b c:Int)(hl:I u<=1000000):aC S 94 [c7 F u,.agg [.p (.int .i64 b),.p (.int .i64 c)]] (cK (decide (0<=b)&&(decide (b<=(F:Int))&&(decide (0<=c)&&decide (c<=((aq (m_ b) u:Nat):Int)))))):=by
 have f:=V7 F u hl b;refine ba azd ?_;simp only[go_sem,ahY];repeat' ((first|apply qh|apply ql|apply qg|apply qq|apply pL|apply qf)<;>intro h<;>simp only[go_sem, *,WL,jZ f])
 all_goals(first|done|exact aK|exact _|rfl)
def adq(f:cX)(p:Nat×Nat)(hl:I f.places<=1000000):aC S 65 [.agg (f.ps.map .p),.agg [.p (.int .i64 p.1),.p (.int .i64 p.2)]] (cK (decide (p∈f.places))):=by
 refine ba aD0 ?_;simp only[go_sem,alI,cX.ps];refine cZ (λk A blk=>A 2=.one (.aW 4160000000 1 0)/\A 3=.one (.aW 4160000064 1 0)/\A 5=ai k/\blk 4160000000=(1,some (.var [.p (.bool f.eO),.p (.sl (aY f.bc)),.p (.sl (d_ f.places)),.p (.sl (aY f.sH)),.p (.bool f.outer)]))/\blk 4160000064=(1,some (.var [.p (.int .i64 p.1),.p (.int .i64 p.2)]))/\ ∀j,j<k->f.places[j]? ≠some p) 0 (I f.places) (bj _) ?_ ?_
 .simp only[go_sem];exact⟨rfl,λj h=>absurd h (oJ j)⟩
 rintro k A blk T ⟨H,u,m,b0,B,N⟩
 by_cases x:k<I f.places
 .have z:((k:Int)<(I f.places:Int)):=J;obtain⟨y,F⟩:=aP x;have D:=aan F;have E:=cg (n:=k) J;by_cases M:y=p
  .subst M;simp only[go_sem,Ou,H,u,m,b0,B,z,D,by simpa using a8 F,nJ,n9];first|done|exact aK
  have v:∀j,j<k+1->f.places[j]? ≠some p:=λj h=>by grind
  cases L:((y.1:Int)==(p.1:Int))with
  |false=>simp only[go_sem,Ou,H,u,m,b0,B,x,z,D,L,E,nJ,n9];first|exact v|exact⟨aK,v⟩
  |true=>
   have Q:((y.2:Int)==(p.2:Int))=false:=ii
   simp only[go_sem,Ou,H,u,m,b0,B,x,z,D,L,Q,E,nJ,n9];first|exact v|exact⟨aK,v⟩
 have:k=I f.places:=J;subst this;have R:decide (p∈f.places)=false:=by simp only[decide_eq_false_iff_not];intro O;obtain⟨j,h⟩:=gJ O;exact absurd h (N j (bN.1 h).1)
 simp only[go_sem,Ou,agY,H,m,b0,ek,R]
abbrev aB4(f:cX):RV:=.agg [.p (.bool f.eO),.p (.sl (aY f.bc)),.p (.sl (d_ f.places)),.p (.sl (aY f.sH)),.p (.bool f.outer)]
def R1(g:aU F u){e:Nat}(he:e<I u)(l:Bool):aC S 66 [ic F u,ai e,iB l] (aB4 (c8 F u (if l then 2*e else 2*e+1))):=by
 have T:=g.len;have M:=qj (a:=e) J;have Z:=cg (n:=2*e) J;have L:∀x:Bool,(if x then 2*e else 2*e+1)<2*I u:=λx=>by cases x<;>simp<;>omega
 have qT:I (dA F u)<=1000000:=by have h1:=g.nw;have h2:=ny U.ay u;have H:=ny U.au u;rw[WH];omega
 have m:∀d,d<2*I u->∀Q:ib,(∀A blk,A 6=.one (.aW 4224000064 1 0)->blk 4224000064=(1,some (.var [.p (.bool (c8 F u d).eO),.p (.sl (aY (c8 F u d).bc)),.p (.sl (d_ (c8 F u d).places)),.p (.sl (aY (c8 F u d).sH)),.p (.bool (c8 F u d).outer)]))->Q .ret A blk)->∀A blk,A 3=.one (.aW 4224000000 1 0)->A 6=.one (.aW 4224000064 1 0)->A 7=ai d->A 8=ai 0->blk 4224000000=(1,some (.var (AF F u)))->blk 4224000064=(1,some (.var [.p (.bool false),.p .nils,.p .nils,.p .nils,.p (.bool false)]))->W S .all (.loop SY) (oh 0 (vn S .all agQ Q)) A blk:=by
  intro d L Q hQ A blk H h v y b0 B;obtain⟨j,D,X,_⟩:=BC (F:=F) L;have rQ:=(bN.1 D).1;refine cZ (λk A blk=>k<=j/\A 3=.one (.aW 4224000000 1 0)/\A 6=.one (.aW 4224000064 1 0)/\A 7=ai d/\A 8=ai k/\blk 4224000000=(1,some (.var (AF F u)))/\blk 4224000064=(1,some (.var [.p (.bool false),.p .nils,.p .nils,.p .nils,.p (.bool false)]))) 0 (I (dA F u)) (bj _) ⟨bj _,H,h,v,y,b0,B⟩ ?_;rintro k A blk hk ⟨ET,H,h,v,y,b0,B⟩
  have N:k<I (dA F u):=J;have O:((k:Int)<(I (dA F u):Int)):=J;obtain⟨f,hf⟩:=aP N;have R:=It hf;have Y:=cg (n:=k) J;have yx:I f.bc<=1000000:=by have h9:I f.bc<=2*I u+2*I (aA u):=IU g.ok (a8 hf);have kG:I (aA u)<=I u:=qp u (I u);omega
  have z:=Et f.bc d yx;by_cases e:k=j
  .subst e;obtain rfl:f=c8 F u d:=mQ (hf.symm.trans D);have E:decide (d∈(c8 F u d).bc)=true:=by simpa using X
   rw[E]at z;simp only[go_sem,SY,H,h,v,y,b0,B,O,R,cX.ps,uy,cS z];exact hQ _ _ (by simp only[go_sem,h]) d9
  have E:decide (d∈f.bc)=false:=by simp only[decide_eq_false_iff_not];exactλhh=>absurd (W7 hf D hh X) e
  rw[E]at z;simp only[go_sem,SY,H,h,v,y,b0,B,N,O,R,cX.ps,uy,cS z,Y];omega
 refine ba aHc ?_;cases l with
 |true=>
  simp only[go_sem,aaM,M];refine m (2*e) J _ (λA blk h B=>?_) _ _ ?_ ?_ ?_ ?_ ?_ ?_;all_goals simp only[go_sem]
  simp only[go_sem,h,B];rfl
 |false=>
  simp only[go_sem,aaM,M,Z];refine m (2*e+1) J _ (λA blk h B=>?_) _ _ ?_ ?_ ?_ ?_ ?_ ?_;all_goals simp only[go_sem]
  simp only[go_sem,h,B];rfl
end
def YS(l:dK):gk 1 (dx l):=by simp[gk]
def afo(l:dK):((dx l).all λe=>e.all PV.scalar):=by simp[PV.scalar]
def aAH(a b:dK):dx (a++b)=dx a++dx b:=iT
def uL(l:ae):I (bY l)=I l:=ct _
def Hk(l:dK):I (dx l)=I l:=ct _
def abB{f T z:Nat}{fs:dy}{c d:cG}{blk:aH}(af:s1≠f)(h:a_ s1 t1 z1 H (.one c) blk)(v:a_ f T z fs (.one d) blk):iD blk (.agg [c,d])=some (.agg [bU t1 z1 H,bU T z fs]):=by obtain⟨A,o,y,m,n⟩:=h.iN;cases y;obtain⟨D,q,j,u,x⟩:=v.iN;cases j;rcases n with rfl|rfl<;>rcases x with rfl|rfl<;>simp[iD,mM,kZ,kD,m,u,lg,oE,nq,af]
def Hq(u:ae)(k:Nat):dK:=(List.range k).map (dn u)
abbrev eR(ls:ae):dK:=Hq ls (I ls)
def avl(u:ae)(k:Nat):dx (Hq u (k+1))=dx (Hq u k)++[[.bool (dn u k)]]:=by simp[Hq,mJ]
def aDt(u:ae)(k:Nat):I (Hq u k)=k:=by simp[Hq]
def aGs(f:Int)(u:ae)(hl:I u<=1000000):aC S 63 [c7 f u] (.one (bU 4 1 (dx (eR u)))):=by
 refine ba aDn ?_;simp only[go_sem,afs];refine cZ (λk A blk=>A 1=.one (.aW 4032000000 1 0)/\A 4=ai k/\blk 4032000000=(1,some (.var (pF f u)))/\ ∃c,A 3=.one c/\a_ 4032320320 4 1 (dx (Hq u k)) (.one c) blk) 0 (I u) (bj _) ?_ ?_
 .simp only[go_sem];exact⟨rfl,_,rfl,a_.nil⟩
 rintro k A blk L ⟨H,h,b0,c,m,j⟩
 by_cases z:k<I u
 .have D:((k:Int)<(I u:Int)):=J;have x:=cg (n:=k) J;have B:=J_ f u k hl J;simp only[go_sem,aes,H,m,h,b0,D,GS,cS B];refine mO (j.of_eq (cJ aa)) f0 (.inl rfl) (by simp[aDt];omega) λv F E y=>?_;have Q:=y 4032000000 aa aa;simp only[go_sem,b0]at Q;simp only[go_sem,H,h,x,z,Q];exact⟨v,rfl,by rw[avl];exact E⟩
 have:k=I u:=J;subst this;simp only[go_sem,aes,amJ,H,m,h,b0,ek];exact qN j
def B4(f:Int)(u:ae)(hl:I u<=1000000):aC S 23 [c7 f u] (.agg [bU fO 6 (bY u),bU 4 1 (dx (eR u))]):=by refine ba aGR ?_;simp only[go_sem,aiA];refine oT (id:=1472064128) a_.nil rfl (.inr (w7 _)) ii λy n r w g1 h H=>?_;simp only[go_sem,h 1472000000 aa aa,asJ];refine J5 (aGs f u hl) ah (.inr (qF (afo _))) λm x v j B Q=>?_;simp only[go_sem,(B 1472000064 aa).trans (h 1472000064 aa aa)];refine⟨?_,abB aa ((g1.of_eq (B 1472064128 aa)).of_eq (cJ aa)) (j.of_eq (cJ aa))⟩;rcases H with⟨rfl,rfl⟩|⟨rfl,rfl⟩|⟨rfl,rfl⟩<;>rcases Q with rfl|rfl<;>kernel_rfl
def am8(f:Int)(u:ae)(hl:I u<=1000000):aC S 105 [c7 f u] (.agg [.p (.int .i64 f),bU fO 6 (bY u)]):=by refine ba aCf ?_;simp only[go_sem,aoe];refine oT (id:=6720064256) a_.nil rfl (.inr (w7 _)) ii λn m r w g1 j h=>?_;simp only[go_sem,j 6720000064 aa aa];refine⟨?_,Gc (g1.of_eq (cJ aa))⟩;rcases h with⟨rfl,rfl⟩|⟨rfl,rfl⟩|⟨rfl,rfl⟩<;>kernel_rfl
def GZ(L:ae)(D:dK)(i:Nat):Bool:=match L[i]?,D[i]? with|some l,some d=>(l.kind==1)&&d|_,_=>false
def J7(L:ae)(D:dK):eF:=(List.range (I L)).find? (GZ L D)
def kj(L:ae)(D:dK):ae:=match J7 L D with|some i=>L.drop i++L.take i|none=>L
def agp(f:Int)(L:ae)(D:dK)(hl:I L<=1000000)(hd:I D=I L):aC S 68 [c7 f L,.one (.p (.sl (dx D)))] (.agg [.p (.int .i64 f),bU fO 6 (bY (kj L D))]):=by
 have pc:=am8 f L hl;have lo:S.lone 4352384064=false:=ah;refine ba axi ?_;simp only[go_sem,an8];refine cZ (λk A blk=>A 1=.one (.p (.sl (dx D)))/\A 2=.one (.aW 4352000000 1 0)/\A 4=.one (.aW 4352000064 1 0)/\A 5=ai k/\blk 4352000000=(1,some (.var (pF f L)))/\blk 4352000064=(1,some (.var [.p (.int .i64 0),.p .nils]))/\ ∀j,j<k->GZ L D j=false) 0 (I L) (bj _) ?_ ?_
 .simp only[go_sem];exact⟨rfl,λj Q=>absurd Q (oJ j)⟩
 rintro k A blk hk ⟨x,H,E,y,b0,B,N⟩
 by_cases z:k<I L
 .have M:((k:Int)<(I L:Int)):=J;obtain⟨l,hL⟩:=aP z;obtain⟨d,Z⟩:=aP (h:=D) (k:=k) J;have R:=fW hL;have X:=rB Z;have T:=cg (n:=k) J;have af:GZ L D k=((l.kind==1)&&d):=by simp[GZ,hL,Z]
  have m:GZ L D k=false->∀j,j<k+1->GZ L D j=false:=λh j Q=>by
   rcases vq.1 Q with x|rfl
   .exact N j x
   exact h
  cases v:(l.kind==1)with
  |false=>rw[v]at af;simp only[go_sem,RU,x,H,E,y,b0,B,z,M,R,U.ps,v,T];exact m af
  |true=>
   rw[v]at af;cases d with
   |false=>simp only[go_sem,RU,x,H,E,y,b0,B,z,M,R,X,U.ps,v,T];exact m af
   |true=>
    have hf:J7 L D=some k:=CC z N af;have F:kj L D=L.drop k++L.take k:=by unfold kj;rw[hf]
    have kl:k<=I L:=J;have Y:=w7 L;have zJ:List.take (I L-k) (List.drop k (bY L))=bY (L.drop k):=WF
    have iw:List.take k (bY L)=bY (L.take k):=aIx
    rw[F,WJ];simp only[go_sem,RU,x,H,y,b0,M,R,X,U.ps,v,kl,Y,zJ];refine oT (id:=4352320384) a_.nil rfl (.inr (w7 _)) fd λc1 cE r w g1 cU hw=>?_;rw[gM]at g1;have q1:=(cU 4352000064 aa aa).trans B;simp only[go_sem,H,y,(cU 4352000000 aa aa).trans b0,kl,Y,iw];refine oT g1 rfl (.inr (w7 _)) fd λc2 bt r2 w2 g2 O qD=>?_;simp only[go_sem,E,(O 4352000064 aa aa).trans q1];refine⟨?_,Gc (g2.of_eq (cJ aa))⟩;rcases hw with⟨rfl,rfl⟩|⟨rfl,rfl⟩|⟨rfl,rfl⟩<;>rcases qD with⟨rfl,rfl⟩|⟨rfl,rfl⟩|⟨rfl,rfl⟩<;>kernel_rfl
 have:k=I L:=J;subst this;have hf:J7 L D=none:=I7 N;have F:kj L D=L:=by unfold kj;rw[hf]
 rw[F];simp only[go_sem,RU,aiS,H,y,b0,ek,Z3];refine Mn pc lo rfl (Ee _) λc2 bt yn O=>?_;simp only[go_sem,E,(O 4352000064 aa).trans B];exact Gc (yn.of_eq (cJ aa))
def ym(f:Int)(u L:ae)(D:dK)(hl:I L<=1000000)(h:I D=I L):aC S 36 [.agg [.p (fz L),.p (.sl (dx D))],c7 f u] (.agg [.p (.int .i64 f),bU fO 6 (bY (kj L D))]):=by refine ba aqV ?_;simp only[go_sem,akE,amK];refine Mn (agp f L D hl h) ah rfl (Ee _) λj m y B=>?_;simp only[go_sem,B 2304000128 aa];exact Gc (y.of_eq (cJ aa))
def afk{α:Type}{l:List α}{p q:α->Bool}(h:∀x∈l,p x=q x):l.find? p=l.find? q:=by
 induction l with
 |nil=>rfl
 |cons a l f=>grind
def ahv{l:bK}{f:Nat}(hf:f<=I l):tg l f (I l)=(l.drop f++l.take f).map aQ.l:=by
 apply qO;intro i;by_cases j:i<I l
 .have h:(tg l f (I l))[i]?=some (l.getD ((f+i)%I l) ⟨jJ,false⟩).l:=by
   simp[tg,j]
  rw[h,fX];by_cases H:f+i<I l
  .rw[yY fd,E3,fC H];simp[H]
  rw[uJ fd,sD];have m:(f+i)%I l=i-(I l-f):=by rw[Sg J,fC J];omega
  grind
 have h:I (tg l f (I l))=I l:=by simp[tg]
 rw[pS aIt,pS fd]
def aFU{l:bK}(j:l.map aQ.l=L)(m:I D=I l)(h:∀(i:Nat) (p:aQ),l[i]?=some p->(p.l.kind==1)->D[i]?=some p.d):ch l=kj L D:=by
 subst j;have hf:sU l=J7 (l.map aQ.l) D:=by
  unfold sU J7;rw[ct];refine afk λi H=>?_
  grind [RF,GZ,Av]
 unfold ch kj;rw[<-hf];cases f:sU l with
 |none=>simp;rw[ahv (bj _)];simp
 |some i=>
  have H:i<I l:=by
   have:=AP f
   simpa using this
  simp;rw[ahv (VB H),iT,uN,uC]
abbrev Gf(L:ae)(D:dK):V:=.agg [.p (fz L),.p (.sl (dx D))]
abbrev uM(L:ae)(D:dK):RV:=.agg [bU fO 6 (bY L),bU 4 1 (dx D)]
def hJ{α:Type}(l x:List α)(k:Nat):List α:=l.take (k+1)++x++l.drop (k+1)
def lA{α:Type}(l x:List α)(k:Nat):I (hJ l x k)=I l+I x:=by grind [hJ]
def NH(L:ae)(D:dK)(k:Nat)(x y:U)(dn:Bool)(hl:I L<=1000000)(hd:I D=I L)(hk:k<I L):
  aC S 33 [Gf L D,ai k,yk x,yk y,iB dn] (uM (hJ L [x,y] k) (hJ D [dn,!dn] k)):=by
 have j:=cg (n:=k) J;have k1:k+1<=I L:=J;have k2:k+1<=I D:=J;have s1:=w7 L;have s2:=YS D;have t1:List.take (k+1) (bY L)=bY (L.take (k+1)):=aIx
 have t2:List.take (k+1) (dx D)=dx (D.take (k+1)):=aIx
 have t3:List.take (I L-(k+1)) (List.drop (k+1) (bY L))=bY (L.drop (k+1)):=WF
 have t4:List.take (I D-(k+1)) (List.drop (k+1) (dx D))=dx (D.drop (k+1)):=WF
 have r1:∀X:ae,I X<=2000000->I (bY X)<=2000000:=λX h=>by rw[uL];exact h
 refine ba aso ?_;simp only[go_sem,agN,j,k1,s1,t1];refine oT (id:=2112064320) a_.nil rfl (.inr (w7 _)) fd λc1 cE ra wa g1 m xC=>?_;rw[gM]at g1;have Q:=m 2112000000 aa aa;have p7:=m 2112000064 aa aa;have p8:=m 2112000128 aa aa;have Bp:=m 2112000192 aa aa;simp only[go_sem]at Q p7 p8 Bp;simp only[go_sem,Q,j,k2,s2,t2];refine oT (id:=2112064704) a_.nil rfl (.inr (YS _)) fd λc2 bt cK wb g2 B qD=>?_;rw[gM]at g2;have q0:=(B 2112000000 aa aa).trans Q;have q7:=(B 2112000064 aa aa).trans p7;have q8:=(B 2112000128 aa aa).trans p8;have T:=g1.of_eq (B 2112064320 aa aa);simp only[go_sem,q7,q8];refine⟨?_,?_⟩
 .rcases xC with⟨rfl,rfl⟩|⟨rfl,rfl⟩|⟨rfl,rfl⟩<;>rcases qD with⟨rfl,rfl⟩|⟨rfl,rfl⟩|⟨rfl,rfl⟩<;>kernel_rfl
 refine oT (T.of_eq d9) f0 (.inl rfl) (by simp only[uL,ko];omega) λc4 nE rc wc g3 u A=>?_;have Z:=u 2112000000 aa aa;have S2:=u 2112000192 aa aa;have S3:=u 2112064832 aa aa;have zg:=u 2112064704 aa aa;simp only[go_sem,q0,(B 2112000192 aa aa).trans Bp]at Z S2 S3 zg;have M:=g2.of_eq zg;simp only[go_sem,Z,j,k1,s1,t3];refine oT g3 rfl (.inr (w7 _)) (by simp only[uL,iM,ko,sD,fF,fB];omega) λfv zo ag ak g4 O z=>?_;have y0:=(O 2112000000 aa aa).trans Z;have Y:=(O 2112064832 aa aa).trans S3;have F:=M.of_eq (O 2112064704 aa aa);simp only[go_sem,Y];refine⟨?_,?_⟩
 .rcases A with⟨rfl,rfl⟩|⟨rfl,rfl⟩|⟨rfl,rfl⟩<;>rcases z with⟨rfl,rfl⟩|⟨rfl,rfl⟩|⟨rfl,rfl⟩<;>kernel_rfl
 refine oT (F.of_eq d9) f0 (.inl rfl) (by simp only[Hk,ko];omega) λc5 Mb re we g5 f R=>?_;have x0:=f 2112000000 aa aa;have FO:=f 2112000192 aa aa;have Ht:=f 2112064832 aa aa;have xg:=f 2112128704 aa aa;simp only[go_sem,y0,(O 2112000192 aa aa).trans S2]at x0 FO Ht xg;have N:=g4.of_eq xg;simp only[go_sem,x0,j,k2,s2,t4];refine oT g5 rfl (.inr (YS _)) (by simp only[Hk,iM,ko,sD,fF,fB];omega) λfZ ad C8 wf g6 H v=>?_;have E:=N.of_eq (H 2112128704 aa aa);simp only[go_sem,(H 2112000192 aa aa).trans FO,(H 2112064832 aa aa).trans Ht];refine⟨?_,?_⟩
 .rcases R with⟨rfl,rfl⟩|⟨rfl,rfl⟩|⟨rfl,rfl⟩<;>rcases v with⟨rfl,rfl⟩|⟨rfl,rfl⟩|⟨rfl,rfl⟩<;>kernel_rfl
 have e1:bY (hJ L [x,y] k)=bY (L.take (k+1))++[x.ps,y.ps]++bY (L.drop (k+1)):=by simp[hJ]
 have e2:dx (hJ D [dn,!dn] k)=dx (D.take (k+1))++[[.bool dn],[.bool !dn]]++dx (D.drop (k+1)):=by simp[hJ]
 rw[uM,e1,e2];exact abB aa (E.of_eq d9) (g6.of_eq d9)
def IG{α:Type}(l:List α)(out:aD)(i:Nat):Option α:=if i∈out then none else l[i]?
def w_{α:Type}(l:List α)(out:aD)(k:Nat):List α:=(List.range k).filterMap (IG l out)
abbrev kr{α:Type}(l:List α)(out:aD):List α:=w_ l out (I l)
def Vn{α:Type}{l:List α}{out:aD}{k:Nat}(h:k∈out):w_ l out (k+1)=w_ l out k:=by simp[w_,mJ,SA,IG,h]
def V0{α:Type}{l:List α}{out:aD}{k:Nat}{x:α}(h:¬k∈out)(H:l[k]?=some x):w_ l out (k+1)=w_ l out k++[x]:=by simp[w_,mJ,SA,IG,h,H]
def ab6{α:Type}(l:List α)(out:aD)(k:Nat):I (w_ l out k)<=k:=by grind [w_]
def aen(L:ae)(D:dK)(out:aD)(hl:I L<=1000000)(hd:I D=I L)(ho:I out<=1000000):aC S 25 [Gf L D,.one (.p (.sl (aY out)))] (uM (kr L out) (kr D out)):=by
 refine ba arJ ?_;simp only[go_sem,akr];refine cZ (λk A blk=>A 1=.one (.p (.sl (aY out)))/\A 2=.one (.aW 1600000000 1 0)/\A 4=.one (.aW 1600000064 1 0)/\A 5=.one (.aW 1600064000 1 0)/\A 6=ai k/\blk 1600000000=(1,some (.var [.p (fz L),.p (.sl (dx D))]))/\blk 1600000064=(1,some (.var [.p .nils,.p .nils]))/\
  ∃T X,blk 1600064000=(1,some (.var [T,X]))/\a_ 1600384512 fO 6 (bY (w_ L out k)) (.one T) blk/\a_ 1600448512 4 1 (dx (w_ D out k)) (.one X) blk) 0 (I L) (bj _) ?_ ?_
 .simp only[go_sem];exact⟨rfl,_,_,rfl,a_.nil,a_.nil⟩
 rintro k A blk hk ⟨R,h,O,H,j,b0,F,T,X,B,g1,m⟩
 by_cases N:k<I L
 .have aL:((k:Int)<(I L:Int)):=J;have Z:=cg (n:=k) J;have E:=Et out k ho;obtain⟨x,hx⟩:=aP N;obtain⟨d,hD⟩:=aP (h:=D) (k:=k) J;have l1:=ab6 L out k;have l2:=ab6 D out k;cases y:decide (k∈out)with
  |true=>rw[y]at E;have f:=xT y;simp only[go_sem,WO,R,h,O,H,j,b0,F,B,N,aL,uy,cS E,Z];exact⟨_,_,rfl,by rw[Vn f];exact g1,by rw[Vn f];exact m⟩
  |false=>
   rw[y]at E;have f:=tq y;simp only[go_sem,WO,R,h,H,j,b0,B,aL,uy,cS E,fW hx,U.ps];refine oT (B:=[x.ps]) (g1.of_eq (cJ aa)) f0 (.inl rfl) (by simp only[uL,fF,fB];omega) λc4 cE ra wa g3 v xC=>?_;have M:=v 1600000000 aa aa;have q1:=v 1600000064 aa aa;have q5:=v 1600064000 aa aa;have Q:=v 1600448512 aa aa;simp only[go_sem,b0,F,B]at M q1 q5 Q;simp only[go_sem,h,H,j,M,q5,rB hD];refine⟨?_,?_⟩
   .rcases xC with⟨rfl,rfl⟩|⟨rfl,rfl⟩|⟨rfl,rfl⟩<;>kernel_rfl
   refine oT (B:=[[.bool d]]) ((m.of_eq Q).of_eq d9) f0 (.inl rfl) (by simp only[Hk,fF,fB];omega) λfv bt cK wb g4 z qD=>?_;have p0:=z 1600000000 aa aa;have p1:=z 1600000064 aa aa;have Y:=z 1600064000 aa aa;have N6:=z 1600384512 aa aa;simp only[go_sem,M,q1]at p0 p1 Y N6;simp only[go_sem,R,h,O,H,j,p0,p1,Y,Z,N];refine⟨?_,?_⟩
   .rcases qD with⟨rfl,rfl⟩|⟨rfl,rfl⟩|⟨rfl,rfl⟩<;>kernel_rfl
   refine⟨_,_,rfl,?_,?_⟩
   .rw[V0 f hx,WJ];exact(g3.of_eq N6).of_eq d9
   rw[V0 f hD,aAH];exact g4.of_eq d9
 have:k=I L:=J;subst this;rw[<-hd]at m;simp only[go_sem,WO,anj,h,O,H,j,b0,F,B,ek];exact abB aa (g1.of_eq d9) (m.of_eq d9)
def avj(M ez X Z box:Nat)(L:ae)(D:dK)(blk:aH)(v:V)(A:aH):Prop:=v=.tup []/\A M=(ez,some (.arr fO 6 (bY L)))/\A X=(Z,some (.arr 4 1 (dx D)))/\dk (λi=>i=M\/i=X\/i=box) blk A
def Jp{α:Type}(l:List α)(i j:Nat)(x y:α):List α:=(l.set i y).set j x
def awZ{al:cD}{blk:aH}{ez i:Nat}{x y:U}{c d:Bool}(o1:al.ok M)(Y:al.ok X)(o3:al.ok 1920000000)(N:M≠X)(T:M≠1920000000)(n:X≠1920000000)
  (hL:blk M=(ez,some (.arr fO 6 (bY L)))) (F:blk X=(Z,some (.arr 4 1 (dx D)))) (hd:I D=I L) (z:L[i]?=some x) (u:L[j]?=some y) (hc:D[i]?=some c) (he:D[j]?=some d) (m:i≠j):
  ∃v A,ja S 30 [.agg [.hsl M ez 6 0 (I L),.hsl X Z 1 0 (I D)],ai i,ai j] al blk v A/\avj M ez X Z 1920000000 (Jp L i j x y) (Jp D i j c d) blk v A:=by
 have hi:=(bN.1 z).1;have hj:=(bN.1 u).1;have f:i<I D:=J;have E:j<I D:=J;have B:=fW z;have py:=fW u;have pc:=rB hc;have pd:=rB he;have O:¬(j=i):=λh=>m h.symm;refine mL aBV (jg rfl) ?_;simp only[go_sem,af7,o1,Y,o3,hL,F,N.symm,T,T.symm,n,hi,hj,f,E,B,py,pc,pd,U.ps,m,qt,uL,Hk];refine⟨aK (by simp[qI,CY,zc,sd,zh,T.symm];decide),aK (by simp[qI,CY,zc,sd,zh,n.symm];decide),?_⟩;refine⟨rfl,?_,?_,?_⟩
 .simp only[go_sem,N,T];simp[Jp,bY,vt,U.ps]
 .simp only[go_sem,N.symm,n];simp[Jp,vt]
 intro q H;have Q:q≠M:=λh=>H (.inl h);have q2:q≠X:=λh=>H (.inr (.inl h));have R:q≠1920000000:=λh=>H (.inr (.inr h));simp only[go_sem,Q,q2,R]
def jx(g Y dF:Int)(l:U):U:=if(l.kind==1)&&((l.gate==g)&&decide (Y<l.ao))then{l with ao:=l.ao-dF}else l
def Xt{α:Type}{f:α->α}{L:List α}{k:Nat}{x:α}(h:L[k]?=some x):((L.take k).map f++L.drop k)[k]?=some x:=by grind
def OV{α:Type}{f:α->α}{L:List α}{k:Nat}{x:α}(h:L[k]?=some x):((L.take k).map f++L.drop k).set k (f x)=(L.take (k+1)).map f++L.drop (k+1):=by
 have hl:=(bN.1 h).1;rw[Nl _ _ fd];simp[ct,ko,zx (VB hl),BU]
 grind [U9]
def aem{α:Type}{f:α->α}{L:List α}{k:Nat}{x:α}(h:L[k]?=some x)(hf:f x=x):(L.take k).map f++L.drop k=(L.take (k+1)).map f++L.drop (k+1):=by
 rw[<-OV h,hf];have:=Xt (f:=f) h;obtain _:=bN.1 this
 grind [S8]
def acy{α:Type}{f:α->α}(L:List α)(k:Nat):I ((L.take k).map f++L.drop k)=I L:=by simp;omega
def gK{α:Type}(l:List α)(i j:Nat):List α:=match l[i]?,l[j]? with
 |some x,some y=>(l.set i y).set j x
 |_,_=>l
def Nz{k:Nat}(H:2<=I u)(f:k<I u):k≠nx u k:=by
 unfold nx;by_cases h:k+1<I u
 .rw[fC h];omega
 grind [yN]
def aoG(M ez box:Nat)(L:ae)(blk:aH)(v:V)(A:aH):Prop:=v=.tup []/\A M=(ez,some (.arr fO 6 (bY L)))/\dk (λi=>i=M\/i=box) blk A
abbrev qe{α:Type}(f:α->α)(L:List α)(k:Nat):List α:=(L.take k).map f++L.drop k
def F4(L:ae)(i:Nat)(y:U){z:dR}(h:y.ps=z):(bY L).set i z=bY (L.set i y):=by subst h;simp[bY,vt]
def aiF{al:cD}{blk:aH}{ez:Nat}{D:Abs.cG}{g:Int}(R:al.ok M)(O:al.ok 1728000000)(T:M≠1728000000)
  (hl:I L<=1000000) (Q:blk M=(ez,some (.arr fO 6 (bY L)))) (X:∀x∈L,IntKind.i64.wrap (x.ao-dF)=x.ao-dF):
  ∃v h,ja S 27 [.agg [.hsl M ez 6 0 (I L),D],ai g,ai Y,ai dF] al blk v h/\aoG M ez 1728000000 (L.map (jx g Y dF)) blk v h:=by
 refine mL agi (jg rfl) ?_;simp only[go_sem,aa2,O];refine cZ (λk A h=>A 1=ai g/\A 2=ai Y/\A 3=ai dF/\A 4=.one (.aW 1728000000 ((blk 1728000000).1+1) 0)/\A 8=ai k/\h 1728000000=((blk 1728000000).1+1,some (.var [.hsl M ez 6 0 (I L),D]))/\h M=(ez,some (.arr fO 6 (bY (qe (jx g Y dF) L k))))/\dk (λi=>i=M\/i=1728000000) blk h) 0 (I L) (bj _) ?_ ?_
 .simp only[go_sem,T];exact⟨rfl,by simpa [qe]using Q,(dk.refl _ _).dz (.inr rfl) _⟩
 rintro k A cE hk ⟨h1,h2,h3,y,B,u,j,E⟩
 by_cases m:k<I L
 .have F:((k:Int)<(I L:Int)):=J;have w1:=cg (n:=k) J;obtain⟨x,H⟩:=aP m;have Z:=Xt (f:=jx g Y dF) H;have N:=fW Z;have iX:k<I (qe (jx g Y dF) L k):=by rw[acy];exact m
  have wr:=X x (a8 H);simp only[go_sem,WM,y,B,u,j,m,F,N,U.ps,R,O];repeat' ((first|apply qh|apply ql|apply qg|apply qq|apply pL|apply qf)<;>intro he<;>simp only[go_sem, *,T.symm,U.ps])
  all_goals(first|rw[show qe (jx g Y dF) L k=qe (jx g Y dF) L (k+1)from aem H (by simp only[jx, *];rfl)]|skip)
  refine⟨aK aHM,?_,?_⟩
  .rw[F4 _ _ (jx g Y dF x) (by simp[jx,U.ps, *])];exact congrArg (λz=>(ez,some (gr.arr fO 6 (bY z)))) (OV H)
  exact E.dz (.inl rfl) _
 have:k=I L:=J;subst this;rw[show qe (jx g Y dF) L (I L)=L.map (jx g Y dF) by simp[qe]]at j;simp only[go_sem,WM,y,B,u,O,ek];exact⟨rfl,j,E⟩
def ar1{al:cD}{blk:aH}{f:Abs.cG}{g:Int}(O:al.ok 1728000000):
  ∃v A,ja S 27 [.agg [.p .nils,f],ai g,ai Y,ai dF] al blk v A/\v=.tup []/\dk (· =1728000000) blk A:=by
 refine mL agi (jg rfl) ?_;simp only[go_sem,aa2,O];refine oG ?_;simp only[go_sem,WM,O];have h:decide ((0:Int)<((0:Nat):Int))=false:=rfl;simp only[go_sem,h];exact dk.dz (dk.refl (λi=>i=1728000000) blk) rfl _
def BJ(O:cT)(i:Int)(k:Nat):Nat:=I ((O.take k).filter (λx=>decide (x<i)))
def alW(O:cT)(i:Int)(k:Nat):BJ O i k<=k:=by grind [BJ]
def auk{i x:Int}{k:Nat}(h:O[k]?=some x):BJ O i (k+1)=if decide (x<i)then BJ O i k+1 else BJ O i k:=by
 simp[BJ,jM,h,yQ]
 grind
def ot(O:cT)(l:U):U:=if l.kind==2 then{l with id:=l.id-(BJ O l.id (I O):Int)}else l
def ayM{al:cD}{blk:aH}{ez:Nat}{vd:Abs.cG}(o1:al.ok M)(o2:al.ok idG)(B:al.ok 1984000000)(T:M≠1984000000)(n3:idG≠1984000000)(n4:M≠idG)
  (hl:I L<=1000000) (hg:I O<=1000000) (hL:blk M=(ez,some (.arr fO 6 (bY L)))) (hG:blk idG=(gG,some (.arr tG 1 (fm O)))) (hw:∀x∈L,∀k:Nat,k<=I O->IntKind.i64.wrap (x.id-(k:Int))=x.id-k):
  ∃v h,ja S 31 [.agg [.hsl M ez 6 0 (I L),vd],.one (.hsl idG gG 1 0 (I O))] al blk v h/\aoG M ez 1984000000 (L.map (ot O)) blk v h:=by
 refine mL aiZ (jg rfl) ?_;simp only[go_sem,ad5,B];refine cZ (λk A h=>A 1=.one (.hsl idG gG 1 0 (I O))/\A 2=.one (.aW 1984000000 ((blk 1984000000).1+1) 0)/\A 4=ai k/\h 1984000000=((blk 1984000000).1+1,some (.var [.hsl M ez 6 0 (I L),vd]))/\h idG=(gG,some (.arr tG 1 (fm O)))/\h M=(ez,some (.arr fO 6 (bY (qe (ot O) L k))))/\dk (λi=>i=M\/i=1984000000) blk h) 0 (I L) (bj _) ?_ ?_
 .simp only[go_sem,T,n3];refine⟨rfl,hG,?_,(dk.refl _ _).dz (.inr rfl) _⟩;simp only[qe,PQ,ml,gM,Lx];exact hL
 rintro k A cE hk ⟨h1,X,Z,m,Q,j,dm⟩
 by_cases u:k<I L
 .have aL:((k:Int)<(I L:Int)):=J;have w1:=cg (n:=k) J;obtain⟨x,N⟩:=aP u;have gR:=fW (Xt (f:=ot O) N);have iX:k<I (qe (ot O) L k):=by rw[acy];exact u
  have wr:=hw x (a8 N);simp only[go_sem,T5,X,Z,m,aL,B];refine cZ (λq A h=>A 1=.one (.hsl idG gG 1 0 (I O))/\A 2=.one (.aW 1984000000 ((blk 1984000000).1+1) 0)/\A 4=ai k/\A 5=ai (BJ O x.id q)/\A 6=ai q/\h=cE) 0 (I O) (bj _) ?_ ?_
  .simp only[go_sem,h1,X,Z];exact⟨rfl,rfl⟩
  rintro q dq bt hq ⟨D,E,F,k5,k6,rfl⟩
  by_cases R:q<I O
  .have ad:((q:Int)<(I O:Int)):=J;have w2:=cg (n:=q) J;have w3:=cg (n:=BJ O x.id q) (by have:=alW O x.id q;omega);obtain⟨y,hy⟩:=aP R;have af:=auk (i:=x.id) hy;simp only[go_sem,XL,D,E,F,k6,m,Q,j,u,R,ad,gR,yL hy,U.ps,o1,o2,B];cases H:decide (y<x.id)
   case' true=>have Y:=xT H
   case' false=>have Y:=tq H
   all_goals
    rw[H]at af;simp only[go_sem,D,E,F,k5,k6,w2,w3];exact⟨aK (by simp[qI,CY,zc,sd,zh]<;>decide),R,by rw[af];rfl⟩
  have:q=I O:=J;subst this;simp only[go_sem,XL,anx,anb,D,E,F,k6,m,Q,j,u,gR,U.ps,o1,B,ek];cases kJ:x.kind==2 with
  |true=>
   simp only[go_sem,D,E,F,k5,m,Q,j,u,gR,U.ps,o1,B,w1,wr (BJ O x.id (I O)) (alW _ _ _),T.symm,n4.symm];refine⟨aK aHM,?_,?_⟩
   .rw[F4 _ _ (ot O x) (by simp[ot,U.ps,kJ])];exact congrArg (λz=>(ez,some (gr.arr fO 6 (bY z)))) (OV N)
   exact dm.dz (.inl rfl) _
  |false=>simp only[go_sem,D,E,F,m,Q,j,u,w1];refine⟨?_,dm⟩;rw[show qe (ot O) L k=qe (ot O) L (k+1)from aem N (by simp only[ot,kJ];rfl)]
 have:k=I L:=J;subst this;rw[show qe (ot O) L (I L)=L.map (ot O) by simp[qe]]at j;simp only[go_sem,T5,X,Z,m,B,ek];exact⟨rfl,j,dm⟩
theorem zq3{i:Nat}:cD.all.ok i=true:=rfl
attribute [go_sem] zq3
def lL(u:ae):I (eR u)=I u:=by simp[eR,Hq]
def Cv(L:ae)(D:dK):I (kj L D)=I L:=by grind [kj]
def ash{L:dK}(h:L≠[]):dx L≠[]:=by simpa using h
abbrev E_(L:ae)(D:dK):RV:=.agg [.own fO 6 (bY L),.own 4 1 (dx D)]
def s3(h:L≠[])(f:I D=I L):uM L D=E_ L D:=by have H:D≠[]:=λe=>h (yc.1 ii);simp[uM,E_,oa (Ah h),oa (ash H)]
def CM(L:ae)(D:dK):(E_ L D).alone:=by simp[RV.alone,mX,og,nM.alone,Ee L,afo D]
def B6(F:Nat)(L:ae):(RV.agg [.p (.int .i64 F),.own fO 6 (bY L)]).alone:=by simp[RV.alone,mX,og,nM.alone,PV.scalar,Ee L]
def lz(l:ae):(bY l).take (I l)=bY l:=eT aG
def ri(l:dK):(dx l).take (I l)=dx l:=eT aG
def H5{α:Type}{l:List α}(h:I l=n+1):l≠[]:=λe=>by rw[e]at h;cases h
def AK(g:aU F u):ki (dA F u)≠[]:=by
 have hl:=iW.2 g.ne;obtain⟨j,h,_⟩:=BC (u:=u) (d:=0) J;intro e;have:dA F u=[]:=aH0
 rw[this]at h;cases h
def aBF(g:aU F u)(k:Nat)(b c:Int)(l o:Bool)(sg:Int)(E:k<I u)(hl:I u<=400):
  aC S 9 [c7 F u,c6 5 k b c l o sg] (.agg [.p (.int .i64 F),bU fO 6 (bY (kj (hJ u [⟨2,0,0,(aq U.au u/2:Nat)+1,sg,o⟩,⟨2,0,0,(aq U.au u/2:Nat)+1,sg,!o⟩] k) (hJ (eR u) [false,!false] k)))]):=by
 have j:=Ay g;have v:=B4 (F:Int) u J;have n:=Oy (F:Int) u J;have X:aq U.au u<=I u:=ny _ _;have x:IntKind.i64.wrap _=((aq U.au u/2:Nat):Int)+1:=iS J J;have f:=NH u _ k ⟨2,0,0,(aq U.au u/2:Nat)+1,sg,o⟩ ⟨2,0,0,(aq U.au u/2:Nat)+1,sg,!o⟩ false J (lL u) E;have m:I (hJ u [⟨2,0,0,(aq U.au u/2:Nat)+1,sg,o⟩,⟨2,0,0,(aq U.au u/2:Nat)+1,sg,!o⟩] k)=I u+2:=lA _ _ _;have H:I (hJ (eR u) [false,!false] k)=I u+2:=by rw[lA,lL];rfl
 have h:=ym (F:Int) u _ _ J (H.trans m.symm);have M:S.lone 576064064=false:=ah;have O:S.lone 576128064=false:=ah;have T:S.lone 577920320=false:=ah;have L:S.lone 579136128=false:=ah;have Q:=oa (y:=tV) (z:=5) (AK g);rw[Q]at j;have N:=s3 g.ne (lL u);simp only[uM]at N;rw[N]at v;generalize R:hJ u [⟨2,0,0,(aq U.au u/2:Nat)+1,sg,o⟩,⟨2,0,0,(aq U.au u/2:Nat)+1,sg,!o⟩] k=B at*;generalize y:hJ _ [false,!false] k=A at*;rw[s3 (H5 m) (H.trans m.symm)]at f;have D:I (kj B A)=I u+1+1:=by rw[Cv];exact m
 rw[oa (Ah (H5 D))]at h |-;refine ba tc ?_;simp only[go_sem,i9,tQ,gN j M _];simp only[go_sem,yS,gN v O _,Sa,jZ n,x];refine⟨aK,?_⟩;simp only[go_sem,aeq,lz,ri,gN f T (.inr (CM _ _)),wX,ya,gN h L (.inr (B6 _ _))];simp[iD,mM,kZ,kD,iN,bG,lg,oE,nq,lz]
abbrev zG(idL ez idD gD:Nat)(n m:Nat):V:=.agg [.hsl idL ez 6 0 n,.hsl idD gD 1 0 m]
def Sp{blk:aH}{ez:Nat}(h:blk M=(ez,some (.arr fO 6 (bY L))))(H:blk X=(Z,some (.arr 4 1 (dx D)))):mI blk (zG M ez X Z n m)=[M,X]:=by have a:mI blk (.one (.hsl M ez 6 0 n))=[M]:=JR h;have b:mI blk (.one (.hsl X Z 1 0 m))=[X]:=JR H;simp[mI]at a b |-;simp[a,b]
def SR:S.sites 27=[27]:=ah
def aqi:S.sites 31=[31]:=ah
def akt:S.sites 30=[30]:=ah
def aB5{al:cD}{blk:aH}{f:Abs.cG}{g:V}(O:al.ok 1984000000):
  ∃v A,ja S 31 [.agg [.p .nils,f],g] al blk v A/\v=.tup []/\dk (· =1984000000) blk A:=by
 refine mL aiZ (jg rfl) ?_;simp only[go_sem,ad5,O];refine oG ?_;have h:decide ((0:Int)<((0:Nat):Int))=false:=rfl;simp only[go_sem,T5,O,h];exact dk.dz (dk.refl (λi=>i=1984000000) blk) rfl _
section
variable {Q:ib} {os all:fx} {d:eF} {A:bP} {blk:aH} {tr:gl} {M ez X Z:Nat} {L:ae} {D:dK}
def aj4{g:Int}(T:M≠1728000000)(hl:I L<=1000000)(H:∀x∈L,IntKind.i64.wrap (x.ao-dF)=x.ao-dF)(h:blk M=(ez,some (.arr fO 6 (bY L))))(u:blk X=(Z,some (.arr 4 1 (dx D))))
  (n:∀f,f M=(ez,some (.arr fO 6 (bY (L.map (jx g Y dF)))))->(∀i,i≠M->i≠1728000000->f i=blk i)->jC S .all os Q (dL A d (.tup [])) f):
  jW S .all (.sc 27 [zG M ez X Z (I L) (I D),ai g,ai Y,ai dF]) d os Q A blk:=by
 refine rG uS (aiF (uI ?_) (zy (by rw[SR];decide)) T hl h H) ?_
 .simp only[fq,tR,Sp h u];simp
 rintro v f ⟨rfl,m,j⟩
 exact n f m λi a b=>j i J
def aqN{g:Int}{c:Abs.cG}(H:∀f,(∀i,i≠1728000000->f i=blk i)->jC S .all os Q (dL A d (.tup [])) f):
  jW S .all (.sc 27 [.agg [.p .nils,c],ai g,ai Y,ai dF]) d os Q A blk:=by
 refine rG uS (ar1 (zy (by rw[SR];decide))) ?_;rintro v f ⟨rfl,h⟩
 exact H f λi a=>h i a
def anA(T:M≠1984000000)(N:idG≠1984000000)(B:M≠idG)(hl:I L<=1000000)(y:I O<=1000000)(j:∀x∈L,∀k:Nat,k<=I O->IntKind.i64.wrap (x.id-(k:Int))=x.id-k)(H:blk M=(ez,some (.arr fO 6 (bY L))))(z:blk X=(Z,some (.arr 4 1 (dx D))))(h:blk idG=(gG,some (.arr tG 1 (fm O))))
  (F:∀f,f M=(ez,some (.arr fO 6 (bY (L.map (ot O)))))->(∀i,i≠M->i≠1984000000->f i=blk i)->jC S .all os Q (dL A d (.tup [])) f):
  jW S .all (.sc 31 [zG M ez X Z (I L) (I D),.one (.hsl idG gG 1 0 (I O))]) d os Q A blk:=by
 have R:=Sp (n:=I L) (m:=I D) H z;have Y:mI blk (.one (.hsl idG gG 1 0 (I O)))=[idG]:=JR h;refine rG uS (ayM (uI ?_) (uI ?_) (zy (by rw[aqi];decide)) T N B hl y H h j) ?_
 .grind
 .grind
 rintro v f ⟨rfl,E,u⟩
 exact F f E λi a b=>u i J
def aiu{c:Abs.cG}(j:blk idG=(gG,some (.arr tG 1 (fm O))))(H:∀f,(∀i,i≠1984000000->f i=blk i)->jC S .all os Q (dL A d (.tup [])) f):
  jW S .all (.sc 31 [.agg [.p .nils,c],.one (.hsl idG gG 1 0 (I O))]) d os Q A blk:=by
 refine rG uS (aB5 (zy (by rw[aqi];decide))) ?_;rintro v f ⟨rfl,h⟩
 exact H f λi a=>h i a
def aGt{al:cD}{f:Nat}{m:dG}{P:V->aH->Prop}(n:al.holds (iA (S.ctx al) f m blk))(h:∃v j,ja S f m (iA (S.ctx al) f m blk) blk v j/\P v j)
  (u:∀v j,P v j->p_ S al all os Q (dL A d v) j (tr++[⟨(iA (S.ctx al) f m blk).ids,(iA (S.ctx al) f m blk).ids,(iA (S.ctx al) f m blk).fs⟩])):sY S al (.sc f m) d all os Q A blk tr:=by
 obtain⟨v,j,x,H⟩:=h;exact⟨n,v,j,x,u v j H⟩
def aw7{i:Nat}{x y:U}{c e:Bool}(n1:M≠X)(T:M≠1920000000)(O:X≠1920000000)(H:blk M=(ez,some (.arr fO 6 (bY L))))(h:blk X=(Z,some (.arr 4 1 (dx D))))(u:I D=I L)(Y:L[i]?=some x)(B:L[j]?=some y)(hc:D[i]?=some c)(he:D[j]?=some e)(F:i≠j)
  (hK:∀f,f M=(ez,some (.arr fO 6 (bY (Jp L i j x y))))->f X=(Z,some (.arr 4 1 (dx (Jp D i j c e))))->(∀q,q≠M->q≠X->q≠1920000000->f q=blk q)->p_ S .all all os Q (dL A d (.tup [])) f (tr++[⟨[M,X],[M,X],[30]⟩])):
  sY S .all (.sc 30 [zG M ez X Z (I L) (I D),ai i,ai j]) d all os Q A blk tr:=by
 have E:=Sp (n:=I L) (m:=I D) H h;have R:(iA (S.ctx .all) 30 [zG M ez X Z (I L) (I D),ai i,ai j] blk).ids=[M,X]:=by show(([zG M ez X Z (I L) (I D),ai i,ai j]:dG).map _).flatten=_;simp only[fq,tR,E];rfl
 have hf:(iA (S.ctx .all) 30 [zG M ez X Z (I L) (I D),ai i,ai j] blk).fs=[30]:=akt;refine aGt uS (awZ (uI ?_) (uI ?_) (zy (by rw[akt];decide)) n1 T O H h u Y B hc he F) ?_
 .grind
 .grind
 rintro v f ⟨rfl,h1,z,N⟩
 rw[R,hf];exact hK f h1 z λq a b c=>N q J
end
abbrev pM(F:Nat)(L:ae)(D:dK):RV:=.agg [.p (.int .i64 F),bU fO 6 (bY (kj L D))]
def Yo{α β:Type}(l:List α)(m:List β)(out:aD)(h:I m=I l):I (kr m out)=I (kr l out):=by
 suffices v:∀k,k<=I l->I (w_ m out k)=I (w_ l out k) by grind
 intro k
 induction k with
 |zero=>intro _;rfl
 |succ k f=>
  intro v;have f:=f J;by_cases H:k∈out
  .rw[Vn H,Vn H,f]
  obtain⟨x,n⟩:=aP (h:=l) (k:=k) J;obtain⟨y,j⟩:=aP (h:=m) (k:=k) J;rw[V0 H n,V0 H j];simp[f]
def aeL{α:Type}(l:List α)(out:aD):I (kr l out)<=I l:=ab6 _ _ _
def Vv{α:Type}{l:List α}{out:aD}{x:α}(h:x∈kr l out):x∈l:=by
 obtain _:=Cb.1 h
 grind [IG]
def vr(F:Nat)(u:ae):(ki (dA F u)).take (I (dA F u))=ki (dA F u):=eT aG
def ad1:uM [] []=.agg [.p .nils,.p .nils]:=by simp[uM,bU]
def az4(g:aU F u)(k:Nat)(b c:Int)(l o:Bool)(sg:Int){x:U}(X:u[k]?=some x)(hl:I u<=400)(B:∀x∈u,∀k:Nat,k<=4->IntKind.i64.wrap (x.id-(k:Int))=x.id-k):
  aC S 9 [c7 F u,c6 4 k b c l o sg] (pM F ((kr u [k,nx u k]).map (ot [x.id])) (kr (eR u) [k,nx u k])):=by
 have z:=(bN.1 X).1;have j:=Ay g;have v:=B4 (F:Int) u J;have Y:S.lone 576064064=false:=ah;have Z:S.lone 576128064=false:=ah;have T:S.lone 579136128=false:=ah;rw[oa (AK g)]at j;have N:=s3 g.ne (lL u);simp only[uM]at N;rw[N]at v;have L:=BB (F:=F) z J;have pw:=aen u (eR u) [k,nx u k] J (lL u) aG;have D:=Yo u (eR u) [k,nx u k] (lL u);have ad:=aeL u [k,nx u k];have Qh:∀y∈kr u [k,nx u k],y∈u:=λy h=>Vv h;have R:S.lone 577536512=false:=ah;have E:=fW X;have e1:aY [k,nx u k]=[[.int .i64 k],[.int .i64 ((k+1)%I u:Nat)]]:=rfl;rw[e1]at pw;generalize hL:kr u [k,nx u k]=W at*;generalize hD:kr (eR u) [k,nx u k]=V at*;by_cases A:W=[]
 .subst A;have hV:=yc.1 D;subst hV;rw[ad1]at pw;have f:aC S 36 [.agg [.p (.sl []),.p (.sl [])],c7 F u] (.agg [.p (.int .i64 F),.p .nils]):=ym (F:Int) u [] [] aG rfl;have e0:bY (kj [] [])=[]:=rfl;simp only[pM,ml,e0];rw[ab1];refine ba tc ?_;simp only[go_sem,i9,tQ,gN j Y (.inl rfl)];simp only[go_sem,yS,gN v Z (.inl rfl),lz,ri,vr,yf,jZ L,E,U.ps,LY,xV pw R (.inr rfl),Vb];refine⟨aK,?_⟩;refine aiu (O:=[x.id]) lc λcE H=>?_;have Q:=H 576000000 aa;have m:=H 576000128 aa;have n:=H 576128128 aa;simp only[go_sem]at Q m n;simp only[go_sem,Q,m,n,wX,ya,gN f T (.inr rfl)];try rfl
 rw[s3 A D]at pw;have cN:I (kj (W.map (ot [x.id])) V)=I W:=by rw[Cv,ct]
 have f:=ym (F:Int) u (W.map (ot [x.id])) V GE (by rw[ct];exact D);have jP:kj (W.map (ot [x.id])) V≠[]:=λe=>A (yc.1 (by rw[<-cN,e];rfl));simp only[pM];rw[oa (Ah jP)]at f |-;refine ba tc ?_;simp only[go_sem,i9,tQ,gN j Y (.inl rfl)];simp only[go_sem,yS,gN v Z (.inl rfl),lz,ri,vr,yf,jZ L,E,U.ps,LY,xV pw R (.inr (CM _ _)),Vb];refine⟨aK,?_⟩;refine anA (O:=[x.id]) aa aa aa J aG (λy hy k z=>B y (Qh y hy) k (by simp at z;omega)) d9 d9 lc λcE h1 H=>?_
 have Q:=H 576000000 aa aa;have m:=H 576000128 aa aa;have n:=H 576128128 aa aa;have M:=H 577536513 aa aa;simp only[go_sem]at Q m n M;generalize Qg:W.map (ot [x.id])=W2 at*;have tk:I W=I W2:=by rw[<-Qg,ct]
 simp only[go_sem,h1,tk,Q,m,n,M,lz,ri,wX,ya,gN f T (.inr (B6 _ _))];simp[iD,mM,kZ,kD,iN,bG,lg,oE,nq,lz]
section
variable {F:Nat} {u:ae}
def axx(f:Nat->Bool)(l:aD)(k e:Nat)(h:l[k]?=some e):(l.take (k+1)).all f=((l.take k).all f&&f e):=by rw[jM,h];simp
abbrev I1(f:cX)(e:Nat):Bool:= !(decide (2*e∈f.bc)==decide (2*e+1∈f.bc))
def ab7(g:aU F u)(pl:Nat)(H:aD)(fD:∀e∈H,e<I u)(eo:I H<=1000):aC S 140 [ic F u,.one (.p (.sl (aY H))),ai pl] (cK (mZ F u pl H)):=by
 have ak:=g.len;have qT:I (dA F u)<=1000000:=by have h1:=g.nw;have L:=ny U.ay u;have X:=ny U.au u;rw[WH];omega
 refine ba asv ?_;simp only[go_sem,amf];refine cZ (λi A blk=>A 1=.one (.p (.sl (aY H)))/\A 2=ai pl/\A 3=.one (.aW 8960000000 1 0)/\A 7=ai i/\blk 8960000000=(1,some (.var (AF F u)))/\ ∀j f,j<i->(dA F u)[j]?=some f->Aq pl H f=false) 0 (I (dA F u)) (bj _) ?_ ?_
 .simp only[go_sem];exact⟨rfl,λj f M=>absurd M (oJ j)⟩
 rintro i A blk hi ⟨h1,L,X,h7,b0,hn⟩
 by_cases aw:i<I (dA F u)
 .have aL:((i:Int)<(I (dA F u):Int)):=J;obtain⟨f,hf⟩:=aP aw;have dp:=It hf;have w1:=cg (n:=i) J;have yx:I f.bc<=1000000:=by
   have h9:I f.bc<=2*I u+2*I (aA u):=IU g.ok (a8 hf);have kG:I (aA u)<=I u:=qp u (I u);omega
  have GD:Aq pl H f=((((I f.bc:Int)==(I H:Int))&&((I f.places:Int)==(pl:Int)))&&H.all (I1 f)):=by unfold Aq;rw[J1,J1,NS]
  generalize O:(((I f.bc:Int)==(I H:Int))&&((I f.places:Int)==(pl:Int)))=T at GD;have ag:∀z cE g1,z 1=.one (.p (.sl (aY H)))->z 2=ai pl->z 3=.one (.aW 8960000000 1 0)->z 7=ai i->cE 8960000000=(1,some (.var (AF F u)))->z 8=.one (.aW 8960256320 g1 0)->z 9=iB T->z 10=ai 0->cE 8960256320=(g1,some (.var [.p (.bool f.eO),.p (.sl (aY f.bc)),.p (.sl (d_ f.places)),.p (.sl (aY f.sH)),.p (.bool f.outer)]))->
    W S .all (.loop KU) (oh 2 (vn S .all SN (oh 1 (vn S .all YF (OB (I (dA F u)) (λi A blk=>A 1=.one (.p (.sl (aY H)))/\A 2=ai pl/\A 3=.one (.aW 8960000000 1 0)/\A 7=ai i/\blk 8960000000=(1,some (.var (AF F u)))/\ ∀j f,j<i->(dA F u)[j]?=some f->Aq pl H f=false) i (oh 0 (vn S .all aaL (rU .all [(6,none)] λv blk=>iD blk v=some (cK (mZ F u pl H)))))))))) z cE:=by
   intro z cE g1 E Y R Q Z k8 m N B;refine cZ (λk A blk=>A 1=.one (.p (.sl (aY H)))/\A 2=ai pl/\A 3=.one (.aW 8960000000 1 0)/\A 7=ai i/\blk 8960000000=(1,some (.var (AF F u)))/\A 8=.one (.aW 8960256320 g1 0)/\A 9=iB (T&&(H.take k).all (I1 f))/\A 10=ai k/\blk 8960256320=(g1,some (.var [.p (.bool f.eO),.p (.sl (aY f.bc)),.p (.sl (d_ f.places)),.p (.sl (aY f.sH)),.p (.bool f.outer)]))) 0 (I H) (bj _) ⟨E,Y,R,Q,Z,k8,by rw[m];simp,N,B⟩ ?_;rintro k dq bt hk ⟨E,Y,R,Q,Z,k8,m,N,B⟩
   by_cases ZB:k<I H
   .have ad:((k:Int)<(I H:Int)):=J;obtain⟨e,he⟩:=aP ZB;have Gv:=fD e (a8 he);have A9:=i_ he;have wk:=cg (n:=k) J;have m2:=qj (a:=e) J;have m3:=cg (n:=2*e) J;have p1:=Et f.bc (2*e) yx;have p2:=Et f.bc (2*e+1) yx;have af:=axx (I1 f) H k e he;generalize(H.take k).all (I1 f)=x at m af;cases y:(T&&x)with
    |false=>
     rw[y]at m;have D:(T&&(x&&I1 f e))=false:=by rw[<-NS,y];rfl
     simp only[go_sem,KU,E,Y,R,Q,Z,k8,m,N,B,ZB,ad,wk,af,D];exact aK
    |true=>
     rw[y]at m;have D:(T&&(x&&I1 f e))=I1 f e:=by rw[<-NS,y];rfl
     simp only[go_sem,KU,E,Y,R,Q,Z,k8,m,N,B,ZB,ad,wk,af,D,A9,m2,m3,uy,mA p1,mA p2];exact aK
   have:k=I H:=J;subst this;rw[lN,<-GD]at m;cases D:Aq pl H f with
   |true=>have ha:mZ F u pl H:=Bk.2 ⟨f,a8 hf,D⟩;rw[D]at m;simp only[go_sem,KU,SN,E,m,N,ek,ha]
   |false=>
    rw[D]at m;simp only[go_sem,KU,SN,YF,E,Y,R,Q,Z,m,N,ek,w1,aw];intro j f' M Ic;rcases vq.1 M with h|rfl
    .exact hn j f' h Ic
    rw[hf]at Ic;cases Ic;exact D
  cases hA:((I f.bc:Int)==(I H:Int))
  case' false=>rw[hA]at O;simp only[JQ]at O;subst O;simp only[go_sem,Te,h1,X,h7,b0,aL,dp,cX.ps,hA]
  case' true=>rw[hA]at O;simp only[BE]at O;simp only[go_sem,Te,h1,L,X,h7,b0,aL,dp,cX.ps,hA,O]
  all_goals
   refine ag _ _ ((blk 8960256320).1+1) ?_ ?_ ?_ ?_ ?_ ?_ ?_ ?_ ?_ <;>simp only[go_sem,h1,L,X,h7,b0]
 have:i=I (dA F u):=J;subst this;have ha:mZ F u pl H=false:=by
  cases h:mZ F u pl H with
  |false=>rfl
  |true=>obtain⟨f,hf,L⟩:=Bk.1 h;obtain⟨j,M⟩:=gJ hf;rw[hn j f (bN.1 M).1 M]at L;cases L
 simp only[go_sem,Te,aaL,X,h7,b0,ek,ha]
end
section
variable {F:Nat} {u:ae}
def Mf(g:aU F u){i:Nat}(h:i<I u):Mt (aV u i):=by exact Jt g _ (a8 (gX (iQ h)))
def Cs{e:Nat}(h:e<I u):nx u e<I u:=dB _ J
def aiQ(g:aU F u){e:Nat}(h:e<I u):Mt (kQ u e).2.1:=by
 unfold kQ;split
 .exact Mf g h
 exact Mf g (Cs h)
def IC(F:Nat)(u:ae)(a b:Nat):Bool:=(kQ u a).2.2&&((kQ u b).2.2&&(((kQ u a).1.id==(kQ u b).1.id)&&(!((kQ u a).1.over==(kQ u b).1.over)&&(zk (kQ u a).2.1 (kQ u b).2.1&&mZ F u 1 [a,b]))))
def ay0(g:aU F u)(h:z<I u)(H:B<I u):aC S 96 [ic F u,ai z,ai B] (cK (IC F u z B)):=by
 have j:=g.len;have n:=Wg (F:=F) h J;have pb:=Wg (F:=F) H J;have m:=anY _ _ (aiQ g h) (aiQ g H);have f:=ab7 g 1 [z,B] fd aG;simp only[fq,ml]at f;have v:((1:Nat):Int)=1:=rfl;rw[v]at f;unfold IC;generalize kQ u z=M at*;generalize kQ u B=bJ at*;obtain _:=M;obtain _:=bJ;refine ba at7 ?_;simp only[go_sem,ajl,afN,dt n (HP _ _ _),dt pb (HP _ _ _)];repeat' ((first|apply qh|apply ql|apply qg|apply qq|apply pL|apply qf)<;>intro x<;>simp only[go_sem, *,ajd,cS m,adx,cS f])
 all_goals(first|done|exact aK|exact _|rfl)
def JO(F:Nat)(u:ae)(a b:Nat):Bool:=
 r6 u a&&(r6 u b&&(!((aV u a).id==(aV u (nx u a)).id)&&(!((((a+2)%I u:Nat):Int)==(b:Int))&&(!((((b+2)%I u:Nat):Int)==(a:Int))&&
  (((((aV u a).id==(aV u b).id)&&((aV u (nx u a)).id==(aV u (nx u b)).id))||(((aV u a).id==(aV u (nx u b)).id)&&((aV u (nx u a)).id==(aV u b).id)))&&
   (((aV u a).over==(aV u (nx u a)).over)&&(((aV u b).over==(aV u (nx u b)).over)&&(!((aV u a).over==(aV u b).over)&&mZ F u 0 [a,b]))))))))
def azE(g:aU F u)(n:z<I u)(H:B<I u):aC S 98 [ic F u,ai z,ai B] (cK (JO F u z B)):=by
 have h:=g.len;have D:=WT (F:=F) n J;have pb:=WT (F:=F) H J;have f:=ab7 g 0 [z,B] fd aG;simp only[fq,ml]at f;have L:((0:Nat):Int)=0:=rfl;rw[L]at f;have N:¬((I u:Int)=0):=J;have A:IntKind.i64.wrap ((z:Int)+2)=((z+2:Nat):Int):=(iS J J).trans J;have j:=tu (z+2) (I u);have m:IntKind.i64.wrap ((B:Int)+2)=((B+2:Nat):Int):=(iS J J).trans J;have E:=tu (B+2) (I u);unfold JO;generalize r6 u z=is at*;generalize r6 u B=T at*;generalize aV u z=x at*;generalize aV u (nx u z)=y at*;generalize aV u B=O at*;generalize aV u (nx u B)=v at*;refine ba aFs ?_
 simp only[go_sem,apH,NA,dt D (HP _ _ _),dt pb (HP _ _ _)];repeat' ((first|apply qh|apply ql|apply qg|apply qq|apply pL|apply qf)<;>intro M<;>simp only[go_sem, *,adx,cS f])
 all_goals(first|done|exact aK|exact⟨aK,rfl⟩|rfl)
end
inductive cM (R:Nat->Nat->Prop):Nat->Nat->Prop
 |rel {a b:Nat}:R a b->cM R a b
 |refl (a:Nat):cM R a a
 |symm {a b:Nat}:cM R a b->cM R b a
 |trans {a b c:Nat}:cM R a b->cM R b c->cM R a c
def cM.mono{R':Nat->Nat->Prop}(h:∀a b,R a b->cM R' a b)(e:cM R x y):cM R' x y:=by
 induction e with
 |rel r=>exact h _ _ r
 |refl a=>exact .refl a
 |symm _ f=>exact .symm f
 |trans _ _ i1 i2=>exact .trans i1 i2
def cM.inv{α:Type}{f:Nat->α}(h:∀a b,R a b->f a=f b)(e:cM R x y):f x=f y:=by
 induction e with
 |rel r=>exact h _ _ r
 |refl a=>rfl
 |symm _ j=>exact j.symm
 |trans _ _ i1 i2=>exact i1.trans i2
def rX (E:Nat->Nat->Prop)(x:Nat):Prop:=∀y,E x y->x<=y
noncomputable def N4 (E:Nat->Nat->Prop) (x:Nat):Bool:= @decide (rX E x) (Classical.propDecidable _)
def LR:N4 E x↔rX E x:=by
 unfold N4
 grind
noncomputable def bJ (E:Nat->Nat->Prop) (n:Nat):Nat:=(List.range n).countP (N4 E)
def NK(h:∀x y,E x y↔E' x y)(n:Nat):bJ E n=bJ E' n:=by have:=funext λx=>funext λy=>propext (h x y);rw[this]
def aqH{p:Nat->Prop}:∀n,p n->∃m,p m/\ ∀k,p k->m<=k:=by
 intro n
 induction n using Nat.strongRecOn with
 |ind n f=>grind
def Zn(R:Nat->Nat->Prop)(x:Nat):∃m,cM R x m/\rX (cM R) m/\m<=x:=by obtain⟨m,h,H⟩:=aqH (p:=λy=>cM R x y) x (.refl x);exact⟨m,h,λy f=>H y (h.trans f),H x (.refl x)⟩
def aDM{p:Nat->Bool}(hp:p x):∀ {l:aD},l.Nodup->x∈l->l.countP p=l.countP (λy=>p y&&y !=x)+1:=by
 intro l
 induction l with
 |nil=>intro _ h;cases h
 |cons a l f=>grind [BM]
abbrev uQ(R:Nat->Nat->Prop)(a b:Nat)(x y:Nat):Prop:=R x y\/(x=a/\y=b)
def IA{a b:Nat}:cM (uQ R a b) x y↔cM R x y\/(cM R x a/\cM R b y)\/(cM R x b/\cM R a y):=by
 constructor
 .intro h
  induction h with
  |rel r=>
   rcases r with r|⟨rfl,rfl⟩
   .exact .inl (.rel r)
   exact .inr (.inl ⟨.refl _,.refl _⟩)
  |refl a=>exact .inl (.refl a)
  |symm _ n=>
   rcases n with h|⟨H,f⟩|⟨H,f⟩
   .exact .inl h.symm
   .exact .inr (.inr ⟨f.symm,H.symm⟩)
   exact .inr (.inl ⟨f.symm,H.symm⟩)
  |trans _ _ i1 i2=>
   rcases i1 with h|⟨H,f⟩|⟨H,f⟩<;>rcases i2 with k|⟨m,j⟩|⟨m,j⟩
   .exact .inl (h.trans k)
   .exact .inr (.inl ⟨h.trans m,j⟩)
   .exact .inr (.inr ⟨h.trans m,j⟩)
   .exact .inr (.inl ⟨H,f.trans k⟩)
   .grind
   .exact .inl (H.trans j)
   .exact .inr (.inr ⟨H,f.trans k⟩)
   .exact .inl (H.trans j)
   grind
 have up:∀ {u v},cM R u v->cM (uQ R a b) u v:=λh=>h.mono λ_ _ r=>.rel (.inl r);have Y:cM (uQ R a b) a b:=.rel (.inr ⟨rfl,rfl⟩);rintro(h|⟨H,f⟩|⟨H,f⟩)
 .exact up h
 .exact(up H).trans (Y.trans (up f))
 exact(up H).trans (Y.symm.trans (up f))
theorem abU{a b:Nat}(h:cM R a b)(n:Nat):bJ (cM (uQ R a b)) n=bJ (cM R) n:=by
 refine NK (λx y=>?_) n;rw[IA];constructor
 .rintro (k|⟨f,H⟩|⟨f,H⟩)
  .exact k
  .exact f.trans (h.trans H)
  exact f.trans (h.symm.trans H)
 exact .inl
def aqG(H:m<n)(f:rX E m)(h:∀x,rX E' x↔rX E x/\x≠m):bJ E n=bJ E' n+1:=by unfold bJ;rw[aDM (LR.2 f) FN (fU.2 H)];congr 1;refine BM λx _=>?_;rw[LR,h,cF,LR];simp
theorem aau{a b:Nat}(L:a<n)(F:b<n)(h:¬cM R a b):bJ (cM R) n=bJ (cM (uQ R a b)) n+1:=by
 obtain⟨p,m,z,D⟩:=Zn R a;obtain⟨q,Q,A,M⟩:=Zn R b;have Y:p≠q:=λe=>h (m.trans (e▸Q.symm));rcases SD Y with c|c
 .refine aqG J A λx=>⟨λH=>⟨λy f=>H y (IA.2 (.inl f)),?_⟩,λ⟨H,v⟩ y f=>?_⟩
  .rintro rfl
   have:=H p (IA.2 (.inr (.inr ⟨Q.symm,m⟩)));omega
  rcases IA.1 f with f|⟨j,u⟩|⟨j,u⟩
  .exact H y f
  .have E:=H p (j.trans m);have B:=A y (Q.symm.trans u);omega
  have E:=H q (j.trans Q);have B:=A x (Q.symm.trans j.symm);omega
 refine aqG J z λx=>⟨λH=>⟨λy f=>H y (IA.2 (.inl f)),?_⟩,λ⟨H,v⟩ y f=>?_⟩
 .rintro rfl
  have:=H q (IA.2 (.inr (.inl ⟨m.symm,Q⟩)));omega
 rcases IA.1 f with f|⟨j,u⟩|⟨j,u⟩
 .exact H y f
 .have E:=H p (j.trans m);have B:=z x (m.symm.trans j.symm);omega
 have E:=H q (j.trans Q);have B:=z y (m.symm.trans u);omega
def Wm{α:Type}{f:Nat->α}(h:∀a b,R a b->f a=f b){j:aD}(v:∀x∈j,x<n)(u:(j.map f).Nodup):I j<=bJ (cM R) n:=by
 have A:∀j:aD,(∀x∈j,x<n)->(j.map f).Nodup->∃L:aD,I L=I j/\L.Nodup/\(∀m∈L,m<n/\rX (cM R) m)/\ ∀m∈L,f m∈j.map f:=by
  intro j
  induction j with
  |nil=>intro _ _;exact⟨[],rfl,pW,aG,aG⟩
  |cons a r F=>
   intro v u;rw[fq,qQ]at u;obtain⟨L,D,E,z,Q⟩:=F (λx H=>v x mt) u.2;obtain⟨m,T,Z,m3⟩:=Zn R a;have y:=(T.inv h).symm;have Y:=v a aG;refine⟨m::L,by simp[D],qQ.2 ⟨λX=>u.1 (y▸Q m X),E⟩,λx H=>?_,λx H=>?_⟩
   .grind
   grind
 obtain⟨L,D,E,z,_⟩:=A j v u;rw[<-D];unfold bJ;rw[Wn];have B:∀(L M:aD),L.Nodup->(∀x∈L,x∈M)->I L<=I M:=by
  intro L
  induction L with
  |nil=>intro M _ _;exact bj _
  |cons a L F=>
   intro M u af;obtain⟨O,N⟩:=qQ.1 u;have Y:=af a aG;have:=F (M.erase a) N λx H=>(RN (by rintro rfl;exact O H)).2 (af x mt)
   grind
 exact B L _ E λx H=>rv.2 ⟨fU.2 (z x H).1,LR.2 (z x H).2⟩
def anK(h:∀x,x<n->cM R x 0):bJ (cM R) n<=1:=by
 unfold bJ;have j:=λx H hl=>by have:=LR.1 hl 0 (h x (fU.1 H));omega
 have:∀l:aD,l.Nodup->(∀x∈l,N4 (cM R) x->x=0)->l.countP (N4 (cM R))<=1:=by
  intro l
  induction l with
  |nil=>intro _ _;simp
  |cons a l f=>grind [R4]
 grind
structure uT (n:Nat) (p:Nat->Nat):Prop where
 lt:∀x,x<n->p x<n
 inj:∀x y,x<n->y<n->p x=p y->x=y
abbrev iz(n:Nat)(p:Nat->Nat)(x y:Nat):Prop:=x<n/\y=p x
def tr (p:Nat->Nat)(t:Nat×Nat)(x:Nat):Nat:=if x=t.1 then p t.2 else if x=t.2 then p t.1 else p x
def LU(p:Nat->Nat)(a b x:Nat):tr p (a,b) x=p (if x=a then b else if x=b then a else x):=by
 unfold tr;simp only
 grind
def uT.tr{p:Nat->Nat}(h:uT n p){a b:Nat}(j:a<n)(m:b<n):uT n (tr p (a,b)):=by
 have af:∀x,x<n->(if x=a then b else if x=b then a else x)<n:=λx H=>by split<;>(try split)<;>assumption
 refine⟨λx H=>by rw[LU];exact h.lt _ (af x H),λx y H f e=>?_⟩;rw[LU,LU]at e;have e:=h.inj _ _ (af x H) (af y f) e;by_cases X:x=a
 .rw[aI X]at e;by_cases Y:y=a
  .omega
  rw[aE Y]at e;split at e<;>omega
 rw[aE X]at e;by_cases Y:y=a
 .rw[aI Y]at e;split at e<;>omega
 rw[aE Y]at e;split at e<;>split at e<;>omega
def it (p:Nat->Nat):Nat->Nat->Nat
 |0,x=>x
 |k+1,x=>p (it p k x)
def uT.KQ{p:Nat->Nat}(h:uT n p)(H:x<n):∀k,it p k x<n:=by
 intro k
 induction k with
 |zero=>exact H
 |succ k f=>exact h.lt _ f
def uT.back{p:Nat->Nat}(h:uT n p)(H:x<n):∀i j,it p (i+j) x=it p i x->it p j x=x:=by
 intro i
 induction i with
 |zero=>intro j e;rw[lh]at e;exact e
 |succ i f=>intro j e;rw[show i+1+j=(i+j)+1 by omega]at e;exact f j (h.inj _ _ (h.KQ H _) (h.KQ H _) e)
def R5:∀(L M:aD),L.Nodup->(∀x∈L,x∈M)->I L<=I M:=by
 intro L
 induction L with
 |nil=>intro M _ _;exact bj _
 |cons a L f=>
  intro M m af;obtain⟨j,H⟩:=qQ.1 m;have:=f _ H λx h=>(RN (by rintro rfl;exact j h)).2 (af x ut)
  grind
def uT.aff{p:Nat->Nat}(h:uT n p)(u:x<n):∃m,it p (m+1) x=x:=by
 apply Classical.byContradiction;intro E;have f:∀k,((List.range k).map λi=>it p i x).Nodup:=by
  intro k
  induction k with
  |zero=>simp
  |succ k A=>rw[mJ,iT,SK];refine⟨A,aG,λa z b H=>?_⟩;obtain⟨i,j,rfl⟩:=c_.1 z;have j:=fU.1 j;simp only[fq,ml,nI]at H;subst H;intro e;have:=h.back u i (k-i) (by rw[show i+(k-i)=k by omega];exact e.symm);exact E ⟨k-i-1,by rw[show k-i-1+1=k-i by omega];exact this⟩
 have:=R5 _ (List.range n) (f (n+1)) λy v=>by obtain⟨i,_,rfl⟩:=c_.1 v;exact fU.2 (h.KQ u i)
 rw[ct,xm,xm]at this;omega
def ahV(p:Nat->Nat)(x:Nat):∀k,it p (k+1) x=it p k (p x):=by
 intro k
 induction k with
 |zero=>rfl
 |succ k f=>show p _=p _;rw[f]
def alg{p:Nat->Nat}(h:uT n p){a b:Nat}(v:a<n)(H:b<n)(D:¬cM (iz n p) a b):cM (iz n (tr p (a,b))) a b:=by
 obtain⟨m,u⟩:=h.aff H;have E:tr p (a,b) a=p b:=by unfold tr;rw[aI rfl]
 have x:∀k,cM (iz n p) b (it p k b):=by
  intro k
  induction k with
  |zero=>exact .refl _
  |succ k f=>exact f.trans (.rel ⟨h.KQ H k,rfl⟩)
 have j:∀k,cM (iz n (tr p (a,b))) a b\/cM (iz n (tr p (a,b))) a (it p k (p b)):=by
  intro k
  induction k with
  |zero=>exact .inr (.rel ⟨v,E.symm⟩)
  |succ k f=>
   rcases f with f|f
   .exact .inl f
   by_cases c:it p k (p b)=b
   .grind
   refine .inr (f.trans (.rel ⟨h.KQ (h.lt _ H) k,?_⟩));have N:it p k (p b)≠a:=λe=>D (by have:=x (k+1);rw[ahV,e]at this;exact this.symm)
   unfold tr;rw[aE N,aE c];rfl
 rcases j m with k|k
 .exact k
 rw[<-ahV,u]at k;exact k
def XU{p:Nat->Nat}{a b:Nat}(f:a<n)(H:b<n){S:Nat->Nat->Prop}{x y:Nat}:cM (uQ (λx y=>iz n (tr p (a,b)) x y\/S x y) a b) x y↔cM (uQ (λx y=>iz n p x y\/S x y) a b) x y:=by
 have Y:∀R:Nat->Nat->Prop,cM (uQ R a b) a b:=λR=>.rel (.inr ⟨rfl,rfl⟩);constructor
 .refine cM.mono λu v r=>?_;rcases r with(⟨h,rfl⟩|s)|⟨rfl,rfl⟩
  .unfold tr;by_cases c:u=a
   .subst c;rw[aI rfl];exact(Y _).trans (.rel (.inl (.inl ⟨H,rfl⟩)))
   rw[aE c];by_cases d:u=b
   .subst d;rw[aI rfl];exact(Y _).symm.trans (.rel (.inl (.inl ⟨f,rfl⟩)))
   rw[aE d];exact .rel (.inl (.inl ⟨h,rfl⟩))
  .exact .rel (.inl (.inr s))
  exact Y _
 refine cM.mono λu v r=>?_;rcases r with(⟨h,rfl⟩|s)|⟨rfl,rfl⟩
 .by_cases c:u=a
  .subst c;refine(Y _).trans (.rel (.inl (.inl ⟨H,?_⟩)));unfold tr;simp only
   grind
  by_cases d:u=b
  .subst d;refine(Y _).symm.trans (.rel (.inl (.inl ⟨f,?_⟩)));unfold tr;rw[aI rfl]
  refine .rel (.inl (.inl ⟨h,?_⟩));unfold tr;rw[aE c,aE d]
 .exact .rel (.inl (.inr s))
 exact Y _
abbrev ank(ts:pI)(x y:Nat):Prop:=(x,y)∈ts
abbrev AN(n:Nat)(p:Nat->Nat)(ts:pI)(x y:Nat):Prop:=iz n p x y\/ank ts x y
def aot:∀(ts:pI) (p:Nat->Nat),uT n p->(∀t∈ts,t.1<n/\t.2<n)->
  bJ (cM (iz n (ts.foldl tr p))) n+bJ (cM (iz n p)) n<=2*bJ (cM (AN n p ts)) n+I ts:=by
 intro ts
 induction ts with
 |nil=>
  intro p _ _;have:bJ (cM (AN n p [])) n=bJ (cM (iz n p)) n:=NK (λx y=>⟨cM.mono (R:=AN n p []) (R':=iz n p) (λu v r=>by
   rcases r with r|r
   .exact .rel r
   cases r),cM.mono (R:=iz n p) (R':=AN n p []) (λu v r=>.rel (.inl r))⟩) n
  rw[this];simp only[ND,fB];omega
 |cons t ts E=>
  intro p hp A;obtain⟨a,b⟩:=t;obtain⟨f,H⟩:=A (a,b) aG
  replace f:a<n:=f
  replace H:b<n:=H
  have E:=E (tr p (a,b)) (hp.tr f H) λt h=>A t ut;have all:∀x y,cM (AN n p ((a,b)::ts)) x y↔cM (uQ (AN n (tr p (a,b)) ts) a b) x y:=λx y=>by
   refine Iff.trans ⟨cM.mono λu v r=>?_,cM.mono λu v r=>?_⟩ (XU (S:=ank ts) f H).symm
   .rcases r with r|r
    .exact .rel (.inl (.inl r))
    rcases dh.1 r with r|r
    .cases r;exact .rel (.inr ⟨rfl,rfl⟩)
    exact .rel (.inl (.inr r))
   rcases r with(r|r)|⟨rfl,rfl⟩
   .exact .rel (.inl r)
   .exact .rel (.inr (zb _ r))
   exact .rel (.inr (Lo ..))
  have one:∀x y,cM (uQ (iz n (tr p (a,b))) a b) x y↔cM (uQ (iz n p) a b) x y:=λx y=>by have h:=XU (p:=p) (S:=λ_ _=>False) f H (x:=x) (y:=y);have e:∀q:Nat->Nat,(λx y=>iz n q x y\/False)=iz n q:=λq=>funext λx=>funext λy=>propext aG;rw[e,e]at h;exact h
  rw[NK all];simp only[Ac,fF];have L:bJ (cM (uQ (iz n (tr p (a,b))) a b)) n=bJ (cM (uQ (iz n p) a b)) n:=NK one n;have j:∀R:Nat->Nat->Prop,cM R a b->bJ (cM (uQ R a b)) n=bJ (cM R) n:=λR h=>abU h n;have z:∀R:Nat->Nat->Prop,¬cM R a b->bJ (cM R) n=bJ (cM (uQ R a b)) n+1:=λR h=>aau f H h;rcases Classical.em (cM (iz n p) a b)with c|c
  .have F:=j _ c;rcases Classical.em (cM (iz n (tr p (a,b))) a b)with d|d
   .have B:=j _ d;have m:=j _ (d.mono (R':=AN n (tr p (a,b)) ts) λu v r=>.rel (.inl r));omega
   have B:=z _ d;rcases Classical.em (cM (AN n (tr p (a,b)) ts) a b)with D|D
   .have m:=j _ D;omega
   have m:=z _ D;omega
  have F:=z _ c;have d:=alg hp f H c;have B:=j _ d;have m:=j _ (d.mono (R':=AN n (tr p (a,b)) ts) λu v r=>.rel (.inl r));omega
def eH (x:Nat):Nat:=if x%2=0 then x+1 else x-1
theorem s8(k:Nat):eH (2*k)=2*k+1:=by unfold eH;rw[aI J]
theorem BT(k:Nat):eH (2*k+1)=2*k:=by unfold eH;rw[aE J];rfl
theorem vz(x:Nat):eH (eH x)=x:=by
 rcases rN x with h|h
 .rw[show x=2*(x/2) by omega,s8,BT]
 rw[show x=2*(x/2)+1 by omega,BT,s8]
theorem vi(h:x<2*m):eH x<2*m:=by unfold eH;split<;>omega
def aBT(x:Nat):eH x/2=x/2:=by unfold eH;split<;>omega
theorem tX(n v:Nat)(g:Bool):eH (dS n v g)=jB n v (!g):=by
 cases g with
 |true=>exact s8 _
 |false=>exact BT _
def aGd(n v:Nat)(g:Bool):eH (jB n v g)=dS n v (!g):=by
 cases g with
 |true=>exact s8 _
 |false=>exact BT _
def zi(h:v<n)(g:Bool):jB n v g<2*n:=by have:=dB (v+n-1) (show 0<n by omega);unfold jB;split<;>omega
def IN(H:x<2*n):x=jB n (if x%2=0 then(x/2+1)%n else x/2) (x%2==0):=by
 unfold jB;rcases rN x with h|h
 .simp[h];rw[DF J];omega
 grind
section
variable {F:Nat} {u:ae}
def amU{l:U}(hl:u[v]?=some l)(f:Bool):aT u (jB (I u) v f)=if l.kind==2 then dS (I u) (iV u v) (f==(l.over==(l.sign==1)))
   else if dn u v==f then 2*I u+2*(aA u).idxOf v else 2*I u+2*(((aA u).idxOf v+I (aA u)-1)%I (aA u))+1:=by
 have h:=(bN.1 hl).1;have A:=zi h f;refine afU J ?_ ?_ hl
 .unfold jB;cases f<;>simp
 unfold jB;cases f with
 |true=>simp only[if_true];rw[show 2*((v+I u-1)%I u)/2=(v+I u-1)%I u by omega,yW h]
 |false=>simp;omega
theorem yZ{l:U}(hl:u[v]?=some l)(h:l.au)(f:Bool):aT u (jB (I u) v f)=dS (I u) (iV u v) (f==(l.over==(l.sign==1))):=by rw[amU hl];unfold U.au at h;rw[aI h]
def El{l:U}(hl:u[v]?=some l)(hp:l.ay)(f:Bool):aT u (jB (I u) v f)=if dn u v==f then 2*I u+2*(aA u).idxOf v else 2*I u+2*(((aA u).idxOf v+I (aA u)-1)%I (aA u))+1:=by have:=oV hp;unfold U.au at this;rw[amU hl,aE ii]
def CE(k:Nat):aT u (2*I u+2*k)=dS (I u) ((aA u).getD ((k+1)%I (aA u)) 0) (!dn u ((aA u).getD ((k+1)%I (aA u)) 0)):=by
 show jd _ _ _=_;unfold jd
 grind
theorem D3(k:Nat):aT u (2*I u+2*k+1)=dS (I u) ((aA u).getD k 0) (dn u ((aA u).getD k 0)):=by
 show jd _ _ _=_;unfold jd
 grind
def z_{k:Nat}(H:k<I (aA u)):∃l,u[(aA u).getD k 0]?=some l/\l.ay:=by obtain⟨v,h⟩:=aP H;rw[dM,h,mw];exact sX.1 (a8 h)
def F2{l:U}(ok:fY F u)(hl:u[v]?=some l)(hp:l.ay):(aA u).idxOf v<I (aA u)/\(aA u).getD ((aA u).idxOf v) 0=v:=by
 have h:=Lt ok.ax hl hp
 grind
def X6(ok:fY F u)(y:v<I u)(f:Bool):aT u (eH (aT u (jB (I u) v f)))=dS (I u) v f:=by
 obtain⟨l,hl⟩:=aP y;rcases ok.kinds l (a8 hl)with hp|j
 .obtain⟨h,H⟩:=F2 ok hl hp;rw[El hl hp];by_cases c:(dn u v==f)
  .rw[aI c,show 2*I u+2*(aA u).idxOf v=2*(I u+(aA u).idxOf v) by omega,s8,show 2*(I u+(aA u).idxOf v)+1=2*I u+2*(aA u).idxOf v+1 by omega,D3,H];rw[eq_of_beq c]
  rw[aE c];have c:dn u v= !f:=by revert c;cases dn u v<;>cases f<;>simp
  rw[show 2*I u+2*(((aA u).idxOf v+I (aA u)-1)%I (aA u))+1=2*(I u+((aA u).idxOf v+I (aA u)-1)%I (aA u))+1 by omega,BT,
   show 2*(I u+((aA u).idxOf v+I (aA u)-1)%I (aA u))=2*I u+2*(((aA u).idxOf v+I (aA u)-1)%I (aA u)) by omega,CE,yW h,H,c,FU]
 obtain⟨h,m,n,z,A,x,M⟩:=qy ok.cr hl j;rw[yZ hl j,tX,yZ n z,h,x,M];cases f<;>cases l.over<;>cases(l.sign==1)<;>rfl
def oc(u:ae)(x:Nat):Nat:=
 if 2*I u<=x then(if x%2=0 then(aA u).getD (((x-2*I u)/2+1)%I (aA u)) 0 else(aA u).getD ((x-2*I u)/2) 0)
 else if x%2=0 then(x/2+1)%I u else x/2
def DS(u:ae)(x:Nat):Bool:=decide (2*I u<=x)||(match u[oc u x]? with|some l=>l.au&&l.over|none=>false)
def l7(u:ae)(i:Nat):Int×Int:=match u[i]? with|some l=>if l.au then(1,l.id)else(0,i)|none=>(2,0)
theorem DW(h:v<I u)(f:Bool):oc u (jB (I u) v f)=v:=by
 have A:=zi h f;unfold oc;rw[aE J];unfold jB;cases f with
 |true=>simp only[if_true];rw[aI J,show 2*((v+I u-1)%I u)/2=(v+I u-1)%I u by omega,yW h]
 |false=>simp only[iJ,if_false];rw[aE J];omega
def acN{l:U}(hl:u[v]?=some l)(f:Bool):DS u (jB (I u) v f)=(l.au&&l.over):=by
 have h:=(bN.1 hl).1;have A:=zi h f;unfold DS;rw[DW h,hl]
 grind
def ahU(k:Nat):oc u (2*I u+2*k)=(aA u).getD ((k+1)%I (aA u)) 0:=by
 unfold oc
 grind
def afH(k:Nat):oc u (2*I u+2*k+1)=(aA u).getD k 0:=by
 unfold oc
 grind
def adG(h:2*I u<=x):DS u x:=by unfold DS;simp[h]
def X7(ok:fY F u)(A:x<aX u):l7 u (oc u (eH (aT u x)))=l7 u (oc u x)/\DS u (eH (aT u x))= !DS u x:=by
 unfold aX at A;rcases RL x (2*I u)with c|c
 .have H:(if x%2=0 then(x/2+1)%I u else x/2)<I u:=by
   have:=dB (x/2+1) (show 0<I u by omega);split<;>omega
  rw[IN c];generalize(if x%2=0 then(x/2+1)%I u else x/2)=v at H;generalize(x%2==0)=fw;obtain⟨l,hl⟩:=aP H;rw[DW H,acN hl];rcases ok.kinds l (a8 hl)with hp|j
  .obtain⟨y,n⟩:=F2 ok hl hp;rw[oV hp,El hl hp];by_cases d:(dn u v==fw)
   .rw[aI d,show 2*I u+2*(aA u).idxOf v=2*(I u+(aA u).idxOf v) by omega,s8,show 2*(I u+(aA u).idxOf v)+1=2*I u+2*(aA u).idxOf v+1 by omega,afH,n,adG J];exact⟨rfl,rfl⟩
   rw[aE d,show 2*I u+2*(((aA u).idxOf v+I (aA u)-1)%I (aA u))+1=2*(I u+((aA u).idxOf v+I (aA u)-1)%I (aA u))+1 by omega,BT,
    show 2*(I u+((aA u).idxOf v+I (aA u)-1)%I (aA u))=2*I u+2*(((aA u).idxOf v+I (aA u)-1)%I (aA u)) by omega,ahU,yW y,n,adG J]
   exact⟨rfl,rfl⟩
  obtain⟨y,m,h,E,B,M,L⟩:=qy ok.cr hl j;have z:=(bN.1 h).1;rw[yZ hl j,tX,DW z,acN h];unfold l7;simp[hl,h,j,E,B,M]
 rw[adG c];have f:∀k,k<I (aA u)->∀g,l7 u (oc u (eH (dS (I u) ((aA u).getD k 0) g)))=l7 u ((aA u).getD k 0)/\DS u (eH (dS (I u) ((aA u).getD k 0) g))= !true:=λk D g=>by obtain⟨l,hl,hp⟩:=z_ D;rw[tX,DW (bN.1 hl).1,acN hl,oV hp];exact⟨rfl,rfl⟩
 rcases rN x with d|d
 .rw[show x=2*I u+2*((x-2*I u)/2) by omega,CE,ahU];exact f _ (dB _ J) _
 rw[show x=2*I u+2*((x-2*I u)/2)+1 by omega,D3,afH];exact f _ J _
end
def aus{next:Nat->Nat}(A:∀x,x<N->next x<N)(h:∀x,x<N->cM R x (next x)):∀(k x:Nat) (S:dK),x<N->∀y∈(hU next k x S).1,cM R x y:=by
 intro k
 induction k with
 |zero=>intro x S _ y H;simp[hU]at H
 |succ k j=>
  intro x S f y H;unfold hU at H;split at H
  .simp at H
  rcases dh.1 H with rfl|H
  .exact .refl _
  exact(h x f).trans (j _ _ (A x f) y H)
def aBo{next:Nat->Nat}(m:B_ next T N)(h:∀x,x<N->cM R x (next x)):∀k,k<=N->∀w∈(fJ next N k).1,∀x∈w,∀y∈w,cM R x y:=by
 intro k
 induction k with
 |zero=>intro _ w H;simp[fJ]at H
 |succ k v=>
  intro u w H x n y j;rw[Bn]at H;unfold wQ at H;split at H
  .grind
  rcases iI.1 H with H|H
  .grind
  simp at H;subst H;have f:=aus m.lt h ((fJ next N k).2.length+1) k (fJ next N k).2 J;exact(f x n).symm.trans (f y j)
def aEJ{next:Nat->Nat}(m:B_ next T N):∀k,k<=T->∀w∈(fJ next N k).1,∀x∈w,next x∈w:=by
 intro k
 induction k with
 |zero=>intro _ w h;simp[fJ]at h
 |succ k z=>
  intro H w h x u;obtain⟨n,_⟩:=U7 m k J;obtain⟨f,_⟩:=U7 m (k+1) H;rw[Bn]at h f;unfold wQ at h f;cases af:(fJ next N k).2.getD k true with
  |true=>grind
  |false=>
   rw[af,aE aa]at h f;rcases iI.1 h with h|h
   .grind
   simp only[nI]at h;subst h;obtain⟨g1,v,A⟩:=al7 next ((fJ next N k).2.length+1) k (fJ next N k).2;have j:x<N:=by grind [JU]
   have E:=n x j;have y:=f x j
   grind
theorem uB{next:Nat->Nat}(m:B_ next T N){w:aD}(h:w∈eX next N)(H:x∈w):next x∈w:=by unfold eX at h;rw[adv m N m.le (cP _)]at h;exact aEJ m T (cP _) w h x H
def Uk{next:Nat->Nat}(m:B_ next T N)(h:∀x,x<N->cM R x (next x)){w:aD}(H:w∈eX next N){x:Nat}(j:x∈w)(f:y∈w):cM R x y:=aBo m h N (cP _) w H x j y f
def BQ(L:List aD)(x:Nat):Nat:=L.findIdx λw=>w.contains x
theorem MA{L:List aD}(h:L.flatten.Nodup){i:Nat}{w:aD}(H:L[i]?=some w)(f:x∈w):BQ L x=i:=by exact ai6 h (vA (aog ⟨w,a8 H,by simpa using f⟩)) H ii f
def al4:∀ {L:List aD},L.flatten.Nodup->(∀w∈L,w≠[])->((L.map (·.headD 0)).map (BQ L))=List.range (I L):=by
 intro L h A;apply qO;intro i;rw[fX,fX];by_cases H:i<I L
 .have e:=vA H;rw[e,wZ H];simp;rw[MA h e (by
   cases f:L[i]with
   |nil=>exact absurd f (A _ (a8 e))
   |cons a r=>simp)]
 grind
def ao9{α:Type}{f:Nat->α×Bool}{g:Nat->α}{c:Nat->Bool}(j:∀x,f (2*x)=(g x,c x))(n:∀x,f (2*x+1)=(g x,!c x)):∀ {L:aD},(L.map g).Nodup->((L.flatMap λx=>[2*x,2*x+1]).map f).Nodup:=by
 intro L
 induction L with
 |nil=>intro _;exact pW
 |cons a L v=>
  intro h;rw[fq,qQ]at h;have E:∀b,(g a,b)∉(L.flatMap λx=>[2*x,2*x+1]).map f:=by
   intro b m;obtain⟨y,H,e⟩:=c_.1 m;obtain⟨x,u,H⟩:=qx.1 H;have:g x=g a:=by
    simp only[dh,e_,or_false]at H;rcases H with rfl|rfl
    .rw[j]at e;exact congrArg Prod.fst e
    rw[n]at e;exact congrArg Prod.fst e
   grind
  grind
def ajz:∀L:aD,I (L.flatMap λx=>[2*x,2*x+1])=2*I L:=by
 intro L
 induction L with
 |nil=>rfl
 |cons a L f=>rw[FY,iM,f];simp;omega
def aia{L:aD}(h:∀x∈L,x<N):∀y∈(L.flatMap λx=>[2*x,2*x+1]),y<2*N:=by grind
end
end Go.Abs
