/- A part. -/
import Derived.Test.YtnhlfpanllllgaaGreatDoorWs
set_option linter.all false
open List renaming length->I
set_option maxRecDepth 100000
set_option maxHeartbeats 16000000
namespace Go.Abs
section
attribute [local go_sem ↓] Vo R3
def HV(a b:Nat):(a==b)=((a:Int)==(b:Int)):=by
 by_cases h:a=b
 .simp[h]
 have:(a==b)=false:=by simpa using h
 rw[this];symm;simp;omega
def vS(F:Nat)(L:ae)(A bv:Nat):Option cY:=
 if((jY L A true&&jY L bv false)||(jY L A false&&jY L bv true))&&(!((aW L A).l.id==(aW L (aK L A)).l.id)&&
  (((((aW L bv).l.id==(aW L A).l.id)&&((aW L (aK L bv)).l.id==(aW L (aK L A)).l.id))||(((aW L bv).l.id==(aW L (aK L A)).l.id)&&((aW L (aK L bv)).l.id==(aW L A).l.id)))&&
  (!((A+2)%I L==bv)&&(!((bv+2)%I L==A)&&oT F L 0 [A,bv] A))))
 then some (Fy (cq L) [(aW L A).l.id,(aW L (aK L A)).l.id])else none
def aEr{F:Nat}{L:ae}(g:cK F L){A bv:Nat}(ha:A<I L)(hb:bv<I L){k c:Int}{l o:Bool}{sg:Int}:
  aJ S 151 [.one (.p (gT F L)),gP k A bv c l o sg] (Gw (vS F L A bv)):=by
 have ar:=g.len;have bN:=cU L;have j:=Di g ha;have m:=Di g hb;have oU:=fC (A+1) (show 0<I L by omega);have xG:=fC (bv+1) (show 0<I L by omega);have pc:=adh g [A,bv] aQ (h:=A) rfl ha 0;simp only[eR,jS]at pc;have c0:((0:Nat):Int)=0:=rfl;rw[c0]at pc;have f:=JN g ha true;have u:=JN g hb false;have B:=JN g ha false;have y:=JN g hb true;obtain⟨P,hP⟩:=aR (L:=cq L) (k:=A) J;obtain⟨N,ac⟩:=aR (L:=cq L) (k:=(A+1)%I L) J;obtain⟨Q,hQ⟩:=aR (L:=cq L) (k:=bv) J;obtain⟨Q2,Y⟩:=aR (L:=cq L) (k:=(bv+1)%I L) J;have qm:=lQ hP;have ap:=lQ ac;have mw:=lQ hQ;have aq:=lQ Y;have hz:¬((I L:Int)=0):=J
 have ak:IntKind.i64.wrap ((A:Int)+2)=((A+2:Nat):Int):=(nK (x:=(A:Int)+2) J J).trans J;have ag:=tf (A+2) (I L);have an:IntKind.i64.wrap ((bv:Int)+2)=((bv+2:Nat):Int):=(nK (x:=(bv:Int)+2) J J).trans J;have ad:=tf (bv+2) (I L);have lo:S.lone 9664704448=false:=ah;have pd:=afL (cq L) [P.l.id,N.l.id] J aQ (adH g);simp only[eR,jS]at pd;have x3:jY L A true->jY L A false=false:=λX=>by
  unfold jY at X |-;rw[ml hP]at X |-;simp only[dj]at X;have:P.l.over:=by simpa using X.2.2.1
  simp[this]
 unfold vS;rw[ml hP,ml hQ,ml ac,ml Y,HV,HV];have h:=And.intro qm (And.intro mw (And.intro ap (And.intro aq (And.intro ha (And.intro hb (And.intro oU (And.intro xG (And.intro bN (And.intro ak (And.intro ag (And.intro hz (And.intro an ad))))))))))));refine bt av6 ?_;simp only[go_sem,aoC,ir,aD f,aD u,aD B,aD y,eJ,a_ j cS,a_ m cS,h,aU.ps,h_,dC pc,iz];refine kr [0,3,4,5,6,7,22] λe1 T=>?_;try simp only[go_sem]at T
 obtain⟨S4,S6,S7,S8,S9,Ta,S5⟩:=T;cases X:jY L A true with
 |true=>
  simp only[go_sem,ir,aD f,aD u,aD B,aD y,eJ,a_ j cS,a_ m cS,h,aU.ps,h_,dC pc,iz,S4,S6,S7,S8,S9,Ta,S5,X];refine kr [0,3,4,5,6,7,28] λe2 h2=>?_;try simp only[go_sem,S4,S6,S7,S8,S9,Ta,S5,X]at h2
  obtain⟨YU,YW,YX,YY,YZ,Y0,YV⟩:=h2;cases x2:jY L bv false with
  |false=>have ao:=x3 X;simp only[go_sem,ir,aD f,aD u,aD B,aD y,eJ,a_ j cS,a_ m cS,h,aU.ps,h_,dC pc,iz,YU,YW,YX,YY,YZ,Y0,YV,x2,ao];first|rfl|exact aI|exact⟨aI,rfl⟩|exact⟨aI,aI,rfl⟩
  |true=>
  simp only[go_sem,ir,aD f,aD u,aD B,aD y,eJ,a_ j cS,a_ m cS,h,aU.ps,h_,dC pc,iz,YU,YW,YX,YY,YZ,Y0,YV,x2];refine⟨aI,?_⟩;refine kr [0,3,4,5,6,9,10,11,12,76] λe3 h3=>?_;try simp only[go_sem,YU,YW,YX,YY,YZ,Y0,YV,x2]at h3
  obtain⟨Za,Ze,Zf,Zg,Zh,Zj,Zb,Zc,Zd,Zi⟩:=h3;cases M:(P.l.id==N.l.id)with
  |true=>simp only[go_sem,ir,aD f,aD u,aD B,aD y,eJ,a_ j cS,a_ m cS,h,aU.ps,h_,dC pc,iz,Za,Ze,Zf,Zg,Zh,Zj,Zb,Zc,Zd,Zi,M];first|rfl|exact aI|exact⟨aI,rfl⟩|exact⟨aI,aI,rfl⟩
  |false=>
  simp only[go_sem,ir,aD f,aD u,aD B,aD y,eJ,a_ j cS,a_ m cS,h,aU.ps,h_,dC pc,iz,Za,Ze,Zf,Zg,Zh,Zj,Zb,Zc,Zd,Zi,M];refine kr [0,3,4,5,6,9,10,11,12,76,88] λe4 h4=>?_;try simp only[go_sem,Za,Ze,Zf,Zg,Zh,Zj,Zb,Zc,Zd,Zi,M]at h4
  obtain⟨Tb,Tf,Tg,Th,Ti,Tl,Tc,Td,Te,Tj,Tk⟩:=h4;cases E:(Q.l.id==P.l.id)with
  |true=>
   have c5:(Q.l.id==N.l.id)=false:=by
    have T:Q.l.id=P.l.id:=by simpa using E
    rw[T];exact M
   simp only[go_sem,ir,aD f,aD u,aD B,aD y,eJ,a_ j cS,a_ m cS,h,aU.ps,h_,dC pc,iz,Tb,Tf,Tg,Th,Ti,Tl,Tc,Td,Te,Tj,Tk,E];refine kr [0,3,4,5,6,9,10,11,12,76,101] λe5 h5=>?_;try simp only[go_sem,Tb,Tf,Tg,Th,Ti,Tl,Tc,Td,Te,Tj,Tk,E]at h5
   obtain⟨Zk,Zp,Zq,Zr,Zs,Zu,Zl,Zn,Zo,Zt,Zm⟩:=h5;cases R:(Q2.l.id==N.l.id)with
   |false=>simp only[go_sem,ir,aD f,aD u,aD B,aD y,eJ,a_ j cS,a_ m cS,h,aU.ps,h_,dC pc,iz,Zk,Zp,Zq,Zr,Zs,Zu,Zl,Zn,Zo,Zt,Zm,R,c5];first|rfl|exact aI|exact⟨aI,rfl⟩|exact⟨aI,aI,rfl⟩
   |true=>
   simp only[go_sem,ir,aD f,aD u,aD B,aD y,eJ,a_ j cS,a_ m cS,h,aU.ps,h_,dC pc,iz,Zk,Zp,Zq,Zr,Zs,Zu,Zl,Zn,Zo,Zt,Zm,R];refine v7 [0,3,4,5,6,11,12,137] λe6 h6=>?_;try simp only[go_sem,Zk,Zp,Zq,Zr,Zs,Zu,Zl,Zn,Zo,Zt,Zm,R]at h6
   obtain⟨Zv,Zz,ZA,ZB,ZC,Zw,Zx,Zy⟩:=h6;cases z:((((A+2)%I L:Nat):Int)==(bv:Int))with
   |true=>simp only[go_sem,ir,aD f,aD u,aD B,aD y,eJ,a_ j cS,a_ m cS,h,aU.ps,h_,dC pc,iz,Zv,Zz,ZA,ZB,ZC,Zw,Zx,Zy,z];first|rfl|exact aI|exact⟨aI,rfl⟩|exact⟨aI,aI,rfl⟩
   |false=>
   simp only[go_sem,ir,aD f,aD u,aD B,aD y,eJ,a_ j cS,a_ m cS,h,aU.ps,h_,dC pc,iz,Zv,Zz,ZA,ZB,ZC,Zw,Zx,Zy,z];refine v7 [0,3,4,5,11,12,147] λe7 h7=>?_;try simp only[go_sem,Zv,Zz,ZA,ZB,ZC,Zw,Zx,Zy,z]at h7
   obtain⟨ZD,ZH,ZI,ZJ,ZE,ZF,ZG⟩:=h7;cases D:((((bv+2)%I L:Nat):Int)==(A:Int))with
   |true=>simp only[go_sem,ir,aD f,aD u,aD B,aD y,eJ,a_ j cS,a_ m cS,h,aU.ps,h_,dC pc,iz,ZD,ZH,ZI,ZJ,ZE,ZF,ZG,D];first|rfl|exact aI|exact⟨aI,rfl⟩|exact⟨aI,aI,rfl⟩
   |false=>
   cases H:oT F L 0 [A,bv] A with
   |false=>rw[H]at pc;simp only[go_sem,ir,aD f,aD u,aD B,aD y,eJ,a_ j cS,a_ m cS,h,aU.ps,h_,dC pc,iz,ZD,ZH,ZI,ZJ,ZE,ZF,ZG,D];first|rfl|exact aI|exact⟨aI,rfl⟩|exact⟨aI,aI,rfl⟩
   |true=>rw[H]at pc;simp only[go_sem,ir,aD f,aD u,aD B,aD y,eJ,a_ j cS,a_ m cS,h,aU.ps,h_,dC pc,iz,ZD,ZH,ZI,ZJ,ZE,ZF,ZG,D];refine⟨aI,?_⟩;refine qW pd lo (.inr (pA (CX _))) λcc bY O jH=>?_;simp only[go_sem];exact zU O
  |false=>
   simp only[go_sem,ir,aD f,aD u,aD B,aD y,eJ,a_ j cS,a_ m cS,h,aU.ps,h_,dC pc,iz,Tb,Tf,Tg,Th,Ti,Tl,Tc,Td,Te,Tj,Tk,E];refine kr [0,3,4,5,6,10,11,12,76,101,113] λe8 h8=>?_;try simp only[go_sem,Tb,Tf,Tg,Th,Ti,Tl,Tc,Td,Te,Tj,Tk,E]at h8
   obtain⟨ZK,ZQ,ZR,ZS,ZT,ZL,ZN,ZP,ZU,ZM,ZO⟩:=h8;cases c5:(Q.l.id==N.l.id)with
   |false=>simp only[go_sem,ir,aD f,aD u,aD B,aD y,eJ,a_ j cS,a_ m cS,h,aU.ps,h_,dC pc,iz,ZK,ZQ,ZR,ZS,ZT,ZL,ZN,ZP,ZU,ZM,ZO,c5];first|rfl|exact aI|exact⟨aI,rfl⟩|exact⟨aI,aI,rfl⟩
   |true=>
   simp only[go_sem,ir,aD f,aD u,aD B,aD y,eJ,a_ j cS,a_ m cS,h,aU.ps,h_,dC pc,iz,ZK,ZQ,ZR,ZS,ZT,ZL,ZN,ZP,ZU,ZM,ZO,c5];refine aok [0,3,4,5,6,11,12] λe9 h9=>?_;try simp only[go_sem,ZK,ZQ,ZR,ZS,ZT,ZL,ZN,ZP,ZU,ZM,ZO,c5]at h9
   obtain⟨ZV,ZY,ZZ,Z0,Z1,ZW,ZX⟩:=h9;cases c4:(Q2.l.id==P.l.id)with
   |false=>simp only[go_sem,ir,aD f,aD u,aD B,aD y,eJ,a_ j cS,a_ m cS,h,aU.ps,h_,dC pc,iz,ZV,ZY,ZZ,Z0,Z1,ZW,ZX,c4];first|rfl|exact aI|exact⟨aI,rfl⟩|exact⟨aI,aI,rfl⟩
   |true=>
   simp only[go_sem,ir,aD f,aD u,aD B,aD y,eJ,a_ j cS,a_ m cS,h,aU.ps,h_,dC pc,iz,ZV,ZY,ZZ,Z0,Z1,ZW,ZX,c4];refine v7 [0,3,4,5,6,11,12,137] λfD dr=>?_;try simp only[go_sem,ZV,ZY,ZZ,Z0,Z1,ZW,ZX,c4]at dr
   obtain⟨Xx,XB,XC,XD,XE,Xy,Xz,XA⟩:=dr;cases z:((((A+2)%I L:Nat):Int)==(bv:Int))with
   |true=>simp only[go_sem,ir,aD f,aD u,aD B,aD y,eJ,a_ j cS,a_ m cS,h,aU.ps,h_,dC pc,iz,Xx,XB,XC,XD,XE,Xy,Xz,XA,z];first|rfl|exact aI|exact⟨aI,rfl⟩|exact⟨aI,aI,rfl⟩
   |false=>
   simp only[go_sem,ir,aD f,aD u,aD B,aD y,eJ,a_ j cS,a_ m cS,h,aU.ps,h_,dC pc,iz,Xx,XB,XC,XD,XE,Xy,Xz,XA,z];refine v7 [0,3,4,5,11,12,147] λkG fe=>?_;try simp only[go_sem,Xx,XB,XC,XD,XE,Xy,Xz,XA,z]at fe
   obtain⟨XF,XJ,XK,XL,XG,XH,XI⟩:=fe;cases D:((((bv+2)%I L:Nat):Int)==(A:Int))with
   |true=>simp only[go_sem,ir,aD f,aD u,aD B,aD y,eJ,a_ j cS,a_ m cS,h,aU.ps,h_,dC pc,iz,XF,XJ,XK,XL,XG,XH,XI,D];first|rfl|exact aI|exact⟨aI,rfl⟩|exact⟨aI,aI,rfl⟩
   |false=>
   cases H:oT F L 0 [A,bv] A with
   |false=>rw[H]at pc;simp only[go_sem,ir,aD f,aD u,aD B,aD y,eJ,a_ j cS,a_ m cS,h,aU.ps,h_,dC pc,iz,XF,XJ,XK,XL,XG,XH,XI,D];first|rfl|exact aI|exact⟨aI,rfl⟩|exact⟨aI,aI,rfl⟩
   |true=>rw[H]at pc;simp only[go_sem,ir,aD f,aD u,aD B,aD y,eJ,a_ j cS,a_ m cS,h,aU.ps,h_,dC pc,iz,XF,XJ,XK,XL,XG,XH,XI,D];refine⟨aI,?_⟩;refine qW pd lo (.inr (pA (CX _))) λcc bY O jH=>?_;simp only[go_sem];exact zU O
 |false=>
  simp only[go_sem,ir,aD f,aD u,aD B,aD y,eJ,a_ j cS,a_ m cS,h,aU.ps,h_,dC pc,iz,S4,S6,S7,S8,S9,Ta,S5,X];refine kr [0,3,4,5,6,7,28,33] λoJ iO=>?_;try simp only[go_sem,S4,S6,S7,S8,S9,Ta,S5,X]at iO
  obtain⟨ON,OP,Z,OS,OT,OU,OO,OQ⟩:=iO;cases x4:jY L A false with
  |false=>simp only[go_sem,ir,aD f,aD u,aD B,aD y,eJ,a_ j cS,a_ m cS,h,aU.ps,h_,dC pc,iz,ON,OP,Z,OS,OT,OU,OO,OQ,x4];first|rfl|exact aI|exact⟨aI,rfl⟩|exact⟨aI,aI,rfl⟩
  |true=>
  simp only[go_sem,ir,aD f,aD u,aD B,aD y,eJ,a_ j cS,a_ m cS,h,aU.ps,h_,dC pc,iz,ON,OP,Z,OS,OT,OU,OO,OQ,x4];cases x5:jY L bv true with
  |false=>simp only[go_sem,ir,aD f,aD u,aD B,aD y,eJ,a_ j cS,a_ m cS,h,aU.ps,h_,dC pc,iz,ON,OP,Z,OS,OT,OU,OO,OQ,x4,x5];first|rfl|exact aI|exact⟨aI,rfl⟩|exact⟨aI,aI,rfl⟩
  |true=>
  simp only[go_sem,ir,aD f,aD u,aD B,aD y,eJ,a_ j cS,a_ m cS,h,aU.ps,h_,dC pc,iz,ON,OP,Z,OS,OT,OU,OO,OQ,x4,x5];refine⟨aI,?_⟩;refine kr [0,3,4,5,6,9,10,11,12,76] λru lM=>?_;try simp only[go_sem,ON,OP,Z,OS,OT,OU,OO,OQ,x4,x5]at lM
  obtain⟨XM,XQ,XR,XS,XT,XV,XN,XO,XP,XU⟩:=lM;cases M:(P.l.id==N.l.id)with
  |true=>simp only[go_sem,ir,aD f,aD u,aD B,aD y,eJ,a_ j cS,a_ m cS,h,aU.ps,h_,dC pc,iz,XM,XQ,XR,XS,XT,XV,XN,XO,XP,XU,M];first|rfl|exact aI|exact⟨aI,rfl⟩|exact⟨aI,aI,rfl⟩
  |false=>
  simp only[go_sem,ir,aD f,aD u,aD B,aD y,eJ,a_ j cS,a_ m cS,h,aU.ps,h_,dC pc,iz,XM,XQ,XR,XS,XT,XV,XN,XO,XP,XU,M];refine kr [0,3,4,5,6,9,10,11,12,76,88] λuH wC=>?_;try simp only[go_sem,XM,XQ,XR,XS,XT,XV,XN,XO,XP,XU,M]at wC
  obtain⟨SR,SW,SX,SY,SZ,S3,SS,SU,SV,S1,S2⟩:=wC;cases E:(Q.l.id==P.l.id)with
  |true=>
   have c5:(Q.l.id==N.l.id)=false:=by
    have T:Q.l.id=P.l.id:=by simpa using E
    rw[T];exact M
   simp only[go_sem,ir,aD f,aD u,aD B,aD y,eJ,a_ j cS,a_ m cS,h,aU.ps,h_,dC pc,iz,SR,SW,SX,SY,SZ,S3,SS,SU,SV,S1,S2,E];refine kr [0,3,4,5,6,9,10,11,12,76,101] λaz tW=>?_;try simp only[go_sem,SR,SW,SX,SY,SZ,S3,SS,SU,SV,S1,S2,E]at tW
   obtain⟨XW,X1,X2,X3,X5,X7,XX,XZ,X0,X6,XY⟩:=tW;cases R:(Q2.l.id==N.l.id)with
   |false=>simp only[go_sem,ir,aD f,aD u,aD B,aD y,eJ,a_ j cS,a_ m cS,h,aU.ps,h_,dC pc,iz,XW,X1,X2,X3,X5,X7,XX,XZ,X0,X6,XY,R,c5];first|rfl|exact aI|exact⟨aI,rfl⟩|exact⟨aI,aI,rfl⟩
   |true=>
   simp only[go_sem,ir,aD f,aD u,aD B,aD y,eJ,a_ j cS,a_ m cS,h,aU.ps,h_,dC pc,iz,XW,X1,X2,X3,X5,X7,XX,XZ,X0,X6,XY,R];refine v7 [0,3,4,5,6,11,12,137] λDC xA=>?_;try simp only[go_sem,XW,X1,X2,X3,X5,X7,XX,XZ,X0,X6,XY,R]at xA
   obtain⟨X8,Yc,Yd,Ye,Yf,X9,Ya,Yb⟩:=xA;cases z:((((A+2)%I L:Nat):Int)==(bv:Int))with
   |true=>simp only[go_sem,ir,aD f,aD u,aD B,aD y,eJ,a_ j cS,a_ m cS,h,aU.ps,h_,dC pc,iz,X8,Yc,Yd,Ye,Yf,X9,Ya,Yb,z];first|rfl|exact aI|exact⟨aI,rfl⟩|exact⟨aI,aI,rfl⟩
   |false=>
   simp only[go_sem,ir,aD f,aD u,aD B,aD y,eJ,a_ j cS,a_ m cS,h,aU.ps,h_,dC pc,iz,X8,Yc,Yd,Ye,Yf,X9,Ya,Yb,z];refine v7 [0,3,4,5,11,12,147] λK9 jG=>?_;try simp only[go_sem,X8,Yc,Yd,Ye,Yf,X9,Ya,Yb,z]at jG
   obtain⟨Yg,Yk,Yl,Ym,Yh,Yi,Yj⟩:=jG;cases D:((((bv+2)%I L:Nat):Int)==(A:Int))with
   |true=>simp only[go_sem,ir,aD f,aD u,aD B,aD y,eJ,a_ j cS,a_ m cS,h,aU.ps,h_,dC pc,iz,Yg,Yk,Yl,Ym,Yh,Yi,Yj,D];first|rfl|exact aI|exact⟨aI,rfl⟩|exact⟨aI,aI,rfl⟩
   |false=>
   cases H:oT F L 0 [A,bv] A with
   |false=>rw[H]at pc;simp only[go_sem,ir,aD f,aD u,aD B,aD y,eJ,a_ j cS,a_ m cS,h,aU.ps,h_,dC pc,iz,Yg,Yk,Yl,Ym,Yh,Yi,Yj,D];first|rfl|exact aI|exact⟨aI,rfl⟩|exact⟨aI,aI,rfl⟩
   |true=>rw[H]at pc;simp only[go_sem,ir,aD f,aD u,aD B,aD y,eJ,a_ j cS,a_ m cS,h,aU.ps,h_,dC pc,iz,Yg,Yk,Yl,Ym,Yh,Yi,Yj,D];refine⟨aI,?_⟩;refine qW pd lo (.inr (pA (CX _))) λcc bY O jH=>?_;simp only[go_sem];exact zU O
  |false=>
   simp only[go_sem,ir,aD f,aD u,aD B,aD y,eJ,a_ j cS,a_ m cS,h,aU.ps,h_,dC pc,iz,SR,SW,SX,SY,SZ,S3,SS,SU,SV,S1,S2,E];refine kr [0,3,4,5,6,10,11,12,76,101,113] λLa jy=>?_;try simp only[go_sem,SR,SW,SX,SY,SZ,S3,SS,SU,SV,S1,S2,E]at jy
   obtain⟨Yn,Yt,Yu,Yv,Yw,Yo,Yq,Ys,Yx,Yp,Yr⟩:=jy;cases c5:(Q.l.id==N.l.id)with
   |false=>simp only[go_sem,ir,aD f,aD u,aD B,aD y,eJ,a_ j cS,a_ m cS,h,aU.ps,h_,dC pc,iz,Yn,Yt,Yu,Yv,Yw,Yo,Yq,Ys,Yx,Yp,Yr,c5];first|rfl|exact aI|exact⟨aI,rfl⟩|exact⟨aI,aI,rfl⟩
   |true=>
   simp only[go_sem,ir,aD f,aD u,aD B,aD y,eJ,a_ j cS,a_ m cS,h,aU.ps,h_,dC pc,iz,Yn,Yt,Yu,Yv,Yw,Yo,Yq,Ys,Yx,Yp,Yr,c5];refine aok [0,3,4,5,6,11,12] λaN jq=>?_;try simp only[go_sem,Yn,Yt,Yu,Yv,Yw,Yo,Yq,Ys,Yx,Yp,Yr,c5]at jq
   obtain⟨Yy,YB,YC,YD,YE,Yz,YA⟩:=jq;cases c4:(Q2.l.id==P.l.id)with
   |false=>simp only[go_sem,ir,aD f,aD u,aD B,aD y,eJ,a_ j cS,a_ m cS,h,aU.ps,h_,dC pc,iz,Yy,YB,YC,YD,YE,Yz,YA,c4];first|rfl|exact aI|exact⟨aI,rfl⟩|exact⟨aI,aI,rfl⟩
   |true=>
   simp only[go_sem,ir,aD f,aD u,aD B,aD y,eJ,a_ j cS,a_ m cS,h,aU.ps,h_,dC pc,iz,Yy,YB,YC,YD,YE,Yz,YA,c4];refine v7 [0,3,4,5,6,11,12,137] λaA Lr=>?_;try simp only[go_sem,Yy,YB,YC,YD,YE,Yz,YA,c4]at Lr
   obtain⟨YF,YJ,YK,YL,YM,YG,YH,YI⟩:=Lr;cases z:((((A+2)%I L:Nat):Int)==(bv:Int))with
   |true=>simp only[go_sem,ir,aD f,aD u,aD B,aD y,eJ,a_ j cS,a_ m cS,h,aU.ps,h_,dC pc,iz,YF,YJ,YK,YL,YM,YG,YH,YI,z];first|rfl|exact aI|exact⟨aI,rfl⟩|exact⟨aI,aI,rfl⟩
   |false=>
   simp only[go_sem,ir,aD f,aD u,aD B,aD y,eJ,a_ j cS,a_ m cS,h,aU.ps,h_,dC pc,iz,YF,YJ,YK,YL,YM,YG,YH,YI,z];refine v7 [0,3,4,5,11,12,147] λaE ab=>?_;try simp only[go_sem,YF,YJ,YK,YL,YM,YG,YH,YI,z]at ab
   obtain⟨YN,YR,YS,YT,YO,YP,YQ⟩:=ab;cases D:((((bv+2)%I L:Nat):Int)==(A:Int))with
   |true=>simp only[go_sem,ir,aD f,aD u,aD B,aD y,eJ,a_ j cS,a_ m cS,h,aU.ps,h_,dC pc,iz,YN,YR,YS,YT,YO,YP,YQ,D];first|rfl|exact aI|exact⟨aI,rfl⟩|exact⟨aI,aI,rfl⟩
   |false=>
   cases H:oT F L 0 [A,bv] A with
   |false=>rw[H]at pc;simp only[go_sem,ir,aD f,aD u,aD B,aD y,eJ,a_ j cS,a_ m cS,h,aU.ps,h_,dC pc,iz,YN,YR,YS,YT,YO,YP,YQ,D];first|rfl|exact aI|exact⟨aI,rfl⟩|exact⟨aI,aI,rfl⟩
   |true=>rw[H]at pc;simp only[go_sem,ir,aD f,aD u,aD B,aD y,eJ,a_ j cS,a_ m cS,h,aU.ps,h_,dC pc,iz,YN,YR,YS,YT,YO,YP,YQ,D];refine⟨aI,?_⟩;refine qW pd lo (.inr (pA (CX _))) λcc bY O jH=>?_;simp only[go_sem];exact zU O
end
def azQ{Q:fM}{j:bn}{aj:aB}{os:eZ}{d:eh}{f id T z:Nat}{E:s_}{c:c6}(g:∀ {al:cG}{aj:aB},E=[]\/al.ok id->aY id T z E (.one c) aj->∃v A,je S f [.one c] al aj v A/\GZ id T z E c aj v A)(H:aY id T z E (.one c) aj)
  (x:∀A,aY id T z E.reverse (.one c) A->(∀i,i≠id->A i=aj i)->iH S .all os Q (dF j d (.tup [])) A):iU S .all (.sc f [.one c]) d os Q j aj:=by
 refine qq (P:=GZ id T z E c aj) uR (g ?_ H) ?_
 .rcases Vp H with⟨h,_⟩|h
  .exact .inl h
  exact .inr (qf (by simp[h]))
 rintro v A ⟨rfl,u,m⟩
 exact x A u m
abbrev Mw(x k:Nat)(sg:Int)(ov:Bool):aU:=⟨⟨2,0,0,((x+k:Nat):Int),sg,ov⟩,false⟩
abbrev ER(F:Nat)(ls:ae)(d:Nat):Nat:=(p_ F ls).getD d 0
abbrev auY(x:Nat)(sg:Int)(o:Bool):cY:=[Mw x 1 sg o,Mw x 2 (-sg) o]
abbrev adf(x:Nat)(sg:Int)(o same:Bool):cY:=if same then [Mw x 2 (-sg) (!o),Mw x 1 sg (!o)]else [Mw x 1 sg (!o),Mw x 2 (-sg) (!o)]
def RA(L:ae)(A bv:Nat)(l o same O:Bool):Option cY:=
 if !same&& !O then none
 else
  let sg:Int:=if o==(same==l)then 1 else -1
  let first:=auY (ai aa.aF L/2) sg o
  let f:=adf (ai aa.aF L/2) sg o same
  some (if A<bv then Ek (Ek (cq L) f bv) first A else Ek (Ek (cq L) first A) f bv)
def afr(F:Nat)(L:ae)(A bv:Nat)(l o:Bool):Option cY:=
 if l then RA L A bv l o ((ER F L (2*bv):Int)==(ER F L (2*A):Int)) ((ER F L (2*bv+1):Int)==(ER F L (2*A):Int))
 else RA L A bv l o ((ER F L (2*bv+1):Int)==(ER F L (2*A+1):Int)) ((ER F L (2*bv):Int)==(ER F L (2*A+1):Int))
abbrev OH(F:Nat):V:=.agg [.p (.int .i64 F),.p (.sl [])]
def C8:¬(((0:Int))<((0:Nat):Int)):=U
def ah2:IntKind.i64.wrap (2*((0:Nat):Int))=((0:Nat):Int):=U
def agd:(0:Nat)<=140737488355328:=U
def ayv:(0:Nat)*8<=140737488355328:=U
section
variable {F:Nat}
def azI(h:F<=40):dA (F:Int) []=0:=by unfold dA;rw[aw (by simp[ai]),aw J,aH rfl]
def az6(h:F<=40):aJ S 39 [OH F] (AM (As F) (.int .i64 0)):=by have pr:=R1 F [] (cE _);rw[Ng (azI h),aH rfl]at pr;exact pr
def avQ:aJ S 143 [.one (.p (As F))] (.one (.own 4 1 [])):=by refine bt aod ?_;simp only[go_sem,Z7,af,au];refine mx ?_;simp only[go_sem,QJ,Wt,C8,af,au];rfl
def aC7(H:F<=40):aJ S 118 [OH F] (.tup [.one (aX uO 5 []),.one (.p (.int .i64 0))]):=by
 have pr:=az6 H;have h:∀aj:aB,eF aj [] 7552384064 ((RV.one (.own 4 1 [])).fi (S.lone 7552384064))=some (.one (.hsl 7552384064 ((aj 7552384064).1+1) 1 0 0),[(7552384064,((aj 7552384064).1+1,some (.arr 4 1 [])))]):=by intro aj;rw[show S.lone 7552384064=false by kernel_rfl];rfl
 refine bt al1 ?_;simp only[go_sem,aco,N6,a_ pr cS,ajH,a_ avQ (h _),ah2,agd];refine mx ?_;simp only[go_sem,Oz,aaE,C8];rfl
def aHt(u:F<=40):aJ S 82 [OH F] (AM (gT F []) (.int .i64 0)):=by
 have j:=aC7 u;have g:aJ S 119 [OH F] (fQ ((0:Nat):Int)):=abh F [] (cE _);have f:aJ S 120 [OH F] (fQ ((0:Nat):Int)):=aoR F [] (cE _);have lo:S.lone 5248064064=false:=ah;have x:=cP (n:=F) J;have R:(F+1)*8<=140737488355328:=J;have e2:List.replicate (F+1) [PV.int .i64 0]=cg (jh [] F):=by rw[<-abZ,eK,WV];simp
 refine bt ajI ?_;simp only[go_sem,abO,anp];refine akJ j lo λA z y N=>?_;have O:=N 5248000000 U;simp only[go_sem]at O;obtain⟨_,H⟩|⟨h,_⟩:=y
 .cases H;simp only[go_sem,O,x,R,ah2,agd,ayv,abS,Qs,ek g,ek f,e2];refine⟨aI,?_⟩;refine mx ?_;simp only[go_sem,PK,TN,C8];refine mx ?_;simp only[go_sem,VI,RX,C8];have T:List.take (F+1) (cg (jh [] F))=cg (jh [] F):=e_ (by simp[jh]);have m:F+1<=I (jh [] F):=by simp[jh]
  simp only[go_sem,gr,nx,tH,k5,kj,gR,T,m];rfl
 exact absurd rfl h
end
abbrev ax0(b:Nat):ae:=[⟨1,b,1,0,0,false⟩,⟨1,b,2,0,0,false⟩]
end Go.Abs
