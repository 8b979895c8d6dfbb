/-
  Two crossings that are taken away.
-/
import Derived.Test.YtnbfnkckmfibpaaGreatDoorWv
set_option linter.unusedSimpArgs false
set_option linter.unusedVariables false
set_option linter.unusedSectionVars false
set_option maxRecDepth 100000
set_option maxHeartbeats 16000000
namespace Go.Abs
theorem mj(a b:Nat):(a==b)=((a:Int)==(b:Int)):=by
 by_cases h:a=b
 ·simp[h]
 ·have:(a==b)=false:=by simpa using h
  rw[this];symm;simp;omega
def QJ(F:Nat)(ls:List ae)(av bv:Nat):Option (List Pc):=
 if ((nY ls av true&&nY ls bv false)||(nY ls av false&&nY ls bv true))&&(!((pA ls av).l.id==(pA ls (nx ls av)).l.id)&&
  (((((pA ls bv).l.id==(pA ls av).l.id)&&((pA ls (nx ls bv)).l.id==(pA ls (nx ls av)).l.id))||(((pA ls bv).l.id==(pA ls (nx ls av)).l.id)&&((pA ls (nx ls bv)).l.id==(pA ls av).l.id)))&&
  (!((av+2)%ls.length==bv)&&(!((bv+2)%ls.length==av)&&jJ F ls 0 [av,bv] av))))
 then some (tI (pieces ls) [(pA ls av).l.id,(pA ls (nx ls av)).l.id]) else none
theorem Ia{F:Nat}{ls:List ae}(g:bj F ls){av bv:Nat}(ha:av<ls.length)(hb:bv<ls.length){k c:Int}{l o:Bool}{sg:Int}:
  aH S 80 [.one (.p (ew F ls)),dL k av bv c l o sg] (kR (QJ F ls av bv)):=by
 have hlen:=g.len;have TD:=aF ls;have Uc:=mE g ha;have Ua:=mE g hb;have Wl:=aax (av+1) (show 0<ls.length by omega);have Wk:=aax (bv+1) (show 0<ls.length by omega);have pc:=wL g [av,bv] (by simp) (e0:=av) rfl ha 0;simp only[aas,aaG] at pc;have c0:((0:Nat):Int)=0:=rfl;rw[c0] at pc;have b1:=sS g ha true;have b2:=sS g hb false;have b3:=sS g ha false;have b4:=sS g hb true;obtain⟨P,hP⟩:=ao (ls:=pieces ls) (k:=av) (by omega);obtain⟨P2,hP2⟩:=ao (ls:=pieces ls) (k:=(av+1)%ls.length) (by omega)
 obtain⟨Q,hQ⟩:=ao (ls:=pieces ls) (k:=bv) (by omega);obtain⟨Q2,hQ2⟩:=ao (ls:=pieces ls) (k:=(bv+1)%ls.length) (by omega);have hap:=bR hP;have aiK:=bR hP2;have Wn:=bR hQ;have aiG:=bR hQ2;have hz: ¬ ((ls.length:Int)=0):=by omega
 have e2w:IntKind.i64.wrap ((av:Int)+2)=((av+2:Nat):Int):=(dd (x:=(av:Int)+2) (by omega) (by omega)).trans (by omega);have e2m:=dq (av+2) ls.length;have e3w:IntKind.i64.wrap ((bv:Int)+2)=((bv+2:Nat):Int):=(dd (x:=(bv:Int)+2) (by omega) (by omega)).trans (by omega);have e3m:=dq (bv+2) ls.length;have lo:S.lone 5120704448=false:=by kernel_rfl
 have pd:=yW (pieces ls) [P.l.id,P2.l.id] (by omega) (by simp) (vN g);simp only[aas,aaG] at pd;have x3:nY ls av true=true->nY ls av false=false:=fun x1=>by
  unfold nY at x1 ⊢;rw[iA hP] at x1 ⊢;simp only[aan] at x1;have:P.l.over=true:=by simpa using x1.2.2.1
  simp[this]
 unfold QJ;rw[iA hP,iA hQ,iA hP2,iA hQ2,mj,mj];have wz:=And.intro hap (And.intro Wn (And.intro aiK (And.intro aiG (And.intro ha (And.intro hb (And.intro Wl (And.intro Wk (And.intro TD (And.intro e2w (And.intro e2m (And.intro hz (And.intro e3w e3m))))))))))));refine aG c80 ?_;simp only[go_sem,i80,s123,aa b1,wz];refine aX [0,3,4,5,6,7,22] fun e1 h1=> ?_
 have abB:=h1 0 (by decide);have abA:=h1 3 (by decide);have abz:=h1 4 (by decide);have aby:=h1 5 (by decide);have abx:=h1 6 (by decide);have abw:=h1 7 (by decide);have XW:=h1 22 (by decide);simp only[go_sem] at abB abA abz aby abx abw XW;cases x1:nY ls av true with
 |true=>
  simp only[go_sem,s123,aa b2,abB,abA,XW,x1];refine aX [0,3,4,5,6,7,28] fun e2 h2=> ?_
  have ac8:=h2 0 (by decide);have ac7:=h2 3 (by decide);have ac6:=h2 4 (by decide);have ac5:=h2 5 (by decide);have ac4:=h2 6 (by decide);have ac3:=h2 7 (by decide);have Zr:=h2 28 (by decide);simp only[go_sem,abB,abA,abz,aby,abx,abw] at ac8 ac7 ac6 ac5 ac4 ac3 Zr;cases x2:nY ls bv false with
  |false=>
   have x3':=x3 x1;simp only[go_sem,s123,aa b3,ac8,ac7,ac6,ac5,Zr,x2,x3'];first|rfl|exact au|exact⟨au,rfl⟩|exact⟨au,au,rfl⟩
  |true=>
  simp only[go_sem,s112,ai Uc ak,ai Ua ak,wz,Pc.ps,ac8,ac7,ac3,Zr,x2];refine⟨au,?_⟩;refine aX [0,3,4,5,6,9,10,11,12,76] fun e3 h3=> ?_
  have ac2:=h3 0 (by decide);have ac1:=h3 3 (by decide);have ac0:=h3 4 (by decide);have acZ:=h3 5 (by decide);have acY:=h3 6 (by decide);have acX:=h3 9 (by decide);have Zq:=h3 10 (by decide);have Zp:=h3 11 (by decide);have Zo:=h3 12 (by decide);have Zn:=h3 76 (by decide);simp only[go_sem,ac8,ac7,ac6,ac5,ac4] at ac2 ac1 ac0 acZ acY acX Zq Zp Zo Zn;cases c1:(P.l.id==P2.l.id) with
  |true=>
   simp only[go_sem,ac0,acZ,Zn,c1];first|rfl|exact au|exact⟨au,rfl⟩|exact⟨au,au,rfl⟩
  |false=>
  simp only[go_sem,wz,Pc.ps,ac2,acX,Zp,Zn,c1];refine aX [0,3,4,5,6,9,10,11,12,76,88] fun e4 h4=> ?_
  have abv:=h4 0 (by decide);have abu:=h4 3 (by decide);have abt:=h4 4 (by decide);have abs:=h4 5 (by decide);have abr:=h4 6 (by decide);have abq:=h4 9 (by decide);have XV:=h4 10 (by decide);have XU:=h4 11 (by decide);have XT:=h4 12 (by decide);have XS:=h4 76 (by decide);have XR:=h4 88 (by decide);simp only[go_sem,ac2,ac1,ac0,acZ,acY,acX,Zq,Zp,Zo,Zn,c1] at abv abu abt abs abr abq XV XU XT XS XR;cases c2:(Q.l.id==P.l.id) with
  |true=>
   have c4:(Q.l.id==P2.l.id)=false:=by
    have h1:Q.l.id=P.l.id:=by simpa using c2
    rw[h1];exact c1
   simp only[go_sem,wz,Pc.ps,abv,XV,XT,XS,XR,c2];refine aX [0,3,4,5,6,9,10,11,12,76,101] fun e5 h5=> ?_
   have acW:=h5 0 (by decide);have acV:=h5 3 (by decide);have acU:=h5 4 (by decide);have acT:=h5 5 (by decide);have acS:=h5 6 (by decide);have acQ:=h5 9 (by decide);have Zm:=h5 10 (by decide);have Zl:=h5 11 (by decide);have Zk:=h5 12 (by decide);have Zj:=h5 76 (by decide);have WV:=h5 101 (by decide);simp only[go_sem,abv,abu,abt,abs,abr,abq,XV,XU,XT,XS] at acW acV acU acT acS acQ Zm Zl Zk Zj WV;cases c3:(Q2.l.id==P2.l.id) with
   |false=>
    simp only[go_sem,wz,Pc.ps,acW,acU,acT,acQ,Zk,Zj,WV,c3,c4];first|rfl|exact au|exact⟨au,rfl⟩|exact⟨au,au,rfl⟩
   |true=>
   simp only[go_sem,wz,acV,acS,Zj,WV,c3];refine fA [0,3,4,5,6,11,12,137] fun e6 h6=> ?_
   have acP:=h6 0 (by decide);have acO:=h6 3 (by decide);have acN:=h6 4 (by decide);have acM:=h6 5 (by decide);have acK:=h6 6 (by decide);have Zi:=h6 11 (by decide);have Zh:=h6 12 (by decide);have WU:=h6 137 (by decide);simp only[go_sem,acW,acV,acU,acT,acS,Zl,Zk] at acP acO acN acM acK Zi Zh WU;cases d1:((((av+2)%ls.length:Nat):Int)==(bv:Int)) with
   |true=>
    simp only[go_sem,acN,acM,WU,d1];first|rfl|exact au|exact⟨au,rfl⟩|exact⟨au,au,rfl⟩
   |false=>
   simp only[go_sem,wz,acO,acK,WU,d1];refine fA [0,3,4,5,11,12,147] fun e7 h7=> ?_
   have acJ:=h7 0 (by decide);have acI:=h7 3 (by decide);have acH:=h7 4 (by decide);have acG:=h7 5 (by decide);have Zg:=h7 11 (by decide);have Zf:=h7 12 (by decide);have WT:=h7 147 (by decide);simp only[go_sem,acP,acO,acN,acM,Zi,Zh] at acJ acI acH acG Zg Zf WT;cases d2:((((bv+2)%ls.length:Nat):Int)==(av:Int)) with
   |true=>
    simp only[go_sem,acH,acG,WT,d2];first|rfl|exact au|exact⟨au,rfl⟩|exact⟨au,au,rfl⟩
   |false=>
   cases d3:jJ F ls 0 [av,bv] av with
   |false=>
    rw[d3] at pc;simp only[go_sem,s120,aw pc,acJ,acI,acH,acG,WT,d2];first|rfl|exact au|exact⟨au,rfl⟩|exact⟨au,au,rfl⟩
   |true=>
    rw[d3] at pc;simp only[go_sem,s120,aw pc,s121,acJ,acI,Zg,Zf,WT,d2];refine⟨au,?_⟩;refine fQ pd lo (.inr (ap (cJ _))) fun cc Tq gc hbk=> ?_
    simp only[go_sem];exact aR gc
  |false=>
   simp only[go_sem,wz,Pc.ps,abv,abq,XT,XS,XR,c2];refine aX [0,3,4,5,6,10,11,12,76,101,113] fun e8 h8=> ?_
   have acF:=h8 0 (by decide);have acE:=h8 3 (by decide);have acD:=h8 4 (by decide);have acC:=h8 5 (by decide);have acB:=h8 6 (by decide);have Ze:=h8 10 (by decide);have Zd:=h8 11 (by decide);have Zc:=h8 12 (by decide);have Zb:=h8 76 (by decide);have WS:=h8 101 (by decide);have WR:=h8 113 (by decide);simp only[go_sem,abv,abu,abt,abs,abr,XV,XU,XT,XS] at acF acE acD acC acB Ze Zd Zc Zb WS WR;cases c4:(Q.l.id==P2.l.id) with
   |false=>
    simp only[go_sem,acD,acC,Zb,WS,WR,c4];first|rfl|exact au|exact⟨au,rfl⟩|exact⟨au,au,rfl⟩
   |true=>
   simp only[go_sem,wz,Pc.ps,acF,Ze,Zd,Zb,WS,WR,c4];refine Ma [0,3,4,5,6,11,12] fun e9 h9=> ?_
   have acA:=h9 0 (by decide);have acz:=h9 3 (by decide);have acy:=h9 4 (by decide);have acx:=h9 5 (by decide);have acw:=h9 6 (by decide);have Za:=h9 11 (by decide);have Y9:=h9 12 (by decide);simp only[go_sem,acF,acE,acD,acC,acB,Zd,Zc] at acA acz acy acx acw Za Y9;cases c5:(Q2.l.id==P.l.id) with
   |false=>
    simp only[go_sem,acy,acx];first|rfl|exact au|exact⟨au,rfl⟩|exact⟨au,au,rfl⟩
   |true=>
   simp only[go_sem,wz,acz,acw];refine fA [0,3,4,5,6,11,12,137] fun e10 TJ=> ?_
   have aae:=TJ 0 (by decide);have aad:=TJ 3 (by decide);have aac:=TJ 4 (by decide);have aab:=TJ 5 (by decide);have aaa:=TJ 6 (by decide);have Xm:=TJ 11 (by decide);have Xl:=TJ 12 (by decide);have VQ:=TJ 137 (by decide);simp only[go_sem,acA,acz,acy,acx,acw,Za,Y9] at aae aad aac aab aaa Xm Xl VQ;cases d1:((((av+2)%ls.length:Nat):Int)==(bv:Int)) with
   |true=>
    simp only[go_sem,aac,aab,VQ,d1];first|rfl|exact au|exact⟨au,rfl⟩|exact⟨au,au,rfl⟩
   |false=>
   simp only[go_sem,wz,aad,aaa,VQ,d1];refine fA [0,3,4,5,11,12,147] fun e11 Ui=> ?_
   have Z9:=Ui 0 (by decide);have Z8:=Ui 3 (by decide);have Z7:=Ui 4 (by decide);have Z6:=Ui 5 (by decide);have Xk:=Ui 11 (by decide);have Xj:=Ui 12 (by decide);have VP:=Ui 147 (by decide);simp only[go_sem,aae,aad,aac,aab,Xm,Xl] at Z9 Z8 Z7 Z6 Xk Xj VP;cases d2:((((bv+2)%ls.length:Nat):Int)==(av:Int)) with
   |true=>
    simp only[go_sem,Z7,Z6,VP,d2];first|rfl|exact au|exact⟨au,rfl⟩|exact⟨au,au,rfl⟩
   |false=>
   cases d3:jJ F ls 0 [av,bv] av with
   |false=>
    rw[d3] at pc;simp only[go_sem,s120,aw pc,Z9,Z8,Z7,Z6,VP,d2];first|rfl|exact au|exact⟨au,rfl⟩|exact⟨au,au,rfl⟩
   |true=>
    rw[d3] at pc;simp only[go_sem,s120,aw pc,s121,Z9,Z8,Xk,Xj,VP,d2];refine⟨au,?_⟩;refine fQ pd lo (.inr (ap (cJ _))) fun cc Tq gc hbk=> ?_
    simp only[go_sem];exact aR gc
 |false=>
  simp only[go_sem,s123,aa b3,abB,abA,XW,x1];refine aX [0,3,4,5,6,7,28,33] fun e12 U4=> ?_
  have WC:=U4 0 (by decide);have WB:=U4 3 (by decide);have WA:=U4 4 (by decide);have Wz:=U4 5 (by decide);have Wy:=U4 6 (by decide);have Wx:=U4 7 (by decide);have Vr:=U4 28 (by decide);have Vq:=U4 33 (by decide);simp only[go_sem,abB,abA,abz,aby,abx,abw] at WC WB WA Wz Wy Wx Vr Vq;cases x4:nY ls av false with
  |false=>
   simp only[go_sem,WA,Wz,Vr,Vq,x4];first|rfl|exact au|exact⟨au,rfl⟩|exact⟨au,au,rfl⟩
  |true=>
  simp only[go_sem,s123,aa b4,WC,WB,Vr,Vq,x4];cases x5:nY ls bv true with
  |false=>
   simp only[go_sem,WA,Wz];first|rfl|exact au|exact⟨au,rfl⟩|exact⟨au,au,rfl⟩
  |true=>
  simp only[go_sem,s112,ai Uc ak,ai Ua ak,wz,Pc.ps,WC,WB,Wx];refine⟨au,?_⟩;refine aX [0,3,4,5,6,9,10,11,12,76] fun e13 UT=> ?_
  have Z5:=UT 0 (by decide);have Z4:=UT 3 (by decide);have Z3:=UT 4 (by decide);have Z2:=UT 5 (by decide);have Z1:=UT 6 (by decide);have Z0:=UT 9 (by decide);have Xi:=UT 10 (by decide);have Xh:=UT 11 (by decide);have Xg:=UT 12 (by decide);have Xf:=UT 76 (by decide);simp only[go_sem,WC,WB,WA,Wz,Wy] at Z5 Z4 Z3 Z2 Z1 Z0 Xi Xh Xg Xf;cases c1:(P.l.id==P2.l.id) with
  |true=>
   simp only[go_sem,Z3,Z2,Xf,c1];first|rfl|exact au|exact⟨au,rfl⟩|exact⟨au,au,rfl⟩
  |false=>
  simp only[go_sem,wz,Pc.ps,Z5,Z0,Xh,Xf,c1];refine aX [0,3,4,5,6,9,10,11,12,76,88] fun e14 Wp=> ?_
  have X3:=Wp 0 (by decide);have X2:=Wp 3 (by decide);have X0:=Wp 4 (by decide);have XZ:=Wp 5 (by decide);have XY:=Wp 6 (by decide);have XX:=Wp 9 (by decide);have We:=Wp 10 (by decide);have Wd:=Wp 11 (by decide);have Wc:=Wp 12 (by decide);have Wb:=Wp 76 (by decide);have Wa:=Wp 88 (by decide);simp only[go_sem,Z5,Z4,Z3,Z2,Z1,Z0,Xi,Xh,Xg,Xf,c1] at X3 X2 X0 XZ XY XX We Wd Wc Wb Wa;cases c2:(Q.l.id==P.l.id) with
  |true=>
   have c4:(Q.l.id==P2.l.id)=false:=by
    have h1:Q.l.id=P.l.id:=by simpa using c2
    rw[h1];exact c1
   simp only[go_sem,wz,Pc.ps,X3,We,Wc,Wb,Wa,c2];refine aX [0,3,4,5,6,9,10,11,12,76,101] fun e15 Ww=> ?_
   have ZZ:=Ww 0 (by decide);have ZY:=Ww 3 (by decide);have ZX:=Ww 4 (by decide);have ZW:=Ww 5 (by decide);have ZV:=Ww 6 (by decide);have ZU:=Ww 9 (by decide);have Xe:=Ww 10 (by decide);have Xd:=Ww 11 (by decide);have Xc:=Ww 12 (by decide);have Xb:=Ww 76 (by decide);have VO:=Ww 101 (by decide);simp only[go_sem,X3,X2,X0,XZ,XY,XX,We,Wd,Wc,Wb] at ZZ ZY ZX ZW ZV ZU Xe Xd Xc Xb VO;cases c3:(Q2.l.id==P2.l.id) with
   |false=>
    simp only[go_sem,wz,Pc.ps,ZZ,ZX,ZW,ZU,Xc,Xb,VO,c3,c4];first|rfl|exact au|exact⟨au,rfl⟩|exact⟨au,au,rfl⟩
   |true=>
   simp only[go_sem,wz,ZY,ZV,Xb,VO,c3];refine fA [0,3,4,5,6,11,12,137] fun e16 h16=> ?_
   have ZT:=h16 0 (by decide);have ZS:=h16 3 (by decide);have ZR:=h16 4 (by decide);have ZQ:=h16 5 (by decide);have ZP:=h16 6 (by decide);have Xa:=h16 11 (by decide);have W9:=h16 12 (by decide);have VN:=h16 137 (by decide);simp only[go_sem,ZZ,ZY,ZX,ZW,ZV,Xd,Xc] at ZT ZS ZR ZQ ZP Xa W9 VN;cases d1:((((av+2)%ls.length:Nat):Int)==(bv:Int)) with
   |true=>
    simp only[go_sem,ZR,ZQ,VN,d1];first|rfl|exact au|exact⟨au,rfl⟩|exact⟨au,au,rfl⟩
   |false=>
   simp only[go_sem,wz,ZS,ZP,VN,d1];refine fA [0,3,4,5,11,12,147] fun e17 Y8=> ?_
   have ZO:=Y8 0 (by decide);have ZN:=Y8 3 (by decide);have ZM:=Y8 4 (by decide);have ZL:=Y8 5 (by decide);have W8:=Y8 11 (by decide);have W7:=Y8 12 (by decide);have VM:=Y8 147 (by decide);simp only[go_sem,ZT,ZS,ZR,ZQ,Xa,W9] at ZO ZN ZM ZL W8 W7 VM;cases d2:((((bv+2)%ls.length:Nat):Int)==(av:Int)) with
   |true=>
    simp only[go_sem,ZM,ZL,VM,d2];first|rfl|exact au|exact⟨au,rfl⟩|exact⟨au,au,rfl⟩
   |false=>
   cases d3:jJ F ls 0 [av,bv] av with
   |false=>
    rw[d3] at pc;simp only[go_sem,s120,aw pc,ZO,ZN,ZM,ZL,VM,d2];first|rfl|exact au|exact⟨au,rfl⟩|exact⟨au,au,rfl⟩
   |true=>
    rw[d3] at pc;simp only[go_sem,s120,aw pc,s121,ZO,ZN,W8,W7,VM,d2];refine⟨au,?_⟩;refine fQ pd lo (.inr (ap (cJ _))) fun cc Tq gc hbk=> ?_
    simp only[go_sem];exact aR gc
  |false=>
   simp only[go_sem,wz,Pc.ps,X3,XX,Wc,Wb,Wa,c2];refine aX [0,3,4,5,6,10,11,12,76,101,113] fun e18 Xu=> ?_
   have ZK:=Xu 0 (by decide);have ZJ:=Xu 3 (by decide);have ZI:=Xu 4 (by decide);have ZH:=Xu 5 (by decide);have ZG:=Xu 6 (by decide);have W6:=Xu 10 (by decide);have W5:=Xu 11 (by decide);have W4:=Xu 12 (by decide);have W3:=Xu 76 (by decide);have VL:=Xu 101 (by decide);have VK:=Xu 113 (by decide);simp only[go_sem,X3,X2,X0,XZ,XY,We,Wd,Wc,Wb] at ZK ZJ ZI ZH ZG W6 W5 W4 W3 VL VK;cases c4:(Q.l.id==P2.l.id) with
   |false=>
    simp only[go_sem,ZI,ZH,W3,VL,VK,c4];first|rfl|exact au|exact⟨au,rfl⟩|exact⟨au,au,rfl⟩
   |true=>
   simp only[go_sem,wz,Pc.ps,ZK,W6,W5,W3,VL,VK,c4];refine Ma [0,3,4,5,6,11,12] fun e19 h19=> ?_
   have ZF:=h19 0 (by decide);have ZE:=h19 3 (by decide);have ZD:=h19 4 (by decide);have ZC:=h19 5 (by decide);have ZB:=h19 6 (by decide);have W1:=h19 11 (by decide);have W0:=h19 12 (by decide);simp only[go_sem,ZK,ZJ,ZI,ZH,ZG,W5,W4] at ZF ZE ZD ZC ZB W1 W0;cases c5:(Q2.l.id==P.l.id) with
   |false=>
    simp only[go_sem,ZD,ZC];first|rfl|exact au|exact⟨au,rfl⟩|exact⟨au,au,rfl⟩
   |true=>
   simp only[go_sem,wz,ZE,ZB];refine fA [0,3,4,5,6,11,12,137] fun e20 h20=> ?_
   have ZA:=h20 0 (by decide);have Zz:=h20 3 (by decide);have Zy:=h20 4 (by decide);have Zx:=h20 5 (by decide);have Zw:=h20 6 (by decide);have WZ:=h20 11 (by decide);have WY:=h20 12 (by decide);have VJ:=h20 137 (by decide);simp only[go_sem,ZF,ZE,ZD,ZC,ZB,W1,W0] at ZA Zz Zy Zx Zw WZ WY VJ;cases d1:((((av+2)%ls.length:Nat):Int)==(bv:Int)) with
   |true=>
    simp only[go_sem,Zy,Zx,VJ,d1];first|rfl|exact au|exact⟨au,rfl⟩|exact⟨au,au,rfl⟩
   |false=>
   simp only[go_sem,wz,Zz,Zw,VJ,d1];refine fA [0,3,4,5,11,12,147] fun e21 h21=> ?_
   have Zv:=h21 0 (by decide);have Zu:=h21 3 (by decide);have Zt:=h21 4 (by decide);have Zs:=h21 5 (by decide);have WX:=h21 11 (by decide);have WW:=h21 12 (by decide);have VI:=h21 147 (by decide);simp only[go_sem,ZA,Zz,Zy,Zx,WZ,WY] at Zv Zu Zt Zs WX WW VI;cases d2:((((bv+2)%ls.length:Nat):Int)==(av:Int)) with
   |true=>
    simp only[go_sem,Zt,Zs,VI,d2];first|rfl|exact au|exact⟨au,rfl⟩|exact⟨au,au,rfl⟩
   |false=>
   cases d3:jJ F ls 0 [av,bv] av with
   |false=>
    rw[d3] at pc;simp only[go_sem,s120,aw pc,Zv,Zu,Zt,Zs,VI,d2];first|rfl|exact au|exact⟨au,rfl⟩|exact⟨au,au,rfl⟩
   |true=>
    rw[d3] at pc;simp only[go_sem,s120,aw pc,s121,Zv,Zu,WX,WW,VI,d2];refine⟨au,?_⟩;refine fQ pd lo (.inr (ap (cJ _))) fun cc Tq gc hbk=> ?_
    simp only[go_sem];exact aR gc
end Go.Abs
