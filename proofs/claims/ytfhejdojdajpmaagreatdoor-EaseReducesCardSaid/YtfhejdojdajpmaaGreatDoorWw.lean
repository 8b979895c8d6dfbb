/- A part. -/
import Derived.Test.YtfhejdojdajpmaaGreatDoorWs
set_option linter.all false
set_option maxRecDepth 100000
set_option maxHeartbeats 16000000
namespace Go.Abs
theorem Hy(a b:Nat):(a==b)=((a:Int)==(b:Int)):=by
 by_cases h:a=b
 .simp[h]
 have:(a==b)=false:=by simpa using h
 rw[this];symm;simp;omega
def ti(F:Nat)(ls:List Let)(av bv:Nat):Option (List Pc):=
 if ((iB ls av true&&iB ls bv false)||(iB ls av false&&iB ls bv true))&&(!((pA ls av).l.id==(pA ls (nx ls av)).l.id)&&
  (((((pA ls bv).l.id==(pA ls av).l.id)&&((pA ls (nx ls bv)).l.id==(pA ls (nx ls av)).l.id))||(((pA ls bv).l.id==(pA ls (nx ls av)).l.id)&&((pA ls (nx ls bv)).l.id==(pA ls av).l.id)))&&
  (!((av+2)%ls.length==bv)&&(!((bv+2)%ls.length==av)&&lW F ls 0 [av,bv] av))))
 then some (Cb (pieces ls) [(pA ls av).l.id,(pA ls (nx ls av)).l.id]) else none
theorem anz{F:Nat}{ls:List Let}(g:bK F ls){av bv:Nat}(ha:av<ls.length)(hb:bv<ls.length){k c:Int}{l o:Bool}{sg:Int}:
  aJ S 135 [.one (.p (ek F ls)),ft k av bv c l o sg] (kR (ti F ls av bv)):=by
 have hlen:=g.len;have bG:=fG ls;have pe1:=Ay g ha;have Ls:=Ay g hb;have lG:=dK (av+1) (show 0<ls.length by omega);have sZ:=dK (bv+1) (show 0<ls.length by omega);have pc:=Qx g [av,bv] af (e0:=av) rfl ha 0;simp only[eE,kZ] at pc;have c0:((0:Nat):Int)=0:=rfl;rw[c0] at pc;have b1:=F6 g ha true;have b2:=F6 g hb false;have b3:=F6 g ha false;have b4:=F6 g hb true;obtain⟨P,hP⟩:=aN (ls:=pieces ls) (k:=av) aa;obtain⟨P2,hP2⟩:=aN (ls:=pieces ls) (k:=(av+1)%ls.length) aa;obtain⟨Q,hQ⟩:=aN (ls:=pieces ls) (k:=bv) aa;obtain⟨Q2,hQ2⟩:=aN (ls:=pieces ls) (k:=(bv+1)%ls.length) aa;have vU:=iZ hP;have akl:=iZ hP2;have nv:=iZ hQ;have akq:=iZ hQ2;have hz:¬((ls.length:Int)=0):=aa
 have e2w:IntKind.i64.wrap ((av:Int)+2)=((av+2:Nat):Int):=(nT (x:=(av:Int)+2) aa aa).trans aa;have e2m:=qK (av+2) ls.length;have e3w:IntKind.i64.wrap ((bv:Int)+2)=((bv+2:Nat):Int):=(nT (x:=(bv:Int)+2) aa aa).trans aa;have e3m:=qK (bv+2) ls.length;have lo:S.lone 8640704448=false:=ah;have pd:=Yk (pieces ls) [P.l.id,P2.l.id] aa af (T9 g);simp only[eE,kZ] at pd;have x3:iB ls av true=true->iB ls av false=false:=fun x1=>by
  unfold iB at x1 ⊢;rw[jo hP] at x1 ⊢;simp only[cE] at x1;have:P.l.over=true:=by simpa using x1.2.2.1
  simp[this]
 unfold ti;rw[jo hP,jo hQ,jo hP2,jo hQ2,Hy,Hy];have wz:=And.intro vU (And.intro nv (And.intro akl (And.intro akq (And.intro ha (And.intro hb (And.intro lG (And.intro sZ (And.intro bG (And.intro e2w (And.intro e2m (And.intro hz (And.intro e3w e3m))))))))))));refine bc c135 ?_;simp only[go_sem,i135,s167,cq b1,wz];refine hJ [0,3,4,5,6,7,22] fun e1 h1=>?_;have JF:=h1 0 ae;have JG:=h1 3 ae;have R7:=h1 4 ae;have R8:=h1 5 ae;have R9:=h1 6 ae;have Sa:=h1 7 ae;have R6:=h1 22 ae;simp only[go_sem] at JF JG R7 R8 R9 Sa R6;cases x1:iB ls av true with
 |true=>
  simp only[go_sem,s167,cq b2,JF,JG,R6,x1];refine hJ [0,3,4,5,6,7,28] fun e2 h2=>?_;have MY:=h2 0 ae;have MZ:=h2 3 ae;have Sk:=h2 4 ae;have Sl:=h2 5 ae;have Zj:=h2 6 ae;have Zk:=h2 7 ae;have Sj:=h2 28 ae;simp only[go_sem,JF,JG,R7,R8,R9,Sa] at MY MZ Sk Sl Zj Zk Sj;cases x2:iB ls bv false with
  |false=>have x3':=x3 x1;simp only[go_sem,s167,cq b3,MY,MZ,Sk,Sl,Sj,x2,x3'];first|rfl|exact aH|exact⟨aH,rfl⟩|exact⟨aH,aH,rfl⟩
  |true=>
  simp only[go_sem,s156,cK pe1 gn,cK Ls gn,wz,Pc.ps,MY,MZ,Zk,Sj,x2];refine⟨aH,?_⟩;refine hJ [0,3,4,5,6,9,10,11,12,76] fun e3 h3=>?_;have Sm:=h3 0 ae;have Zn:=h3 3 ae;have So:=h3 4 ae;have Sp:=h3 5 ae;have Zo:=h3 6 ae;have Sq:=h3 9 ae;have Zl:=h3 10 ae;have Sn:=h3 11 ae;have Zm:=h3 12 ae;have M1:=h3 76 ae;simp only[go_sem,MY,MZ,Sk,Sl,Zj] at Sm Zn So Sp Zo Sq Zl Sn Zm M1;cases c1:(P.l.id==P2.l.id) with
  |true=>simp only[go_sem,So,Sp,M1,c1];first|rfl|exact aH|exact⟨aH,rfl⟩|exact⟨aH,aH,rfl⟩
  |false=>
  simp only[go_sem,wz,Pc.ps,Sm,Sq,Sn,M1,c1];refine hJ [0,3,4,5,6,9,10,11,12,76,88] fun e4 h4=>?_;have JH:=h4 0 ae;have Ss:=h4 3 ae;have St:=h4 4 ae;have Su:=h4 5 ae;have Sv:=h4 6 ae;have Sx:=h4 9 ae;have M3:=h4 10 ae;have Sr:=h4 11 ae;have JI:=h4 12 ae;have JJ:=h4 76 ae;have Sw:=h4 88 ae;simp only[go_sem,Sm,Zn,So,Sp,Zo,Sq,Zl,Sn,Zm,M1,c1] at JH Ss St Su Sv Sx M3 Sr JI JJ Sw;cases c2:(Q.l.id==P.l.id) with
  |true=>
   have c4:(Q.l.id==P2.l.id)=false:=by
    have h1:Q.l.id=P.l.id:=by simpa using c2
    rw[h1];exact c1
   simp only[go_sem,wz,Pc.ps,JH,M3,JI,JJ,Sw,c2];refine hJ [0,3,4,5,6,9,10,11,12,76,101] fun e5 h5=>?_;have Sy:=h5 0 ae;have SB:=h5 3 ae;have SC:=h5 4 ae;have SD:=h5 5 ae;have SF:=h5 6 ae;have Zq:=h5 9 ae;have aji:=h5 10 ae;have Zp:=h5 11 ae;have SA:=h5 12 ae;have SG:=h5 76 ae;have Sz:=h5 101 ae;simp only[go_sem,JH,Ss,St,Su,Sv,Sx,M3,Sr,JI,JJ] at Sy SB SC SD SF Zq aji Zp SA SG Sz;cases c3:(Q2.l.id==P2.l.id) with
   |false=>simp only[go_sem,wz,Pc.ps,Sy,SC,SD,Zq,SA,SG,Sz,c3,c4];first|rfl|exact aH|exact⟨aH,rfl⟩|exact⟨aH,aH,rfl⟩
   |true=>
   simp only[go_sem,wz,SB,SF,SG,Sz,c3];refine tK [0,3,4,5,6,11,12,137] fun e6 h6=>?_;have Zr:=h6 0 ae;have SJ:=h6 3 ae;have SK:=h6 4 ae;have SL:=h6 5 ae;have Zu:=h6 6 ae;have Zs:=h6 11 ae;have Zt:=h6 12 ae;have SI:=h6 137 ae;simp only[go_sem,Sy,SB,SC,SD,SF,Zp,SA] at Zr SJ SK SL Zu Zs Zt SI;cases d1:((((av+2)%ls.length:Nat):Int)==(bv:Int)) with
   |true=>simp only[go_sem,SK,SL,SI,d1];first|rfl|exact aH|exact⟨aH,rfl⟩|exact⟨aH,aH,rfl⟩
   |false=>
   simp only[go_sem,wz,SJ,Zu,SI,d1];refine tK [0,3,4,5,11,12,147] fun e7 h7=>?_;have SM:=h7 0 ae;have SN:=h7 3 ae;have SO:=h7 4 ae;have SP:=h7 5 ae;have Zv:=h7 11 ae;have Zw:=h7 12 ae;have M4:=h7 147 ae;simp only[go_sem,Zr,SJ,SK,SL,Zs,Zt] at SM SN SO SP Zv Zw M4;cases d2:((((bv+2)%ls.length:Nat):Int)==(av:Int)) with
   |true=>simp only[go_sem,SO,SP,M4,d2];first|rfl|exact aH|exact⟨aH,rfl⟩|exact⟨aH,aH,rfl⟩
   |false=>
   cases d3:lW F ls 0 [av,bv] av with
   |false=>rw[d3] at pc;simp only[go_sem,s164,kJ pc,SM,SN,SO,SP,M4,d2];first|rfl|exact aH|exact⟨aH,rfl⟩|exact⟨aH,aH,rfl⟩
   |true=>rw[d3] at pc;simp only[go_sem,s164,kJ pc,s165,SM,SN,Zv,Zw,M4,d2];refine⟨aH,?_⟩;refine pI pd lo (.inr (mY (Bt _))) fun cc bt gc jM=>?_;simp only[go_sem];exact vM gc
  |false=>
   simp only[go_sem,wz,Pc.ps,JH,Sx,JI,JJ,Sw,c2];refine hJ [0,3,4,5,6,10,11,12,76,101,113] fun e8 h8=>?_;have SQ:=h8 0 ae;have Zz:=h8 3 ae;have SV:=h8 4 ae;have SW:=h8 5 ae;have ZA:=h8 6 ae;have Zx:=h8 10 ae;have SS:=h8 11 ae;have Zy:=h8 12 ae;have SX:=h8 76 ae;have SR:=h8 101 ae;have SU:=h8 113 ae;simp only[go_sem,JH,Ss,St,Su,Sv,M3,Sr,JI,JJ] at SQ Zz SV SW ZA Zx SS Zy SX SR SU;cases c4:(Q.l.id==P2.l.id) with
   |false=>simp only[go_sem,SV,SW,SX,SR,SU,c4];first|rfl|exact aH|exact⟨aH,rfl⟩|exact⟨aH,aH,rfl⟩
   |true=>
   simp only[go_sem,wz,Pc.ps,SQ,Zx,SS,SX,SR,SU,c4];refine Xt [0,3,4,5,6,11,12] fun e9 h9=>?_;have ZB:=h9 0 ae;have SY:=h9 3 ae;have SZ:=h9 4 ae;have S1:=h9 5 ae;have S2:=h9 6 ae;have ZC:=h9 11 ae;have ZD:=h9 12 ae;simp only[go_sem,SQ,Zz,SV,SW,ZA,SS,Zy] at ZB SY SZ S1 S2 ZC ZD;cases c5:(Q2.l.id==P.l.id) with
   |false=>simp only[go_sem,SZ,S1];first|rfl|exact aH|exact⟨aH,rfl⟩|exact⟨aH,aH,rfl⟩
   |true=>
   simp only[go_sem,wz,SY,S2];refine tK [0,3,4,5,6,11,12,137] fun DW dC=>?_;have YE:=dC 0 ae;have QS:=dC 3 ae;have QT:=dC 4 ae;have QU:=dC 5 ae;have YH:=dC 6 ae;have YF:=dC 11 ae;have YG:=dC 12 ae;have QR:=dC 137 ae;simp only[go_sem,ZB,SY,SZ,S1,S2,ZC,ZD] at YE QS QT QU YH YF YG QR;cases d1:((((av+2)%ls.length:Nat):Int)==(bv:Int)) with
   |true=>simp only[go_sem,QT,QU,QR,d1];first|rfl|exact aH|exact⟨aH,rfl⟩|exact⟨aH,aH,rfl⟩
   |false=>
   simp only[go_sem,wz,QS,YH,QR,d1];refine tK [0,3,4,5,11,12,147] fun e11 jL=>?_;have QV:=jL 0 ae;have QW:=jL 3 ae;have QX:=jL 4 ae;have QY:=jL 5 ae;have YI:=jL 11 ae;have YJ:=jL 12 ae;have MP:=jL 147 ae;simp only[go_sem,YE,QS,QT,QU,YF,YG] at QV QW QX QY YI YJ MP;cases d2:((((bv+2)%ls.length:Nat):Int)==(av:Int)) with
   |true=>simp only[go_sem,QX,QY,MP,d2];first|rfl|exact aH|exact⟨aH,rfl⟩|exact⟨aH,aH,rfl⟩
   |false=>
   cases d3:lW F ls 0 [av,bv] av with
   |false=>rw[d3] at pc;simp only[go_sem,s164,kJ pc,QV,QW,QX,QY,MP,d2];first|rfl|exact aH|exact⟨aH,rfl⟩|exact⟨aH,aH,rfl⟩
   |true=>rw[d3] at pc;simp only[go_sem,s164,kJ pc,s165,QV,QW,YI,YJ,MP,d2];refine⟨aH,?_⟩;refine pI pd lo (.inr (mY (Bt _))) fun cc bt gc jM=>?_;simp only[go_sem];exact vM gc
 |false=>
  simp only[go_sem,s167,cq b3,JF,JG,R6,x1];refine hJ [0,3,4,5,6,7,28,33] fun e12 l8=>?_;have MQ:=l8 0 ae;have MR:=l8 3 ae;have MS:=l8 4 ae;have MT:=l8 5 ae;have YK:=l8 6 ae;have YL:=l8 7 ae;have QZ:=l8 28 ae;have Q0:=l8 33 ae;simp only[go_sem,JF,JG,R7,R8,R9,Sa] at MQ MR MS MT YK YL QZ Q0;cases x4:iB ls av false with
  |false=>simp only[go_sem,MS,MT,QZ,Q0,x4];first|rfl|exact aH|exact⟨aH,rfl⟩|exact⟨aH,aH,rfl⟩
  |true=>
  simp only[go_sem,s167,cq b4,MQ,MR,QZ,Q0,x4];cases x5:iB ls bv true with
  |false=>simp only[go_sem,MS,MT];first|rfl|exact aH|exact⟨aH,rfl⟩|exact⟨aH,aH,rfl⟩
  |true=>
  simp only[go_sem,s156,cK pe1 gn,cK Ls gn,wz,Pc.ps,MQ,MR,YL];refine⟨aH,?_⟩;refine hJ [0,3,4,5,6,9,10,11,12,76] fun e13 tO=>?_;have Q3:=tO 0 ae;have YO:=tO 3 ae;have Q5:=tO 4 ae;have Q6:=tO 5 ae;have YP:=tO 6 ae;have Q7:=tO 9 ae;have YM:=tO 10 ae;have Q4:=tO 11 ae;have YN:=tO 12 ae;have MU:=tO 76 ae;simp only[go_sem,MQ,MR,MS,MT,YK] at Q3 YO Q5 Q6 YP Q7 YM Q4 YN MU;cases c1:(P.l.id==P2.l.id) with
  |true=>simp only[go_sem,Q5,Q6,MU,c1];first|rfl|exact aH|exact⟨aH,rfl⟩|exact⟨aH,aH,rfl⟩
  |false=>
  simp only[go_sem,wz,Pc.ps,Q3,Q7,Q4,MU,c1];refine hJ [0,3,4,5,6,9,10,11,12,76,88] fun e14 kL=>?_;have JC:=kL 0 ae;have Q9:=kL 3 ae;have Ra:=kL 4 ae;have Rc:=kL 5 ae;have Re:=kL 6 ae;have Rg:=kL 9 ae;have MV:=kL 10 ae;have Q8:=kL 11 ae;have JD:=kL 12 ae;have JE:=kL 76 ae;have Rf:=kL 88 ae;simp only[go_sem,Q3,YO,Q5,Q6,YP,Q7,YM,Q4,YN,MU,c1] at JC Q9 Ra Rc Re Rg MV Q8 JD JE Rf;cases c2:(Q.l.id==P.l.id) with
  |true=>
   have c4:(Q.l.id==P2.l.id)=false:=by
    have h1:Q.l.id=P.l.id:=by simpa using c2
    rw[h1];exact c1
   simp only[go_sem,wz,Pc.ps,JC,MV,JD,JE,Rf,c2];refine hJ [0,3,4,5,6,9,10,11,12,76,101] fun e15 oi=>?_;have Rh:=oi 0 ae;have Rk:=oi 3 ae;have Rm:=oi 4 ae;have Rn:=oi 5 ae;have Ro:=oi 6 ae;have YR:=oi 9 ae;have ajh:=oi 10 ae;have YQ:=oi 11 ae;have Rj:=oi 12 ae;have Rp:=oi 76 ae;have Ri:=oi 101 ae;simp only[go_sem,JC,Q9,Ra,Rc,Re,Rg,MV,Q8,JD,JE] at Rh Rk Rm Rn Ro YR ajh YQ Rj Rp Ri;cases c3:(Q2.l.id==P2.l.id) with
   |false=>simp only[go_sem,wz,Pc.ps,Rh,Rm,Rn,YR,Rj,Rp,Ri,c3,c4];first|rfl|exact aH|exact⟨aH,rfl⟩|exact⟨aH,aH,rfl⟩
   |true=>
   simp only[go_sem,wz,Rk,Ro,Rp,Ri,c3];refine tK [0,3,4,5,6,11,12,137] fun e16 xI=>?_;have YS:=xI 0 ae;have Rr:=xI 3 ae;have Rs:=xI 4 ae;have Ru:=xI 5 ae;have YV:=xI 6 ae;have YT:=xI 11 ae;have YU:=xI 12 ae;have Rq:=xI 137 ae;simp only[go_sem,Rh,Rk,Rm,Rn,Ro,YQ,Rj] at YS Rr Rs Ru YV YT YU Rq;cases d1:((((av+2)%ls.length:Nat):Int)==(bv:Int)) with
   |true=>simp only[go_sem,Rs,Ru,Rq,d1];first|rfl|exact aH|exact⟨aH,rfl⟩|exact⟨aH,aH,rfl⟩
   |false=>
   simp only[go_sem,wz,Rr,YV,Rq,d1];refine tK [0,3,4,5,11,12,147] fun e17 tP=>?_;have Rv:=tP 0 ae;have Rw:=tP 3 ae;have Rx:=tP 4 ae;have Ry:=tP 5 ae;have YW:=tP 11 ae;have YX:=tP 12 ae;have MW:=tP 147 ae;simp only[go_sem,YS,Rr,Rs,Ru,YT,YU] at Rv Rw Rx Ry YW YX MW;cases d2:((((bv+2)%ls.length:Nat):Int)==(av:Int)) with
   |true=>simp only[go_sem,Rx,Ry,MW,d2];first|rfl|exact aH|exact⟨aH,rfl⟩|exact⟨aH,aH,rfl⟩
   |false=>
   cases d3:lW F ls 0 [av,bv] av with
   |false=>rw[d3] at pc;simp only[go_sem,s164,kJ pc,Rv,Rw,Rx,Ry,MW,d2];first|rfl|exact aH|exact⟨aH,rfl⟩|exact⟨aH,aH,rfl⟩
   |true=>rw[d3] at pc;simp only[go_sem,s164,kJ pc,s165,Rv,Rw,YW,YX,MW,d2];refine⟨aH,?_⟩;refine pI pd lo (.inr (mY (Bt _))) fun cc bt gc jM=>?_;simp only[go_sem];exact vM gc
  |false=>
   simp only[go_sem,wz,Pc.ps,JC,Rg,JD,JE,Rf,c2];refine hJ [0,3,4,5,6,10,11,12,76,101,113] fun e18 qy=>?_;have Rz:=qy 0 ae;have Y0:=qy 3 ae;have RR:=qy 4 ae;have RW:=qy 5 ae;have Y9:=qy 6 ae;have YY:=qy 10 ae;have RP:=qy 11 ae;have YZ:=qy 12 ae;have RX:=qy 76 ae;have RO:=qy 101 ae;have RQ:=qy 113 ae;simp only[go_sem,JC,Q9,Ra,Rc,Re,MV,Q8,JD,JE] at Rz Y0 RR RW Y9 YY RP YZ RX RO RQ;cases c4:(Q.l.id==P2.l.id) with
   |false=>simp only[go_sem,RR,RW,RX,RO,RQ,c4];first|rfl|exact aH|exact⟨aH,rfl⟩|exact⟨aH,aH,rfl⟩
   |true=>
   simp only[go_sem,wz,Pc.ps,Rz,YY,RP,RX,RO,RQ,c4];refine Xt [0,3,4,5,6,11,12] fun e19 xJ=>?_;have Za:=xJ 0 ae;have RY:=xJ 3 ae;have RZ:=xJ 4 ae;have R0:=xJ 5 ae;have R5:=xJ 6 ae;have Zb:=xJ 11 ae;have Zc:=xJ 12 ae;simp only[go_sem,Rz,Y0,RR,RW,Y9,RP,YZ] at Za RY RZ R0 R5 Zb Zc;cases c5:(Q2.l.id==P.l.id) with
   |false=>simp only[go_sem,RZ,R0];first|rfl|exact aH|exact⟨aH,rfl⟩|exact⟨aH,aH,rfl⟩
   |true=>
   simp only[go_sem,wz,RY,R5];refine tK [0,3,4,5,6,11,12,137] fun e20 vN=>?_;have Zd:=vN 0 ae;have Sc:=vN 3 ae;have Sd:=vN 4 ae;have Se:=vN 5 ae;have Zg:=vN 6 ae;have Ze:=vN 11 ae;have Zf:=vN 12 ae;have Sb:=vN 137 ae;simp only[go_sem,Za,RY,RZ,R0,R5,Zb,Zc] at Zd Sc Sd Se Zg Ze Zf Sb;cases d1:((((av+2)%ls.length:Nat):Int)==(bv:Int)) with
   |true=>simp only[go_sem,Sd,Se,Sb,d1];first|rfl|exact aH|exact⟨aH,rfl⟩|exact⟨aH,aH,rfl⟩
   |false=>
   simp only[go_sem,wz,Sc,Zg,Sb,d1];refine tK [0,3,4,5,11,12,147] fun e21 Ef=>?_;have Sf:=Ef 0 ae;have Sg:=Ef 3 ae;have Sh:=Ef 4 ae;have Si:=Ef 5 ae;have Zh:=Ef 11 ae;have Zi:=Ef 12 ae;have MX:=Ef 147 ae;simp only[go_sem,Zd,Sc,Sd,Se,Ze,Zf] at Sf Sg Sh Si Zh Zi MX;cases d2:((((bv+2)%ls.length:Nat):Int)==(av:Int)) with
   |true=>simp only[go_sem,Sh,Si,MX,d2];first|rfl|exact aH|exact⟨aH,rfl⟩|exact⟨aH,aH,rfl⟩
   |false=>
   cases d3:lW F ls 0 [av,bv] av with
   |false=>rw[d3] at pc;simp only[go_sem,s164,kJ pc,Sf,Sg,Sh,Si,MX,d2];first|rfl|exact aH|exact⟨aH,rfl⟩|exact⟨aH,aH,rfl⟩
   |true=>rw[d3] at pc;simp only[go_sem,s164,kJ pc,s165,Sf,Sg,Zh,Zi,MX,d2];refine⟨aH,?_⟩;refine pI pd lo (.inr (mY (Bt _))) fun cc bt gc jM=>?_;simp only[go_sem];exact vM gc
abbrev Iz(x k:Nat)(sg:Int)(ov:Bool):Pc:=⟨⟨2,0,0,((x+k:Nat):Int),sg,ov⟩,false⟩
abbrev C0(F:Nat)(ls:List Let)(d:Nat):Nat:=(mS F ls).getD d 0
abbrev pmF(x:Nat)(sg:Int)(o:Bool):List Pc:=[Iz x 1 sg o,Iz x 2 (-sg) o]
abbrev pmS(x:Nat)(sg:Int)(o same:Bool):List Pc:=if same then [Iz x 2 (-sg) (!o),Iz x 1 sg (!o)] else [Iz x 1 sg (!o),Iz x 2 (-sg) (!o)]
def pmV(ls:List Let)(av bv:Nat)(l o same other:Bool):Option (List Pc):=
 if !same&& !other then none
 else
  let sg:Int:=if o==(same==l) then 1 else -1
  let first:=pmF (ay Let.aB ls/2) sg o
  let second:=pmS (ay Let.aB ls/2) sg o same
  some (if av<bv then CV (CV (pieces ls) second bv) first av else CV (CV (pieces ls) first av) second bv)
def pmR(F:Nat)(ls:List Let)(av bv:Nat)(l o:Bool):Option (List Pc):=
 if l then pmV ls av bv l o ((C0 F ls (2*bv):Int)==(C0 F ls (2*av):Int)) ((C0 F ls (2*bv+1):Int)==(C0 F ls (2*av):Int))
 else pmV ls av bv l o ((C0 F ls (2*bv+1):Int)==(C0 F ls (2*av+1):Int)) ((C0 F ls (2*bv):Int)==(C0 F ls (2*av+1):Int))
abbrev Jo(F:Nat):V:=.agg [.p (.int .i64 F),.p (.sl [])]
theorem zz:¬(((0:Int))<((0:Nat):Int)):=ae
theorem zm:IntKind.i64.wrap (2*((0:Nat):Int))=((0:Nat):Int):=ae
theorem zr:(0:Nat)<=140737488355328:=ae
theorem zr8:(0:Nat)*8<=140737488355328:=ae
section
variable {F:Nat}
theorem ahP(hF:F<=40):dT (F:Int) []=0:=by unfold dT;rw[aD (by simp[ay]),aD aa,aE rfl]
theorem aoQ(hF:F<=40):aJ S 38 [Jo F] (yx (dgE F) (.int .i64 0)):=by have pr:=Vm F [] (bn _);rw[OH (ahP hF),aE rfl] at pr;exact pr
theorem ahm:aJ S 127 [.one (.p (dgE F))] (.one (.own 4 1 [])):=by refine bc c127 ?_;simp only[go_sem,i127];refine lU ?_;simp only[go_sem,i127_l1,i127_r2,zz];rfl
theorem ajn(hF:F<=40):aJ S 108 [Jo F] (.tup [.one (aO sR 5 []),.one (.p (.int .i64 0))]):=by
 have pr:=aoQ hF;have hLB:∀aj:aA,land aj [] 6912384064 ((RV.one (.own 4 1 [])).eG (S.lone 6912384064))=some (.one (.hsl 6912384064 ((aj 6912384064).1+1) 1 0 0),[(6912384064,((aj 6912384064).1+1,some (.arr 4 1 [])))]):=by intro aj;rw[show S.lone 6912384064=false by kernel_rfl];rfl
 refine bc c108 ?_;simp only[go_sem,i108,s38,cK pr gn,s127,cK ahm (hLB _),zm,zr];refine lU ?_;simp only[go_sem,i108_l1,i108_r2,zz];rfl
theorem ann(hF:F<=40):aJ S 77 [Jo F] (yx (ek F []) (.int .i64 0)):=by
 have pf:=ajn hF;have pps:aJ S 109 [Jo F] (ri ((0:Nat):Int)):=U0 F [] (bn _);have pcs:aJ S 110 [Jo F] (ri ((0:Nat):Int)):=X1 F [] (bn _);have lo:S.lone 4928064064=false:=ah;have wF:=bQ (n:=F) aa;have r2:(F+1)*8<=140737488355328:=aa;have e2:List.replicate (F+1) [PV.int .i64 0]=nP (counts [] F):=by rw[<- QA,eP,QB];simp
 refine bc c77 ?_;simp only[go_sem,i77,s108];refine aad pf lo fun cf nh tQ r4=>?_;have Jb:=r4 4928000000 ae;simp only[go_sem] at Jb;obtain⟨_,hv⟩|⟨h,_⟩:=tQ
 .cases hv;simp only[go_sem,Jb,wF,r2,zm,zr,s109,s110,gR pps,gR pcs,e2];refine⟨aH,?_⟩;refine lU ?_;simp only[go_sem,i77_l1,i77_r6,zz];refine lU ?_;simp only[go_sem,i77_l4,i77_r5,zz];have t2:List.take (F+1) (nP (counts [] F))=nP (counts [] F):=eY (by simp[counts]);have n2:F+1<=(counts [] F).length:=by simp[counts]
  simp only[go_sem,fv,ll,qU,jx,iY,fm,t2,n2];rfl
 exact absurd rfl h
end
section
variable {F:Nat}
end
abbrev circ(b:Nat):List Let:=[⟨1,b,1,0,0,false⟩,⟨1,b,2,0,0,false⟩]
end Go.Abs
