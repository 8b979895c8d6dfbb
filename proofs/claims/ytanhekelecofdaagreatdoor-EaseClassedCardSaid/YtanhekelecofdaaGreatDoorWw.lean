/- A part. -/
import Derived.Test.YtanhekelecofdaaGreatDoorWs
set_option linter.all false
set_option maxRecDepth 100000
set_option maxHeartbeats 16000000
namespace Go.Abs
def Ug(a b:Nat):(a==b)=((a:Int)==(b:Int)):=by
 by_cases h:a=b
 .simp[h]
 have:(a==b)=false:=by simpa using h
 rw[this];symm;simp;omega
def xh(F:Nat)(ls:ai)(av bv:Nat):Option c_:=
 if ((iB ls av true&&iB ls bv false)||(iB ls av false&&iB ls bv true))&&(!((pA ls av).l.id==(pA ls (nx ls av)).l.id)&&
  (((((pA ls bv).l.id==(pA ls av).l.id)&&((pA ls (nx ls bv)).l.id==(pA ls (nx ls av)).l.id))||(((pA ls bv).l.id==(pA ls (nx ls av)).l.id)&&((pA ls (nx ls bv)).l.id==(pA ls av).l.id)))&&
  (!((av+2)%ls.length==bv)&&(!((bv+2)%ls.length==av)&&kQ F ls 0 [av,bv] av))))
 then some (Jy (pieces ls) [(pA ls av).l.id,(pA ls (nx ls av)).l.id]) else none
def aq5{F:Nat}{ls:ai}(g:cE F ls){av bv:Nat}(ha:av<ls.length)(hb:bv<ls.length){k c:Int}{l o:Bool}{sg:Int}:
  aO S 112 [.one (.p (fA F ls)),ql k av bv c l o sg] (kR (xh F ls av bv)):=by
 have hlen:=g.len;have bd:=bk ls;have fU:=Ds g ha;have fV:=Ds g hb;have pW:=dk (av+1) (show 0<ls.length by omega);have vC:=dk (bv+1) (show 0<ls.length by omega);have pc:=WH g [av,bv] af (e0:=av) rfl ha 0;simp only[eD,kL] at pc;have c0:((0:Nat):Int)=0:=rfl;rw[c0] at pc;have b1:=Jj g ha true;have b2:=Jj g hb false;have b3:=Jj g ha false;have b4:=Jj g hb true;obtain⟨P,hP⟩:=aN (ls:=pieces ls) (k:=av) aa;obtain⟨P2,hP2⟩:=aN (ls:=pieces ls) (k:=(av+1)%ls.length) aa;obtain⟨Q,hQ⟩:=aN (ls:=pieces ls) (k:=bv) aa;obtain⟨Q2,hQ2⟩:=aN (ls:=pieces ls) (k:=(bv+1)%ls.length) aa;have qI:=j7 hP;have anH:=j7 hP2;have kV:=j7 hQ;have anM:=j7 hQ2;have hz:¬((ls.length:Int)=0):=aa
 have e2w:IntKind.i64.wrap ((av:Int)+2)=((av+2:Nat):Int):=(xx (x:=(av:Int)+2) aa aa).trans aa;have e2m:=xv (av+2) ls.length;have e3w:IntKind.i64.wrap ((bv:Int)+2)=((bv+2:Nat):Int):=(xx (x:=(bv:Int)+2) aa aa).trans aa;have e3m:=xv (bv+2) ls.length;have lo:S.lone 7168704448=false:=ah;have pd:=acg (pieces ls) [P.l.id,P2.l.id] aa af (aej g);simp only[eD,kL] at pd;have x3:iB ls av true=true->iB ls av false=false:=fun x1=>by
  unfold iB at x1 |-;rw[iU hP] at x1 |-;simp only[cJ] at x1;have:P.l.over=true:=by simpa using x1.2.2.1
  simp[this]
 unfold xh;rw[iU hP,iU hQ,iU hP2,iU hQ2,Ug,Ug];have wz:=And.intro qI (And.intro kV (And.intro anH (And.intro anM (And.intro ha (And.intro hb (And.intro pW (And.intro vC (And.intro bd (And.intro e2w (And.intro e2m (And.intro hz (And.intro e3w e3m))))))))))));refine bY c112 ?_;simp only[go_sem,i112,s145,aJ b1,wz];refine ji [0,3,4,5,6,7,22] fun e1 h1=>?_;have M5:=h1 0 ae;have M7:=h1 3 ae;have M8:=h1 4 ae;have M9:=h1 5 ae;have Na:=h1 6 ae;have Nb:=h1 7 ae;have M6:=h1 22 ae;simp only[go_sem] at M5 M7 M8 M9 Na Nb M6;cases x1:iB ls av true with
 |true=>
  simp only[go_sem,s145,aJ b2,M5,M7,M6,x1];refine ji [0,3,4,5,6,7,28] fun e2 h2=>?_;have Sq:=h2 0 ae;have Ss:=h2 3 ae;have St:=h2 4 ae;have Su:=h2 5 ae;have Sv:=h2 6 ae;have Sw:=h2 7 ae;have Sr:=h2 28 ae;simp only[go_sem,M5,M7,M8,M9,Na,Nb] at Sq Ss St Su Sv Sw Sr;cases x2:iB ls bv false with
  |false=>have x3':=x3 x1;simp only[go_sem,s145,aJ b3,Sq,Ss,St,Su,Sr,x2,x3'];first|rfl|exact aL|exact⟨aL,rfl⟩|exact⟨aL,aL,rfl⟩
  |true=>
  simp only[go_sem,s134,aY fU bK,aY fV bK,wz,Pc.ps,Sq,Ss,Sw,Sr,x2];refine⟨aL,?_⟩;refine ji [0,3,4,5,6,9,10,11,12,76] fun e3 h3=>?_;have Sx:=h3 0 ae;have SB:=h3 3 ae;have SC:=h3 4 ae;have SD:=h3 5 ae;have SF:=h3 6 ae;have SI:=h3 9 ae;have Sy:=h3 10 ae;have Sz:=h3 11 ae;have SA:=h3 12 ae;have SG:=h3 76 ae;simp only[go_sem,Sq,Ss,St,Su,Sv] at Sx SB SC SD SF SI Sy Sz SA SG;cases c1:(P.l.id==P2.l.id) with
  |true=>simp only[go_sem,SC,SD,SG,c1];first|rfl|exact aL|exact⟨aL,rfl⟩|exact⟨aL,aL,rfl⟩
  |false=>
  simp only[go_sem,wz,Pc.ps,Sx,SI,Sz,SG,c1];refine ji [0,3,4,5,6,9,10,11,12,76,88] fun e4 h4=>?_;have Nc:=h4 0 ae;have Nh:=h4 3 ae;have Ni:=h4 4 ae;have Nj:=h4 5 ae;have Nk:=h4 6 ae;have No:=h4 9 ae;have Nd:=h4 10 ae;have Nf:=h4 11 ae;have Ng:=h4 12 ae;have Nl:=h4 76 ae;have Nn:=h4 88 ae;simp only[go_sem,Sx,SB,SC,SD,SF,SI,Sy,Sz,SA,SG,c1] at Nc Nh Ni Nj Nk No Nd Nf Ng Nl Nn;cases c2:(Q.l.id==P.l.id) with
  |true=>
   have c4:(Q.l.id==P2.l.id)=false:=by
    have h1:Q.l.id=P.l.id:=by simpa using c2
    rw[h1];exact c1
   simp only[go_sem,wz,Pc.ps,Nc,Nd,Ng,Nl,Nn,c2];refine ji [0,3,4,5,6,9,10,11,12,76,101] fun e5 h5=>?_;have SJ:=h5 0 ae;have SO:=h5 3 ae;have SP:=h5 4 ae;have SQ:=h5 5 ae;have SR:=h5 6 ae;have SU:=h5 9 ae;have SK:=h5 10 ae;have SM:=h5 11 ae;have SN:=h5 12 ae;have SS:=h5 76 ae;have SL:=h5 101 ae;simp only[go_sem,Nc,Nh,Ni,Nj,Nk,No,Nd,Nf,Ng,Nl] at SJ SO SP SQ SR SU SK SM SN SS SL;cases c3:(Q2.l.id==P2.l.id) with
   |false=>simp only[go_sem,wz,Pc.ps,SJ,SP,SQ,SU,SN,SS,SL,c3,c4];first|rfl|exact aL|exact⟨aL,rfl⟩|exact⟨aL,aL,rfl⟩
   |true=>
   simp only[go_sem,wz,SO,SR,SS,SL,c3];refine wy [0,3,4,5,6,11,12,137] fun e6 h6=>?_;have SV:=h6 0 ae;have SZ:=h6 3 ae;have S1:=h6 4 ae;have S2:=h6 5 ae;have S3:=h6 6 ae;have SW:=h6 11 ae;have SX:=h6 12 ae;have SY:=h6 137 ae;simp only[go_sem,SJ,SO,SP,SQ,SR,SM,SN] at SV SZ S1 S2 S3 SW SX SY;cases d1:((((av+2)%ls.length:Nat):Int)==(bv:Int)) with
   |true=>simp only[go_sem,S1,S2,SY,d1];first|rfl|exact aL|exact⟨aL,rfl⟩|exact⟨aL,aL,rfl⟩
   |false=>
   simp only[go_sem,wz,SZ,S3,SY,d1];refine wy [0,3,4,5,11,12,147] fun e7 h7=>?_;have S4:=h7 0 ae;have S8:=h7 3 ae;have S9:=h7 4 ae;have Ta:=h7 5 ae;have S5:=h7 11 ae;have S6:=h7 12 ae;have S7:=h7 147 ae;simp only[go_sem,SV,SZ,S1,S2,SW,SX] at S4 S8 S9 Ta S5 S6 S7;cases d2:((((bv+2)%ls.length:Nat):Int)==(av:Int)) with
   |true=>simp only[go_sem,S9,Ta,S7,d2];first|rfl|exact aL|exact⟨aL,rfl⟩|exact⟨aL,aL,rfl⟩
   |false=>
   cases d3:kQ F ls 0 [av,bv] av with
   |false=>rw[d3] at pc;simp only[go_sem,s142,dA pc,S4,S8,S9,Ta,S7,d2];first|rfl|exact aL|exact⟨aL,rfl⟩|exact⟨aL,aL,rfl⟩
   |true=>rw[d3] at pc;simp only[go_sem,s142,dA pc,s143,S4,S8,S5,S6,S7,d2];refine⟨aL,?_⟩;refine sX pd lo (.inr (tP (Er _))) fun cc cZ gc jL=>?_;simp only[go_sem];exact za gc
  |false=>
   simp only[go_sem,wz,Pc.ps,Nc,No,Ng,Nl,Nn,c2];refine ji [0,3,4,5,6,10,11,12,76,101,113] fun e8 h8=>?_;have Tb:=h8 0 ae;have Th:=h8 3 ae;have Ti:=h8 4 ae;have Tj:=h8 5 ae;have Tk:=h8 6 ae;have Tc:=h8 10 ae;have Te:=h8 11 ae;have Tg:=h8 12 ae;have Tl:=h8 76 ae;have Td:=h8 101 ae;have Tf:=h8 113 ae;simp only[go_sem,Nc,Nh,Ni,Nj,Nk,Nd,Nf,Ng,Nl] at Tb Th Ti Tj Tk Tc Te Tg Tl Td Tf;cases c4:(Q.l.id==P2.l.id) with
   |false=>simp only[go_sem,Ti,Tj,Tl,Td,Tf,c4];first|rfl|exact aL|exact⟨aL,rfl⟩|exact⟨aL,aL,rfl⟩
   |true=>
   simp only[go_sem,wz,Pc.ps,Tb,Tc,Te,Tl,Td,Tf,c4];refine abb [0,3,4,5,6,11,12] fun e9 h9=>?_;have Tm:=h9 0 ae;have Tp:=h9 3 ae;have Tq:=h9 4 ae;have Ts:=h9 5 ae;have Tt:=h9 6 ae;have Tn:=h9 11 ae;have To:=h9 12 ae;simp only[go_sem,Tb,Th,Ti,Tj,Tk,Te,Tg] at Tm Tp Tq Ts Tt Tn To;cases c5:(Q2.l.id==P.l.id) with
   |false=>simp only[go_sem,Tq,Ts];first|rfl|exact aL|exact⟨aL,rfl⟩|exact⟨aL,aL,rfl⟩
   |true=>
   simp only[go_sem,wz,Tp,Tt];refine wy [0,3,4,5,6,11,12,137] fun mY ek=>?_;have QC:=ek 0 ae;have QG:=ek 3 ae;have QH:=ek 4 ae;have QI:=ek 5 ae;have QJ:=ek 6 ae;have QD:=ek 11 ae;have QE:=ek 12 ae;have QF:=ek 137 ae;simp only[go_sem,Tm,Tp,Tq,Ts,Tt,Tn,To] at QC QG QH QI QJ QD QE QF;cases d1:((((av+2)%ls.length:Nat):Int)==(bv:Int)) with
   |true=>simp only[go_sem,QH,QI,QF,d1];first|rfl|exact aL|exact⟨aL,rfl⟩|exact⟨aL,aL,rfl⟩
   |false=>
   simp only[go_sem,wz,QG,QJ,QF,d1];refine wy [0,3,4,5,11,12,147] fun JA gD=>?_;have QK:=gD 0 ae;have QO:=gD 3 ae;have QP:=gD 4 ae;have QQ:=gD 5 ae;have QL:=gD 11 ae;have QM:=gD 12 ae;have QN:=gD 147 ae;simp only[go_sem,QC,QG,QH,QI,QD,QE] at QK QO QP QQ QL QM QN;cases d2:((((bv+2)%ls.length:Nat):Int)==(av:Int)) with
   |true=>simp only[go_sem,QP,QQ,QN,d2];first|rfl|exact aL|exact⟨aL,rfl⟩|exact⟨aL,aL,rfl⟩
   |false=>
   cases d3:kQ F ls 0 [av,bv] av with
   |false=>rw[d3] at pc;simp only[go_sem,s142,dA pc,QK,QO,QP,QQ,QN,d2];first|rfl|exact aL|exact⟨aL,rfl⟩|exact⟨aL,aL,rfl⟩
   |true=>rw[d3] at pc;simp only[go_sem,s142,dA pc,s143,QK,QO,QL,QM,QN,d2];refine⟨aL,?_⟩;refine sX pd lo (.inr (tP (Er _))) fun cc cZ gc jL=>?_;simp only[go_sem];exact za gc
 |false=>
  simp only[go_sem,s145,aJ b3,M5,M7,M6,x1];refine ji [0,3,4,5,6,7,28,33] fun GX jA=>?_;have JH:=jA 0 ae;have JJ:=jA 3 ae;have JL:=jA 4 ae;have JM:=jA 5 ae;have JN:=jA 6 ae;have JO:=jA 7 ae;have JI:=jA 28 ae;have JK:=jA 33 ae;simp only[go_sem,M5,M7,M8,M9,Na,Nb] at JH JJ JL JM JN JO JI JK;cases x4:iB ls av false with
  |false=>simp only[go_sem,JL,JM,JI,JK,x4];first|rfl|exact aL|exact⟨aL,rfl⟩|exact⟨aL,aL,rfl⟩
  |true=>
  simp only[go_sem,s145,aJ b4,JH,JJ,JI,JK,x4];cases x5:iB ls bv true with
  |false=>simp only[go_sem,JL,JM];first|rfl|exact aL|exact⟨aL,rfl⟩|exact⟨aL,aL,rfl⟩
  |true=>
  simp only[go_sem,s134,aY fU bK,aY fV bK,wz,Pc.ps,JH,JJ,JO];refine⟨aL,?_⟩;refine ji [0,3,4,5,6,9,10,11,12,76] fun e13 sZ=>?_;have QR:=sZ 0 ae;have QV:=sZ 3 ae;have QW:=sZ 4 ae;have QX:=sZ 5 ae;have QY:=sZ 6 ae;have Q0:=sZ 9 ae;have QS:=sZ 10 ae;have QT:=sZ 11 ae;have QU:=sZ 12 ae;have QZ:=sZ 76 ae;simp only[go_sem,JH,JJ,JL,JM,JN] at QR QV QW QX QY Q0 QS QT QU QZ;cases c1:(P.l.id==P2.l.id) with
  |true=>simp only[go_sem,QW,QX,QZ,c1];first|rfl|exact aL|exact⟨aL,rfl⟩|exact⟨aL,aL,rfl⟩
  |false=>
  simp only[go_sem,wz,Pc.ps,QR,Q0,QT,QZ,c1];refine ji [0,3,4,5,6,9,10,11,12,76,88] fun e14 mZ=>?_;have MS:=mZ 0 ae;have MW:=mZ 3 ae;have MX:=mZ 4 ae;have MY:=mZ 5 ae;have MZ:=mZ 6 ae;have M4:=mZ 9 ae;have MT:=mZ 10 ae;have MU:=mZ 11 ae;have MV:=mZ 12 ae;have M1:=mZ 76 ae;have M3:=mZ 88 ae;simp only[go_sem,QR,QV,QW,QX,QY,Q0,QS,QT,QU,QZ,c1] at MS MW MX MY MZ M4 MT MU MV M1 M3;cases c2:(Q.l.id==P.l.id) with
  |true=>
   have c4:(Q.l.id==P2.l.id)=false:=by
    have h1:Q.l.id=P.l.id:=by simpa using c2
    rw[h1];exact c1
   simp only[go_sem,wz,Pc.ps,MS,MT,MV,M1,M3,c2];refine ji [0,3,4,5,6,9,10,11,12,76,101] fun e15 lU=>?_;have Q1:=lU 0 ae;have Q7:=lU 3 ae;have Q8:=lU 4 ae;have Q9:=lU 5 ae;have Ra:=lU 6 ae;have Re:=lU 9 ae;have Q3:=lU 10 ae;have Q5:=lU 11 ae;have Q6:=lU 12 ae;have Rc:=lU 76 ae;have Q4:=lU 101 ae;simp only[go_sem,MS,MW,MX,MY,MZ,M4,MT,MU,MV,M1] at Q1 Q7 Q8 Q9 Ra Re Q3 Q5 Q6 Rc Q4;cases c3:(Q2.l.id==P2.l.id) with
   |false=>simp only[go_sem,wz,Pc.ps,Q1,Q8,Q9,Re,Q6,Rc,Q4,c3,c4];first|rfl|exact aL|exact⟨aL,rfl⟩|exact⟨aL,aL,rfl⟩
   |true=>
   simp only[go_sem,wz,Q7,Ra,Rc,Q4,c3];refine wy [0,3,4,5,6,11,12,137] fun e16 qH=>?_;have Rf:=qH 0 ae;have Rj:=qH 3 ae;have Rk:=qH 4 ae;have Rm:=qH 5 ae;have Rn:=qH 6 ae;have Rg:=qH 11 ae;have Rh:=qH 12 ae;have Ri:=qH 137 ae;simp only[go_sem,Q1,Q7,Q8,Q9,Ra,Q5,Q6] at Rf Rj Rk Rm Rn Rg Rh Ri;cases d1:((((av+2)%ls.length:Nat):Int)==(bv:Int)) with
   |true=>simp only[go_sem,Rk,Rm,Ri,d1];first|rfl|exact aL|exact⟨aL,rfl⟩|exact⟨aL,aL,rfl⟩
   |false=>
   simp only[go_sem,wz,Rj,Rn,Ri,d1];refine wy [0,3,4,5,11,12,147] fun JB iw=>?_;have Ro:=iw 0 ae;have Rs:=iw 3 ae;have Ru:=iw 4 ae;have Rv:=iw 5 ae;have Rp:=iw 11 ae;have Rq:=iw 12 ae;have Rr:=iw 147 ae;simp only[go_sem,Rf,Rj,Rk,Rm,Rg,Rh] at Ro Rs Ru Rv Rp Rq Rr;cases d2:((((bv+2)%ls.length:Nat):Int)==(av:Int)) with
   |true=>simp only[go_sem,Ru,Rv,Rr,d2];first|rfl|exact aL|exact⟨aL,rfl⟩|exact⟨aL,aL,rfl⟩
   |false=>
   cases d3:kQ F ls 0 [av,bv] av with
   |false=>rw[d3] at pc;simp only[go_sem,s142,dA pc,Ro,Rs,Ru,Rv,Rr,d2];first|rfl|exact aL|exact⟨aL,rfl⟩|exact⟨aL,aL,rfl⟩
   |true=>rw[d3] at pc;simp only[go_sem,s142,dA pc,s143,Ro,Rs,Rp,Rq,Rr,d2];refine⟨aL,?_⟩;refine sX pd lo (.inr (tP (Er _))) fun cc cZ gc jL=>?_;simp only[go_sem];exact za gc
  |false=>
   simp only[go_sem,wz,Pc.ps,MS,M4,MV,M1,M3,c2];refine ji [0,3,4,5,6,10,11,12,76,101,113] fun JC gE=>?_;have Rw:=gE 0 ae;have RQ:=gE 3 ae;have RR:=gE 4 ae;have RW:=gE 5 ae;have RX:=gE 6 ae;have Rx:=gE 10 ae;have Rz:=gE 11 ae;have RP:=gE 12 ae;have RY:=gE 76 ae;have Ry:=gE 101 ae;have RO:=gE 113 ae;simp only[go_sem,MS,MW,MX,MY,MZ,MT,MU,MV,M1] at Rw RQ RR RW RX Rx Rz RP RY Ry RO;cases c4:(Q.l.id==P2.l.id) with
   |false=>simp only[go_sem,RR,RW,RY,Ry,RO,c4];first|rfl|exact aL|exact⟨aL,rfl⟩|exact⟨aL,aL,rfl⟩
   |true=>
   simp only[go_sem,wz,Pc.ps,Rw,Rx,Rz,RY,Ry,RO,c4];refine abb [0,3,4,5,6,11,12] fun e19 gV=>?_;have RZ:=gV 0 ae;have R6:=gV 3 ae;have R7:=gV 4 ae;have R8:=gV 5 ae;have R9:=gV 6 ae;have R0:=gV 11 ae;have R5:=gV 12 ae;simp only[go_sem,Rw,RQ,RR,RW,RX,Rz,RP] at RZ R6 R7 R8 R9 R0 R5;cases c5:(Q2.l.id==P.l.id) with
   |false=>simp only[go_sem,R7,R8];first|rfl|exact aL|exact⟨aL,rfl⟩|exact⟨aL,aL,rfl⟩
   |true=>
   simp only[go_sem,wz,R6,R9];refine wy [0,3,4,5,6,11,12,137] fun e20 zb=>?_;have Sa:=zb 0 ae;have Se:=zb 3 ae;have Sf:=zb 4 ae;have Sg:=zb 5 ae;have Si:=zb 6 ae;have Sb:=zb 11 ae;have Sc:=zb 12 ae;have Sd:=zb 137 ae;simp only[go_sem,RZ,R6,R7,R8,R9,R0,R5] at Sa Se Sf Sg Si Sb Sc Sd;cases d1:((((av+2)%ls.length:Nat):Int)==(bv:Int)) with
   |true=>simp only[go_sem,Sf,Sg,Sd,d1];first|rfl|exact aL|exact⟨aL,rfl⟩|exact⟨aL,aL,rfl⟩
   |false=>
   simp only[go_sem,wz,Se,Si,Sd,d1];refine wy [0,3,4,5,11,12,147] fun e21 Hg=>?_;have Sj:=Hg 0 ae;have Sn:=Hg 3 ae;have So:=Hg 4 ae;have Sp:=Hg 5 ae;have Sk:=Hg 11 ae;have Sl:=Hg 12 ae;have Sm:=Hg 147 ae;simp only[go_sem,Sa,Se,Sf,Sg,Sb,Sc] at Sj Sn So Sp Sk Sl Sm;cases d2:((((bv+2)%ls.length:Nat):Int)==(av:Int)) with
   |true=>simp only[go_sem,So,Sp,Sm,d2];first|rfl|exact aL|exact⟨aL,rfl⟩|exact⟨aL,aL,rfl⟩
   |false=>
   cases d3:kQ F ls 0 [av,bv] av with
   |false=>rw[d3] at pc;simp only[go_sem,s142,dA pc,Sj,Sn,So,Sp,Sm,d2];first|rfl|exact aL|exact⟨aL,rfl⟩|exact⟨aL,aL,rfl⟩
   |true=>rw[d3] at pc;simp only[go_sem,s142,dA pc,s143,Sj,Sn,Sk,Sl,Sm,d2];refine⟨aL,?_⟩;refine sX pd lo (.inr (tP (Er _))) fun cc cZ gc jL=>?_;simp only[go_sem];exact za gc
def ang{Q:eK}{ak:Env}{aj:aE}{os:g_}{d:w_}{f id ty z:Nat}{es:s_}{c:C}(Yf:∀ {al:Al} {aj:aE},es=[]\/al.ok id=true->grown id ty z es (.one c) aj->∃v ao,jd S f [.one c] al aj v ao/\Iu id ty z es c aj v ao)(hg:grown id ty z es (.one c) aj)
  (hK:∀ao,grown id ty z es.reverse (.one c) ao->(∀i,i≠id->ao i=aj i)->RN S .all os Q (put ak d (.tup [])) ao):gP S .all (.sc f [.one c]) d os Q ak aj:=by
 refine sY (P:=Iu id ty z es c aj) Ba (Yf ?_ hg) ?_
 .rcases UT hg with ⟨h,_⟩|h
  .exact .inl h
  exact .inr (vg (by simp[h]))
 rintro v ao ⟨rfl,h1,h2⟩
 exact hK ao h1 h2
abbrev LS(x k:Nat)(sg:Int)(ov:Bool):Pc:=⟨⟨2,0,0,((x+k:Nat):Int),sg,ov⟩,false⟩
abbrev F1(F:Nat)(ls:ai)(d:Nat):Nat:=(qj F ls).getD d 0
abbrev pmF(x:Nat)(sg:Int)(o:Bool):c_:=[LS x 1 sg o,LS x 2 (-sg) o]
abbrev pmS(x:Nat)(sg:Int)(o same:Bool):c_:=if same then [LS x 2 (-sg) (!o),LS x 1 sg (!o)] else [LS x 1 sg (!o),LS x 2 (-sg) (!o)]
def pmV(ls:ai)(av bv:Nat)(l o same other:Bool):Option c_:=
 if !same&& !other then none
 else
  let sg:Int:=if o==(same==l) then 1 else -1
  let first:=pmF (aq Let.aD ls/2) sg o
  let second:=pmS (aq Let.aD ls/2) sg o same
  some (if av<bv then FX (FX (pieces ls) second bv) first av else FX (FX (pieces ls) first av) second bv)
def pmR(F:Nat)(ls:ai)(av bv:Nat)(l o:Bool):Option c_:=
 if l then pmV ls av bv l o ((F1 F ls (2*bv):Int)==(F1 F ls (2*av):Int)) ((F1 F ls (2*bv+1):Int)==(F1 F ls (2*av):Int))
 else pmV ls av bv l o ((F1 F ls (2*bv+1):Int)==(F1 F ls (2*av+1):Int)) ((F1 F ls (2*bv):Int)==(F1 F ls (2*av+1):Int))
abbrev MA(F:Nat):V:=.agg [.p (.int .i64 F),.p (.sl [])]
def zz:¬(((0:Int))<((0:Nat):Int)):=ae
def zm:IntKind.i64.wrap (2*((0:Nat):Int))=((0:Nat):Int):=ae
def zr:(0:Nat)<=140737488355328:=ae
def zr8:(0:Nat)*8<=140737488355328:=ae
section
variable {F:Nat}
def akQ(hF:F<=40):cX (F:Int) []=0:=by unfold cX;rw[aC (by simp[aq]),aC aa,aG rfl]
def ast(hF:F<=40):aO S 40 [MA F] (Bl (AM F) (.int .i64 0)):=by have pr:=UU F [] (cA _);rw[Pg (akQ hF),aG rfl] at pr;exact pr
def akj:aO S 99 [.one (.p (AM F))] (.one (.own 4 1 [])):=by refine bY c99 ?_;simp only[go_sem,i99];refine sJ ?_;simp only[go_sem,i99_l1,i99_r2,zz];rfl
def amB(hF:F<=40):aO S 88 [MA F] (.tup [.one (bh BE 5 []),.one (.p (.int .i64 0))]):=by
 have pr:=ast hF;have hLB:∀aj:aE,land aj [] 5632384064 ((RV.one (.own 4 1 [])).iu (S.lone 5632384064))=some (.one (.hsl 5632384064 ((aj 5632384064).1+1) 1 0 0),[(5632384064,((aj 5632384064).1+1,some (.arr 4 1 [])))]):=by intro aj;rw[show S.lone 5632384064=false by kernel_rfl];rfl
 refine bY c88 ?_;simp only[go_sem,i88,s40,aY pr bK,s99,aY akj (hLB _),zm,zr];refine sJ ?_;simp only[go_sem,i88_l1,i88_r2,zz];rfl
def aqU(hF:F<=40):aO S 70 [MA F] (Bl (fA F []) (.int .i64 0)):=by
 have pf:=amB hF;have pps:aO S 7 [MA F] (ri ((0:Nat):Int)):=O8 F [] (cA _);have Cx:aO S 8 [MA F] (ri ((0:Nat):Int)):=Qo F [] (cA _);have lo:S.lone 4480064064=false:=ah;have wF:=df (n:=F) aa;have r2:(F+1)*8<=140737488355328:=aa;have e2:List.replicate (F+1) [PV.int .i64 0]=nP (counts [] F):=by rw[<- WJ,fv,WK];simp
 refine bY c70 ?_;simp only[go_sem,i70,s88];refine adj pf lo fun cf pK wK s0=>?_;have Ml:=s0 4480000000 ae;simp only[go_sem] at Ml;obtain⟨_,hv⟩|⟨h,_⟩:=wK
 .cases hv;simp only[go_sem,Ml,wF,r2,zm,zr,s7,s8,dI pps,dI Cx,e2];refine⟨aL,?_⟩;refine sJ ?_;simp only[go_sem,i70_l1,i70_r6,zz];refine sJ ?_;simp only[go_sem,i70_l4,i70_r5,zz];have t2:List.take (F+1) (nP (counts [] F))=nP (counts [] F):=gT (by simp[counts]);have n2:F+1<=(counts [] F).length:=by simp[counts]
  simp only[go_sem,j6,uH,wD,pO,nU,kJ,t2,n2];rfl
 exact absurd rfl h
end
section
variable {F:Nat}
end
abbrev circ(b:Nat):ai:=[⟨1,b,1,0,0,false⟩,⟨1,b,2,0,0,false⟩]
end Go.Abs
