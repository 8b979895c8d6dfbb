/- A part. -/
import Derived.Test.YtniibcmpbldbcaaGreatDoorWp
set_option linter.all false
set_option maxRecDepth 100000
set_option maxHeartbeats 16000000
namespace Go.Abs
theorem Pe(a b:Nat):(a==b)=((a:Int)==(b:Int)):=by
 by_cases h:a=b
 .simp[h]
 have:(a==b)=false:=by simpa using h
 rw[this];symm;simp;omega
def CM(F:Nat)(ls:List Let)(av bv:Nat):Option (List Pc):=
 if ((lM ls av true&&lM ls bv false)||(lM ls av false&&lM ls bv true))&&(!((pA ls av).l.id==(pA ls (nx ls av)).l.id)&&
  (((((pA ls bv).l.id==(pA ls av).l.id)&&((pA ls (nx ls bv)).l.id==(pA ls (nx ls av)).l.id))||(((pA ls bv).l.id==(pA ls (nx ls av)).l.id)&&((pA ls (nx ls bv)).l.id==(pA ls av).l.id)))&&
  (!((av+2)%ls.length==bv)&&(!((bv+2)%ls.length==av)&&tF F ls 0 [av,bv] av))))
 then some (FL (pieces ls) [(pA ls av).l.id,(pA ls (nx ls av)).l.id]) else none
theorem ane{F:Nat}{ls:List Let}(g:ct F ls){av bv:Nat}(ha:av<ls.length)(hb:bv<ls.length){k c:Int}{l o:Bool}{sg:Int}:
  aH S 73 [.one (.p (dj F ls)),gK k av bv c l o sg] (kR (CM F ls av bv)):=by
 have hlen:=g.len;have bh:=eW ls;have pe1:=BW g ha;have pe2:=BW g hb;have nz:=dw (av+1) (show 0<ls.length by omega);have mJ:=dw (bv+1) (show 0<ls.length by omega);have pc:=Rm g [av,bv] af (e0:=av) rfl ha 0;simp only[dG,lK] at pc;have c0:((0:Nat):Int)=0:=rfl;rw[c0] at pc;have b1:=HH g ha true;have b2:=HH g hb false;have b3:=HH g ha false;have b4:=HH g hb true;obtain⟨P,hP⟩:=aI (ls:=pieces ls) (k:=av) aa;obtain⟨P2,hP2⟩:=aI (ls:=pieces ls) (k:=(av+1)%ls.length) aa;obtain⟨Q,hQ⟩:=aI (ls:=pieces ls) (k:=bv) aa;obtain⟨Q2,hQ2⟩:=aI (ls:=pieces ls) (k:=(bv+1)%ls.length) aa;have xU:=iO hP;have aj0:=iO hP2;have od:=iO hQ;have aj6:=iO hQ2;have hz:¬((ls.length:Int)=0):=aa
 have e2w:IntKind.i64.wrap ((av:Int)+2)=((av+2:Nat):Int):=(sF (x:=(av:Int)+2) aa aa).trans aa;have e2m:=uj (av+2) ls.length;have e3w:IntKind.i64.wrap ((bv:Int)+2)=((bv+2:Nat):Int):=(sF (x:=(bv:Int)+2) aa aa).trans aa;have e3m:=uj (bv+2) ls.length;have lo:S.lone 4672704448=false:=ah;have pd:=YC (pieces ls) [P.l.id,P2.l.id] aa af (abq g);simp only[dG,lK] at pd;have x3:lM ls av true=true->lM ls av false=false:=fun x1=>by
  unfold lM at x1 ⊢;rw[iW hP] at x1 ⊢;simp only[bQ] at x1;have:P.l.over=true:=by simpa using x1.2.2.1
  simp[this]
 unfold CM;rw[iW hP,iW hQ,iW hP2,iW hQ2,Pe,Pe];have wz:=And.intro xU (And.intro od (And.intro aj0 (And.intro aj6 (And.intro ha (And.intro hb (And.intro nz (And.intro mJ (And.intro bh (And.intro e2w (And.intro e2m (And.intro hz (And.intro e3w e3m))))))))))));refine ba c73 ?_;simp only[go_sem,i73,s115,cH b1,wz];refine eJ [0,3,4,5,6,7,22] fun e1 h1=>?_;have KZ:=h1 0 ae;have K0:=h1 3 ae;have SR:=h1 4 ae;have SS:=h1 5 ae;have SU:=h1 6 ae;have SV:=h1 7 ae;have SQ:=h1 22 ae;simp only[go_sem] at KZ K0 SR SS SU SV SQ;cases x1:lM ls av true with
 |true=>
  simp only[go_sem,s115,cH b2,KZ,K0,SQ,x1];refine eJ [0,3,4,5,6,7,28] fun e2 h2=>?_;have Ot:=h2 0 ae;have Ou:=h2 3 ae;have S7:=h2 4 ae;have S8:=h2 5 ae;have Zy:=h2 6 ae;have Zz:=h2 7 ae;have S6:=h2 28 ae;simp only[go_sem,KZ,K0,SR,SS,SU,SV] at Ot Ou S7 S8 Zy Zz S6;cases x2:lM ls bv false with
  |false=>have x3':=x3 x1;simp only[go_sem,s115,cH b3,Ot,Ou,S7,S8,S6,x2,x3'];first|rfl|exact aD|exact⟨aD,rfl⟩|exact⟨aD,aD,rfl⟩
  |true=>
  simp only[go_sem,s104,dB pe1 iz,dB pe2 iz,wz,Pc.ps,Ot,Ou,Zz,S6,x2];refine⟨aD,?_⟩;refine eJ [0,3,4,5,6,9,10,11,12,76] fun e3 h3=>?_;have S9:=h3 0 ae;have ZC:=h3 3 ae;have Tb:=h3 4 ae;have Tc:=h3 5 ae;have ZD:=h3 6 ae;have Td:=h3 9 ae;have ZA:=h3 10 ae;have Ta:=h3 11 ae;have ZB:=h3 12 ae;have Ov:=h3 76 ae;simp only[go_sem,Ot,Ou,S7,S8,Zy] at S9 ZC Tb Tc ZD Td ZA Ta ZB Ov;cases c1:(P.l.id==P2.l.id) with
  |true=>simp only[go_sem,Tb,Tc,Ov,c1];first|rfl|exact aD|exact⟨aD,rfl⟩|exact⟨aD,aD,rfl⟩
  |false=>
  simp only[go_sem,wz,Pc.ps,S9,Td,Ta,Ov,c1];refine eJ [0,3,4,5,6,9,10,11,12,76,88] fun e4 h4=>?_;have K4:=h4 0 ae;have Tf:=h4 3 ae;have Tg:=h4 4 ae;have Th:=h4 5 ae;have Ti:=h4 6 ae;have Tk:=h4 9 ae;have Ow:=h4 10 ae;have Te:=h4 11 ae;have K5:=h4 12 ae;have K6:=h4 76 ae;have Tj:=h4 88 ae;simp only[go_sem,S9,ZC,Tb,Tc,ZD,Td,ZA,Ta,ZB,Ov,c1] at K4 Tf Tg Th Ti Tk Ow Te K5 K6 Tj;cases c2:(Q.l.id==P.l.id) with
  |true=>
   have c4:(Q.l.id==P2.l.id)=false:=by
    have h1:Q.l.id=P.l.id:=by simpa using c2
    rw[h1];exact c1
   simp only[go_sem,wz,Pc.ps,K4,Ow,K5,K6,Tj,c2];refine eJ [0,3,4,5,6,9,10,11,12,76,101] fun e5 h5=>?_;have Tl:=h5 0 ae;have To:=h5 3 ae;have Tp:=h5 4 ae;have Tq:=h5 5 ae;have Ts:=h5 6 ae;have ZF:=h5 9 ae;have ai2:=h5 10 ae;have ZE:=h5 11 ae;have Tn:=h5 12 ae;have Tt:=h5 76 ae;have Tm:=h5 101 ae;simp only[go_sem,K4,Tf,Tg,Th,Ti,Tk,Ow,Te,K5,K6] at Tl To Tp Tq Ts ZF ai2 ZE Tn Tt Tm;cases c3:(Q2.l.id==P2.l.id) with
   |false=>simp only[go_sem,wz,Pc.ps,Tl,Tp,Tq,ZF,Tn,Tt,Tm,c3,c4];first|rfl|exact aD|exact⟨aD,rfl⟩|exact⟨aD,aD,rfl⟩
   |true=>
   simp only[go_sem,wz,To,Ts,Tt,Tm,c3];refine rO [0,3,4,5,6,11,12,137] fun e6 h6=>?_;have ZG:=h6 0 ae;have Tv:=h6 3 ae;have Tw:=h6 4 ae;have Tx:=h6 5 ae;have ZJ:=h6 6 ae;have ZH:=h6 11 ae;have ZI:=h6 12 ae;have Tu:=h6 137 ae;simp only[go_sem,Tl,To,Tp,Tq,Ts,ZE,Tn] at ZG Tv Tw Tx ZJ ZH ZI Tu;cases d1:((((av+2)%ls.length:Nat):Int)==(bv:Int)) with
   |true=>simp only[go_sem,Tw,Tx,Tu,d1];first|rfl|exact aD|exact⟨aD,rfl⟩|exact⟨aD,aD,rfl⟩
   |false=>
   simp only[go_sem,wz,Tv,ZJ,Tu,d1];refine rO [0,3,4,5,11,12,147] fun e7 h7=>?_;have Ty:=h7 0 ae;have Tz:=h7 3 ae;have TA:=h7 4 ae;have TB:=h7 5 ae;have ZK:=h7 11 ae;have ZL:=h7 12 ae;have Ox:=h7 147 ae;simp only[go_sem,ZG,Tv,Tw,Tx,ZH,ZI] at Ty Tz TA TB ZK ZL Ox;cases d2:((((bv+2)%ls.length:Nat):Int)==(av:Int)) with
   |true=>simp only[go_sem,TA,TB,Ox,d2];first|rfl|exact aD|exact⟨aD,rfl⟩|exact⟨aD,aD,rfl⟩
   |false=>
   cases d3:tF F ls 0 [av,bv] av with
   |false=>rw[d3] at pc;simp only[go_sem,s112,mZ pc,Ty,Tz,TA,TB,Ox,d2];first|rfl|exact aD|exact⟨aD,rfl⟩|exact⟨aD,aD,rfl⟩
   |true=>rw[d3] at pc;simp only[go_sem,s112,mZ pc,s113,Ty,Tz,ZK,ZL,Ox,d2];refine⟨aD,?_⟩;refine jH pd lo (.inr (fh (gk _))) fun cc bc gc hbk=>?_;simp only[go_sem];exact jB gc
  |false=>
   simp only[go_sem,wz,Pc.ps,K4,Tk,K5,K6,Tj,c2];refine eJ [0,3,4,5,6,10,11,12,76,101,113] fun e8 h8=>?_;have TC:=h8 0 ae;have ZO:=h8 3 ae;have TH:=h8 4 ae;have TI:=h8 5 ae;have ZP:=h8 6 ae;have ZM:=h8 10 ae;have TE:=h8 11 ae;have ZN:=h8 12 ae;have TJ:=h8 76 ae;have TD:=h8 101 ae;have TG:=h8 113 ae;simp only[go_sem,K4,Tf,Tg,Th,Ti,Ow,Te,K5,K6] at TC ZO TH TI ZP ZM TE ZN TJ TD TG;cases c4:(Q.l.id==P2.l.id) with
   |false=>simp only[go_sem,TH,TI,TJ,TD,TG,c4];first|rfl|exact aD|exact⟨aD,rfl⟩|exact⟨aD,aD,rfl⟩
   |true=>
   simp only[go_sem,wz,Pc.ps,TC,ZM,TE,TJ,TD,TG,c4];refine XE [0,3,4,5,6,11,12] fun e9 h9=>?_;have ZQ:=h9 0 ae;have TK:=h9 3 ae;have TL:=h9 4 ae;have TM:=h9 5 ae;have TN:=h9 6 ae;have ZR:=h9 11 ae;have ZS:=h9 12 ae;simp only[go_sem,TC,ZO,TH,TI,ZP,TE,ZN] at ZQ TK TL TM TN ZR ZS;cases c5:(Q2.l.id==P.l.id) with
   |false=>simp only[go_sem,TL,TM];first|rfl|exact aD|exact⟨aD,rfl⟩|exact⟨aD,aD,rfl⟩
   |true=>
   simp only[go_sem,wz,TK,TN];refine rO [0,3,4,5,6,11,12,137] fun FM dm=>?_;have Y1:=dm 0 ae;have RX:=dm 3 ae;have RY:=dm 4 ae;have RZ:=dm 5 ae;have Y4:=dm 6 ae;have Y2:=dm 11 ae;have Y3:=dm 12 ae;have RW:=dm 137 ae;simp only[go_sem,ZQ,TK,TL,TM,TN,ZR,ZS] at Y1 RX RY RZ Y4 Y2 Y3 RW;cases d1:((((av+2)%ls.length:Nat):Int)==(bv:Int)) with
   |true=>simp only[go_sem,RY,RZ,RW,d1];first|rfl|exact aD|exact⟨aD,rfl⟩|exact⟨aD,aD,rfl⟩
   |false=>
   simp only[go_sem,wz,RX,Y4,RW,d1];refine rO [0,3,4,5,11,12,147] fun e11 eF=>?_;have R0:=eF 0 ae;have R5:=eF 3 ae;have R6:=eF 4 ae;have R7:=eF 5 ae;have Y5:=eF 11 ae;have Y6:=eF 12 ae;have Og:=eF 147 ae;simp only[go_sem,Y1,RX,RY,RZ,Y2,Y3] at R0 R5 R6 R7 Y5 Y6 Og;cases d2:((((bv+2)%ls.length:Nat):Int)==(av:Int)) with
   |true=>simp only[go_sem,R6,R7,Og,d2];first|rfl|exact aD|exact⟨aD,rfl⟩|exact⟨aD,aD,rfl⟩
   |false=>
   cases d3:tF F ls 0 [av,bv] av with
   |false=>rw[d3] at pc;simp only[go_sem,s112,mZ pc,R0,R5,R6,R7,Og,d2];first|rfl|exact aD|exact⟨aD,rfl⟩|exact⟨aD,aD,rfl⟩
   |true=>rw[d3] at pc;simp only[go_sem,s112,mZ pc,s113,R0,R5,Y5,Y6,Og,d2];refine⟨aD,?_⟩;refine jH pd lo (.inr (fh (gk _))) fun cc bc gc hbk=>?_;simp only[go_sem];exact jB gc
 |false=>
  simp only[go_sem,s115,cH b3,KZ,K0,SQ,x1];refine eJ [0,3,4,5,6,7,28,33] fun e12 iH=>?_;have Oh:=iH 0 ae;have Oi:=iH 3 ae;have Oj:=iH 4 ae;have Ol:=iH 5 ae;have Y7:=iH 6 ae;have Y8:=iH 7 ae;have R8:=iH 28 ae;have R9:=iH 33 ae;simp only[go_sem,KZ,K0,SR,SS,SU,SV] at Oh Oi Oj Ol Y7 Y8 R8 R9;cases x4:lM ls av false with
  |false=>simp only[go_sem,Oj,Ol,R8,R9,x4];first|rfl|exact aD|exact⟨aD,rfl⟩|exact⟨aD,aD,rfl⟩
  |true=>
  simp only[go_sem,s115,cH b4,Oh,Oi,R8,R9,x4];cases x5:lM ls bv true with
  |false=>simp only[go_sem,Oj,Ol];first|rfl|exact aD|exact⟨aD,rfl⟩|exact⟨aD,aD,rfl⟩
  |true=>
  simp only[go_sem,s104,dB pe1 iz,dB pe2 iz,wz,Pc.ps,Oh,Oi,Y8];refine⟨aD,?_⟩;refine eJ [0,3,4,5,6,9,10,11,12,76] fun e13 sR=>?_;have Sa:=sR 0 ae;have Zb:=sR 3 ae;have Sc:=sR 4 ae;have Sd:=sR 5 ae;have Zc:=sR 6 ae;have Se:=sR 9 ae;have Y9:=sR 10 ae;have Sb:=sR 11 ae;have Za:=sR 12 ae;have Om:=sR 76 ae;simp only[go_sem,Oh,Oi,Oj,Ol,Y7] at Sa Zb Sc Sd Zc Se Y9 Sb Za Om;cases c1:(P.l.id==P2.l.id) with
  |true=>simp only[go_sem,Sc,Sd,Om,c1];first|rfl|exact aD|exact⟨aD,rfl⟩|exact⟨aD,aD,rfl⟩
  |false=>
  simp only[go_sem,wz,Pc.ps,Sa,Se,Sb,Om,c1];refine eJ [0,3,4,5,6,9,10,11,12,76,88] fun e14 mu=>?_;have KW:=mu 0 ae;have Sg:=mu 3 ae;have Sh:=mu 4 ae;have Si:=mu 5 ae;have Sj:=mu 6 ae;have Sl:=mu 9 ae;have On:=mu 10 ae;have Sf:=mu 11 ae;have KX:=mu 12 ae;have KY:=mu 76 ae;have Sk:=mu 88 ae;simp only[go_sem,Sa,Zb,Sc,Sd,Zc,Se,Y9,Sb,Za,Om,c1] at KW Sg Sh Si Sj Sl On Sf KX KY Sk;cases c2:(Q.l.id==P.l.id) with
  |true=>
   have c4:(Q.l.id==P2.l.id)=false:=by
    have h1:Q.l.id=P.l.id:=by simpa using c2
    rw[h1];exact c1
   simp only[go_sem,wz,Pc.ps,KW,On,KX,KY,Sk,c2];refine eJ [0,3,4,5,6,9,10,11,12,76,101] fun e15 qm=>?_;have Sm:=qm 0 ae;have Sq:=qm 3 ae;have Sr:=qm 4 ae;have Ss:=qm 5 ae;have St:=qm 6 ae;have Ze:=qm 9 ae;have ai1:=qm 10 ae;have Zd:=qm 11 ae;have Sp:=qm 12 ae;have Su:=qm 76 ae;have Sn:=qm 101 ae;simp only[go_sem,KW,Sg,Sh,Si,Sj,Sl,On,Sf,KX,KY] at Sm Sq Sr Ss St Ze ai1 Zd Sp Su Sn;cases c3:(Q2.l.id==P2.l.id) with
   |false=>simp only[go_sem,wz,Pc.ps,Sm,Sr,Ss,Ze,Sp,Su,Sn,c3,c4];first|rfl|exact aD|exact⟨aD,rfl⟩|exact⟨aD,aD,rfl⟩
   |true=>
   simp only[go_sem,wz,Sq,St,Su,Sn,c3];refine rO [0,3,4,5,6,11,12,137] fun e16 zk=>?_;have Zf:=zk 0 ae;have Sw:=zk 3 ae;have Sx:=zk 4 ae;have Sy:=zk 5 ae;have Zi:=zk 6 ae;have Zg:=zk 11 ae;have Zh:=zk 12 ae;have Sv:=zk 137 ae;simp only[go_sem,Sm,Sq,Sr,Ss,St,Zd,Sp] at Zf Sw Sx Sy Zi Zg Zh Sv;cases d1:((((av+2)%ls.length:Nat):Int)==(bv:Int)) with
   |true=>simp only[go_sem,Sx,Sy,Sv,d1];first|rfl|exact aD|exact⟨aD,rfl⟩|exact⟨aD,aD,rfl⟩
   |false=>
   simp only[go_sem,wz,Sw,Zi,Sv,d1];refine rO [0,3,4,5,11,12,147] fun e17 u9=>?_;have Sz:=u9 0 ae;have SA:=u9 3 ae;have SB:=u9 4 ae;have SC:=u9 5 ae;have Zj:=u9 11 ae;have Zk:=u9 12 ae;have Oo:=u9 147 ae;simp only[go_sem,Zf,Sw,Sx,Sy,Zg,Zh] at Sz SA SB SC Zj Zk Oo;cases d2:((((bv+2)%ls.length:Nat):Int)==(av:Int)) with
   |true=>simp only[go_sem,SB,SC,Oo,d2];first|rfl|exact aD|exact⟨aD,rfl⟩|exact⟨aD,aD,rfl⟩
   |false=>
   cases d3:tF F ls 0 [av,bv] av with
   |false=>rw[d3] at pc;simp only[go_sem,s112,mZ pc,Sz,SA,SB,SC,Oo,d2];first|rfl|exact aD|exact⟨aD,rfl⟩|exact⟨aD,aD,rfl⟩
   |true=>rw[d3] at pc;simp only[go_sem,s112,mZ pc,s113,Sz,SA,Zj,Zk,Oo,d2];refine⟨aD,?_⟩;refine jH pd lo (.inr (fh (gk _))) fun cc bc gc hbk=>?_;simp only[go_sem];exact jB gc
  |false=>
   simp only[go_sem,wz,Pc.ps,KW,Sl,KX,KY,Sk,c2];refine eJ [0,3,4,5,6,10,11,12,76,101,113] fun e18 rW=>?_;have SD:=rW 0 ae;have Zn:=rW 3 ae;have SJ:=rW 4 ae;have SK:=rW 5 ae;have Zo:=rW 6 ae;have Zl:=rW 10 ae;have SG:=rW 11 ae;have Zm:=rW 12 ae;have SL:=rW 76 ae;have SF:=rW 101 ae;have SI:=rW 113 ae;simp only[go_sem,KW,Sg,Sh,Si,Sj,On,Sf,KX,KY] at SD Zn SJ SK Zo Zl SG Zm SL SF SI;cases c4:(Q.l.id==P2.l.id) with
   |false=>simp only[go_sem,SJ,SK,SL,SF,SI,c4];first|rfl|exact aD|exact⟨aD,rfl⟩|exact⟨aD,aD,rfl⟩
   |true=>
   simp only[go_sem,wz,Pc.ps,SD,Zl,SG,SL,SF,SI,c4];refine XE [0,3,4,5,6,11,12] fun e19 zn=>?_;have Zp:=zn 0 ae;have SM:=zn 3 ae;have SN:=zn 4 ae;have SO:=zn 5 ae;have SP:=zn 6 ae;have Zq:=zn 11 ae;have Zr:=zn 12 ae;simp only[go_sem,SD,Zn,SJ,SK,Zo,SG,Zm] at Zp SM SN SO SP Zq Zr;cases c5:(Q2.l.id==P.l.id) with
   |false=>simp only[go_sem,SN,SO];first|rfl|exact aD|exact⟨aD,rfl⟩|exact⟨aD,aD,rfl⟩
   |true=>
   simp only[go_sem,wz,SM,SP];refine rO [0,3,4,5,6,11,12,137] fun e20 mF=>?_;have Zs:=mF 0 ae;have SY:=mF 3 ae;have SZ:=mF 4 ae;have S1:=mF 5 ae;have Zv:=mF 6 ae;have Zt:=mF 11 ae;have Zu:=mF 12 ae;have SX:=mF 137 ae;simp only[go_sem,Zp,SM,SN,SO,SP,Zq,Zr] at Zs SY SZ S1 Zv Zt Zu SX;cases d1:((((av+2)%ls.length:Nat):Int)==(bv:Int)) with
   |true=>simp only[go_sem,SZ,S1,SX,d1];first|rfl|exact aD|exact⟨aD,rfl⟩|exact⟨aD,aD,rfl⟩
   |false=>
   simp only[go_sem,wz,SY,Zv,SX,d1];refine rO [0,3,4,5,11,12,147] fun e21 qO=>?_;have S2:=qO 0 ae;have S3:=qO 3 ae;have S4:=qO 4 ae;have S5:=qO 5 ae;have Zw:=qO 11 ae;have Zx:=qO 12 ae;have Oq:=qO 147 ae;simp only[go_sem,Zs,SY,SZ,S1,Zt,Zu] at S2 S3 S4 S5 Zw Zx Oq;cases d2:((((bv+2)%ls.length:Nat):Int)==(av:Int)) with
   |true=>simp only[go_sem,S4,S5,Oq,d2];first|rfl|exact aD|exact⟨aD,rfl⟩|exact⟨aD,aD,rfl⟩
   |false=>
   cases d3:tF F ls 0 [av,bv] av with
   |false=>rw[d3] at pc;simp only[go_sem,s112,mZ pc,S2,S3,S4,S5,Oq,d2];first|rfl|exact aD|exact⟨aD,rfl⟩|exact⟨aD,aD,rfl⟩
   |true=>rw[d3] at pc;simp only[go_sem,s112,mZ pc,s113,S2,S3,Zw,Zx,Oq,d2];refine⟨aD,?_⟩;refine jH pd lo (.inr (fh (gk _))) fun cc bc gc hbk=>?_;simp only[go_sem];exact jB gc
def kU(h:Nat):List Let:=(List.range (2*h)).map fun i=>⟨1,0,((i+1:Nat):Int),0,0,false⟩
section
variable {h:Nat}
theorem CY:(kU h).length=2*h:=by simp[kU]
theorem GQ{i:Nat}(hi:i<2*h):(kU h)[i]?=some ⟨1,0,((i+1:Nat):Int),0,0,false⟩:=by unfold kU;rw[fX,tu hi];rfl
theorem JW{l:Let}(hl:l∈kU h):∃i,i<2*h/\l=⟨1,0,((i+1:Nat):Int),0,0,false⟩:=by obtain⟨i,hi,rfl⟩:=dr.1 hl;exact⟨i,fk.1 hi,rfl⟩
theorem V9(p:Let->Bool)(hp:∀l∈kU h,p l=true)(k:Nat)(hk:k<=2*h):au p ((kU h).take k)=k:=by unfold au;rw[List.countP_eq_length.2 fun l hl=>hp l (vP hl),fJ,CY];omega
theorem aeI:∀l∈kU h,l.ay=true:=fun l hl=>by obtain⟨i,_,rfl⟩:=JW hl;rfl
theorem aqB:au Let.ay (kU h)=2*h:=by have:=V9 (h:=h) Let.ay aeI (2*h) (aZ _);rwa[fY (by rw[CY];exact aZ _)] at this
theorem aqE:au Let.aw (kU h)=0:=by unfold au;rw[He];intro l hl;obtain⟨i,_,rfl⟩:=JW hl;simp[Let.aw]
theorem aqC:cg (kU h) 0=2*h:=by have:=V9 (h:=h) (lY 0) (fun l hl=>by obtain⟨i,_,rfl⟩:=JW hl;rfl) (2*h) (aZ _);rwa[fY (by rw[CY];exact aZ _)] at this
theorem aeL{i:Nat}(hi:i<=2*h):dn (kU h) i=(i%2==0):=by unfold dn;rw[V9 (h:=h) Let.ay aeI i hi]
theorem Wa(i:Nat):dJ (kU h) ⟨1,0,((i+1:Nat):Int),0,0,false⟩=i:=by unfold dJ;have:eU (kU h) 0=0:=rfl;simp only[Int.toNat_zero,this,lJ];omega
theorem aqD:vu 1 (kU h)=true:=by
 refine(MK (F:=1)).2 ⟨?_,?_,?_⟩
 .rw[Dh];intro l hl;obtain⟨i,_,rfl⟩:=JW hl;simp[de]
 .refine(GL (F:=1) fun l hl hp=>?_).2 ⟨fun l hl hp=>?_,fun i j l m h1 h2 _ _ he=>?_⟩
  .obtain⟨i,_,rfl⟩:=JW hl;exact⟨af,af⟩
  .obtain⟨i,hi,rfl⟩:=JW hl;refine⟨af,af,by simp;omega,?_⟩;show((i+1:Nat):Int)<=(cg (kU h) (0:Int).toNat:Int);rw[Int.toNat_zero,aqC];omega
  have i1:=(aV.1 h1).1;have i2:=(aV.1 h2).1;rw[CY] at i1 i2;rw[GQ i1] at h1;rw[GQ i2] at h2;cases h1;cases h2;rw[Wa,Wa] at he;exact he
 unfold lz;have h0:eL (kU h) (kU h).length=[]:=by
  have:∀k,k<=2*h->eL (kU h) k=[]:=by
   intro k
   induction k with
   |zero=>intro _;rfl
   |succ k ih=>intro hk;unfold eL;rw[GQ (show k<2*h by omega),ih aa];rfl
  exact this _ (by rw[CY];exact aZ _)
 rw[h0,aqE];simp only[bQ];refine⟨⟨rfl,iC.2 fun k hk=>?_⟩,rfl⟩;have hk:=fk.1 hk;rw[CY] at hk;unfold ml;rw[GQ hk];rfl
theorem aqF(hh:h<=500000):eP 1 (kU h):=by
 obtain⟨aR,kK,dX⟩:=(MK (F:=1)).1 (aqD (h:=h));have mH:∀l∈kU h,de 1 l=false:=fun l hl=>by simpa using Dh.1 aR l hl
 have hg:ql 1 (kU h):=fun l hl hp=>((lU hp).1 (mH l hl)).1.1.1;obtain⟨g1,g2⟩:=(GL hg).1 kK;exact⟨by rw[CY];omega,⟨g1,g2⟩,dX,fun l hl=>yW (mH l hl)⟩
theorem aeK:(aC (kU h)).length=2*h:=by rw[Fz,aqB]
theorem aeJ(hh:h<=500000){i:Nat}(hi:i<2*h):(aC (kU h)).idxOf i=i:=by rw[HD (aqF hh).ax (GQ hi) rfl,Wa]
theorem aeN(hh:h<=500000){e:Nat}(he:e<2*h):aO (kU h) (2*e)=if ((e+1)%(2*h))%2=0 then 4*h+2*((e+1)%(2*h)) else 4*h+2*(((e+1)%(2*h)+2*h-1)%(2*h))+1:=by
 have hm:=dw (e+1) (show 0<2*h by omega);show fN _ _ _=_;unfold fN;rw[CY,aeK,if_neg aa];have e1:(2*e%2==0)=true:=af;simp only[e1,if_true,show 2*e/2=e by omega,GQ hm,aeJ hh hm,aeL (Nat.le_of_lt hm)];generalize (e+1)%(2*h)=m;by_cases c:m%2=0
 .simp[c];omega
 simp[c];omega
theorem aeM(hh:h<=500000){e:Nat}(he:e<2*h):aO (kU h) (2*e+1)=if e%2=0 then 4*h+2*((e+2*h-1)%(2*h))+1 else 4*h+2*e:=by
 show fN _ _ _=_;unfold fN;rw[CY,aeK,if_neg aa];have e1:((2*e+1)%2==0)=false:=af;simp only[e1,eY,if_false,show(2*e+1)/2=e by omega,GQ he,aeJ hh he,aeL (Nat.le_of_lt he)];by_cases c:e%2=0
 .simp[c];omega
 have:(e%2==0)=false:=by simpa using c
 simp[c];omega
end
section
variable {h:Nat}
theorem acr{n e:Nat}(he:e<n):(e+1)%n=if e+1=n then 0 else e+1:=by
 by_cases c:e+1=n
 .rw[if_pos c,c,xz]
 rw[if_neg c,fK aa]
theorem acs{n m:Nat}(hm:m<n):(m+n-1)%n=if m=0 then n-1 else m-1:=by
 by_cases c:m=0
 .rw[if_pos c];subst c;rw[jc,fK aa]
 rw[if_neg c,show m+n-1=(m-1)+n by omega,uX,fK aa]
theorem v1(hh:h<=500000){e:Nat}(he:e<2*h)(c:e%2=0):aO (kU h) (2*e)=4*h+2*e+1:=by rw[aeN hh he,acr he,if_neg (by omega:¬e+1=2*h),if_neg aa,acs aa,if_neg aa];omega
theorem v2(hh:h<=500000){e:Nat}(he:e<2*h)(c:e%2=1):∃q,q<2*h/\q%2=0/\(e+1<2*h->q=e+1)/\aO (kU h) (2*e)=4*h+2*q:=by
 rw[aeN hh he,acr he];by_cases d:e+1=2*h
 .rw[if_pos d];exact⟨0,aa,rfl,aa,rfl⟩
 rw[if_neg d,if_pos aa];exact⟨e+1,aa,aa,fun _=>rfl,rfl⟩
theorem v3(hh:h<=500000){e:Nat}(he:e<2*h)(c:e%2=0):∃q,q<2*h/\q%2=1/\(1<=e->q=e-1)/\aO (kU h) (2*e+1)=4*h+2*q+1:=by
 rw[aeM hh he,if_pos c,acs he];by_cases d:e=0
 .rw[if_pos d];exact⟨2*h-1,aa,aa,aa,rfl⟩
 rw[if_neg d];exact⟨e-1,aa,aa,fun _=>rfl,rfl⟩
theorem v4(hh:h<=500000){e:Nat}(he:e<2*h)(c:e%2=1):aO (kU h) (2*e+1)=4*h+2*e:=by rw[aeM hh he,if_neg aa]
end
theorem ajd(L:List Pc):(nj L).length=L.length:=by simp[nj,vF]
theorem jh(l x:List Pc)(k:Nat):(dK l x k).length=l.length+x.length:=by simp only[dK,fc,fJ,nW];omega
section
attribute [local go_sem ↓] fm1 fm2
theorem EX{al:Al}{blk:aB}{id ty:Nat}{es:List (List PV)}{c:C}(o:es=[]\/al.ok id=true)(hl:es.length<=1000000)(jU:∀e∈es,e.length=7/\ ∀v∈e,v.norm=v)(h:grown id ty 7 es (.one c) blk):
  ∃v ak,jd S 116 [.one c] al blk v ak/\GO id ty 7 es c blk v ak:=by
 refine oY c116 (hU rfl) ?_;rcases h with ⟨rfl,h2⟩|⟨aK,g,h2,hC⟩
 .cases h2;have w0:IntKind.i64.wrap (((0:Nat):Int)-1)= -1:=ae;have hz:¬((0:Int)< -1):=ae;simp only[go_sem,i116,w0];refine cQ (fun k aj ak=>k=0/\aj 2=vi 0/\aj 3=vi (-1)/\ak=blk) 0 0 (aZ _) ?_ ?_
  .simp only[go_sem]
  rintro k aj ak _ ⟨rfl,h2,h3,rfl⟩
  simp only[go_sem,i116_l1,h2,h3,hz];exact⟨rfl,.inl ⟨rfl,rfl⟩,fun _ _=>rfl⟩
 cases h2;have o:=o.resolve_left aK;have w0:=vK (a:=es.length) aa;simp only[go_sem,i116,w0];refine cQ (fun k aj ak=>aj 0=.one (.hsl id g 7 0 es.length)/\aj 2=vi k/\aj 3=vi ((es.length:Int)-1-(k:Int))/\ ∃fs,ak id=(g,some (.arr ty 7 fs))/\xj es fs k/\Kept (· =id) blk ak) 0 es.length (aY _) ?_ ?_
 .simp only[go_sem];refine⟨rfl,af,es,hC,xj.start es,Kept.refl _ _⟩
 rintro k aj ak hk ⟨h0,h2,h3,fs,hF,hI,cU⟩
 by_cases aq:k<es.length-1-k
 .have e1:((es.length:Int)-1-(k:Int))=((es.length-1-k:Nat):Int):=aa;rw[e1] at h3;have aJ:((k:Int)<((es.length-1-k:Nat):Int)):=aa;have w1:=bG (n:=k) aa;have w2:IntKind.i64.wrap (((es.length-1-k:Nat):Int)-1)=((es.length:Int)-1-((k+1:Nat):Int)):=by
   rw[vK aa];omega
  obtain⟨a,ha⟩:=aI (show k<es.length by omega);obtain⟨b,hb⟩:=aI (show es.length-1-k<es.length by omega);obtain⟨fa,fb,wJ⟩:=hI.step aq ha hb;obtain⟨la,na⟩:=jU a (aQ ha);obtain⟨lb,nb⟩:=jU b (aQ hb);obtain⟨x0,x1,x2,x3,x4,x5,x6,rfl⟩:=ab1 la;obtain⟨y0,y1,y2,y3,y4,y5,y6,rfl⟩:=ab1 lb;have Mn:=na x0 af;have Us:=na x1 af;have akD:=na x2 af;have akE:=na x3 af;have akF:=na x4 af;have akG:=na x5 af;have akH:=na x6 af;have Mo:=nb y0 af;have Ut:=nb y1 af;have akI:=nb y2 af;have akJ:=nb y3 af;have akK:=nb y4 af;have akL:=nb y5 af;have akM:=nb y6 af;have qu:=hI.len;have F7:¬(k=es.length-1-k):=aa;have aa8:¬(es.length-1-k=k):=aa;have l1:k<fs.length:=aa;have l2:es.length-1-k<fs.length:=aa;have l3:k<es.length:=aa
  have l4:es.length-1-k<es.length:=aa;simp only[go_sem,i116_l1,h0,h2,h3,hF,aJ,fa,fb,w1,w2,o,l1,l3,l4,F7,Mn,Us,akD,akE,akF,akG,akH,Mo,Ut,akI,akJ,akK,akL,akM,mT];refine⟨aD,_,rfl,wJ,?_⟩;exact(cU.cZ rfl _).cZ rfl _
 have aJ:¬((k:Int)<(es.length:Int)-1-(k:Int)):=aa;simp only[go_sem,i116_l1,h2,h3,aJ];refine⟨rfl,?_,cU⟩;rw[hI.done aq] at hF;exact .inr ⟨by simpa using aK,g,by rw[xy],hF⟩
theorem B4{Q:ef}{aj:Env}{blk:aB}{os:List ch}{d:Option Nat}{f id ty z:Nat}{es:List (List PV)}{c:C}(UF:∀ {al:Al} {blk:aB},es=[]\/al.ok id=true->grown id ty z es (.one c) blk->∃v ak,jd S f [.one c] al blk v ak/\GO id ty z es c blk v ak)(hg:grown id ty z es (.one c) blk)
  (hK:∀ak,grown id ty z es.reverse (.one c) ak->(∀i,i≠id->ak i=blk i)->RN S .all os Q (put aj d (.tup [])) ak):gP S .all (.sc f [.one c]) d os Q aj blk:=by
 refine wD (P:=GO id ty z es c blk) Cv (UF ?_ hg) ?_
 .rcases PW hg with ⟨h,_⟩|h
  .exact .inl h
  exact .inr (BA (by simp[h]))
 rintro v ak ⟨rfl,h1,h2⟩
 exact hK ak h1 h2
abbrev mj(x k:Nat)(sg:Int)(ov:Bool):Pc:=⟨⟨2,0,0,((x+k:Nat):Int),sg,ov⟩,false⟩
abbrev vv(ls:List Let)(s t:Int)(o:Bool):List Pc:=[mj (au Let.aw ls/2) 1 s o,mj (au Let.aw ls/2) 2 t o]
abbrev ww(ls:List Let)(s t:Int)(o:Bool):List Pc:=[mj (au Let.aw ls/2) 2 t o,mj (au Let.aw ls/2) 1 s o]
abbrev tX(F:Nat)(ls:List Let)(d:Nat):Nat:=(iN F ls).getD d 0
abbrev rl(x:Nat)(sg:Int)(o:Bool):List Pc:=[mj x 1 sg o,mj x 2 (-sg) o]
abbrev nN(x:Nat)(sg:Int)(o same:Bool):List Pc:=if same then [mj x 2 (-sg) (!o),mj x 1 sg (!o)] else [mj x 1 sg (!o),mj x 2 (-sg) (!o)]
def gM(ls:List Let)(av bv:Nat)(l o same other:Bool):Option (List Pc):=
 if !same&& !other then none
 else
  let sg:Int:=if o==(same==l) then 1 else -1
  let first:=rl (au Let.aw ls/2) sg o
  let second:=nN (au Let.aw ls/2) sg o same
  some (if av<bv then dK (dK (pieces ls) second bv) first av else dK (dK (pieces ls) first av) second bv)
def CR(F:Nat)(ls:List Let)(av bv:Nat)(l o:Bool):Option (List Pc):=
 if l then gM ls av bv l o ((tX F ls (2*bv):Int)==(tX F ls (2*av):Int)) ((tX F ls (2*bv+1):Int)==(tX F ls (2*av):Int))
 else gM ls av bv l o ((tX F ls (2*bv+1):Int)==(tX F ls (2*av+1):Int)) ((tX F ls (2*bv):Int)==(tX F ls (2*av+1):Int))
theorem Pk{F:Nat}{ls:List Let}{d:Nat}(hd:d<2*ls.length):(iN F ls)[d]?=some (tX F ls d):=by obtain⟨j,hj⟩:=aI (ls:=iN F ls) (k:=d) (by rw[GB];exact hd);rw[tX,cJ,hj];rfl
theorem anf{F:Nat}{ls:List Let}(g:ct F ls){av bv:Nat}(ha:av<ls.length)(hb:bv<ls.length)(ju:av≠bv){k c:Int}{l o:Bool}{sg:Int}:
  aH S 74 [.one (.p (dj F ls)),gK k av bv c l o sg] (kR (CR F ls av bv l o)):=by
 have hlen:=g.len;have dX:=g.cr;have bh:=eW ls;have vh:=GB F ls;have m2a:=qF (a:=av) aa;have m2b:=qF (a:=bv) aa;have wa0:IntKind.i64.wrap (((2*av:Nat):Int)+0)=((2*av:Nat):Int):=(sF (x:=((2*av:Nat):Int)+0) aa aa).trans aa;have wa1:=bG (n:=2*av) aa;have wb0:IntKind.i64.wrap (((2*bv:Nat):Int)+0)=((2*bv:Nat):Int):=(sF (x:=((2*bv:Nat):Int)+0) aa aa).trans aa;have wb1:=bG (n:=2*bv) aa;have wc0:IntKind.i64.wrap (((2*bv+1:Nat):Int)-0)=((2*bv+1:Nat):Int):=(sF (x:=((2*bv+1:Nat):Int)-0) aa aa).trans aa;have wc1:IntKind.i64.wrap (((2*bv+1:Nat):Int)-1)=((2*bv:Nat):Int):=(sF (x:=((2*bv+1:Nat):Int)-1) aa aa).trans aa;have la0:2*av<(iN F ls).length:=aa;have la1:2*av+1<(iN F ls).length:=aa
 have lb0:2*bv<(iN F ls).length:=aa;have lb1:2*bv+1<(iN F ls).length:=aa;have ja0:=iA (Pk (F:=F) (ls:=ls) (d:=2*av) aa);have ja1:=iA (Pk (F:=F) (ls:=ls) (d:=2*av+1) aa);have jb0:=iA (Pk (F:=F) (ls:=ls) (d:=2*bv) aa);have jb1:=iA (Pk (F:=F) (ls:=ls) (d:=2*bv+1) aa);have eC:S.shared 116=true:=ah;have k1:((1:Nat):Int)=1:=rfl;have k2:((2:Nat):Int)=2:=rfl;have yy:=fun ov=>Ke F (au Let.aw ls/2) 1 ov (.sl (bJ (pieces ls))) (.sl (ni (dS F ls))) (.sl (nP (iN F ls))) (.int .i64 (au Let.ay ls:Nat)) (.sl (nP (counts ls F))) 1 aa aa;have yz:=fun ov=>Ke F (au Let.aw ls/2) (-1) ov (.sl (bJ (pieces ls))) (.sl (ni (dS F ls))) (.sl (nP (iN F ls))) (.int .i64 (au Let.ay ls:Nat)) (.sl (nP (counts ls F))) 2 aa aa
 have CS:=fun ov=>Ke F (au Let.aw ls/2) (-1) ov (.sl (bJ (pieces ls))) (.sl (ni (dS F ls))) (.sl (nP (iN F ls))) (.int .i64 (au Let.ay ls:Nat)) (.sl (nP (counts ls F))) 1 aa aa;have CT:=fun ov=>Ke F (au Let.aw ls/2) 1 ov (.sl (bJ (pieces ls))) (.sl (ni (dS F ls))) (.sl (nP (iN F ls))) (.int .i64 (au Let.ay ls:Nat)) (.sl (nP (counts ls F))) 2 aa aa;simp only[k1,k2] at yy yz CS CT;have Fj:IntKind.i64.wrap (0-1)= -1:=ae;have Fk:IntKind.i64.wrap (0 - -1)=1:=ae
 have gI:∀blk:aB,∀s,∀x1 x2 x3 x4 x5 x6 x7:PV,land blk [] s ((RV.agg [.p x1,.p x2,.p x3,.p x4,.p x5,.p x6,.p x7]).gV (S.lone s))=some (.agg [.p x1,.p x2,.p x3,.p x4,.p x5,.p x6,.p x7],[]):=fun blk s x1 x2 x3 x4 x5 x6 x7=>by cases S.lone s<;>rfl
 have wz:=And.intro wa0 (And.intro wa1 (And.intro wb0 (And.intro wb1 (And.intro wc0 (And.intro wc1 (And.intro m2a (And.intro m2b (And.intro la0 (And.intro la1 (And.intro lb0 (And.intro lb1 (And.intro ja0 (And.intro ja1 (And.intro jb0 jb1))))))))))))));unfold CR;generalize tX F ls (2*av)=a0 at*;generalize tX F ls (2*av+1)=a1 at*;generalize tX F ls (2*bv)=b0 at*;generalize tX F ls (2*bv+1)=b1 at*;refine ba c74 ?_;cases l with
 |true=>
  rw[if_pos rfl];cases o with
  |true=>
   simp only[go_sem,i74,wz];refine⟨aD,aD,?_⟩;refine rO [0,3,4,5,6,7,8,9,40] fun e1 dL=>?_;simp only[go_sem] at dL;cases hs:((b0:Int)==(a0:Int)) with
   |true=>
    simp only[go_sem,dL,hs];refine⟨aD,?_⟩;by_cases nu:av<bv
    .have aq:((av:Int)<(bv:Int)):=aa;have gJ:gM ls av bv true true true ((b1:Int)==(a0:Int))=some (dK (dK (pieces ls) (ww ls 1 (-1) false) bv) (vv ls 1 (-1) true) av):=by simp[gM,rl,nN,nu,vv,ww]
     rw[gJ];simp only[go_sem,dL,hs,s114,gR (yy _) (gI _ _ _ _ _ _ _ _ _),gR (yz _) (gI _ _ _ _ _ _ _ _ _),Fj,eC];refine⟨aD,aD,?_⟩;refine B4 (f:=116) (es:=bJ (vv ls 1 (-1) false)) (id:=4736704832) (ty:=jj) (z:=7) (fun o h=>EX o af (EU _) h) (.inr ⟨af,_,rfl,by simp only[aS,Nat.reduceEqDiff,if_true,if_false];rfl⟩) fun blkr gr ny=>?_;have j9:=ny 4736000000 ae;have lN:=ny 4736640704 ae;simp only[go_sem] at j9 lN;rcases gr with ⟨e,_⟩|⟨_,gg,e,ik⟩
     .simp at e
     cases e;rw[show(bJ (vv ls 1 (-1) false)).reverse=bJ (ww ls 1 (-1) false) from rfl] at ik;simp only[Pc.ps,dG,lK] at ik;simp only[go_sem,dL,j9,ik,aq,s110];refine jA (jv (pieces ls) (ww ls 1 (-1) false) bv aa aa af) (by kernel_rfl:S.lone 4736960448=false) (.inr (fh (gk _))) fun c1 bc v1 g1 aR jC=>?_;obtain⟨r1,kn,dI⟩:=g1.dO;have q0:=aR 4736000000 ae;have q1:=aR 4736640704 ae;have q2:=aR 4736704832 ae;simp only[go_sem,j9,lN,ik] at q0 q1 q2;simp only[go_sem,dL,q0,q1,kn,s110];refine jA (jv (dK (pieces ls) (ww ls 1 (-1) false) bv) (vv ls 1 (-1) true) av (by rw[jh];omega) (by rw[jh];simp;omega) af) (by kernel_rfl:S.lone 4736960704=false) (.inr (fh (gk _))) fun c2 aT v2 g2 aU jg=>?_
     simp only[go_sem];refine⟨?_,jB g2⟩;rcases dI with rfl|rfl<;>rcases jC with rfl|rfl<;>rcases jg with rfl|rfl<;>kernel_rfl
    have aq:¬((av:Int)<(bv:Int)):=aa;have gJ:gM ls av bv true true true ((b1:Int)==(a0:Int))=some (dK (dK (pieces ls) (vv ls 1 (-1) true) av) (ww ls 1 (-1) false) bv):=by simp[gM,rl,nN,nu,vv,ww]
    rw[gJ];simp only[go_sem,dL,hs,s114,gR (yy _) (gI _ _ _ _ _ _ _ _ _),gR (yz _) (gI _ _ _ _ _ _ _ _ _),Fj,eC];refine⟨aD,aD,?_⟩;refine B4 (f:=116) (es:=bJ (vv ls 1 (-1) false)) (id:=4736704832) (ty:=jj) (z:=7) (fun o h=>EX o af (EU _) h) (.inr ⟨af,_,rfl,by simp only[aS,Nat.reduceEqDiff,if_true,if_false];rfl⟩) fun blkr gr ny=>?_;have j9:=ny 4736000000 ae;have lN:=ny 4736640704 ae;simp only[go_sem] at j9 lN;rcases gr with ⟨e,_⟩|⟨_,gg,e,ik⟩
    .simp at e
    cases e;rw[show(bJ (vv ls 1 (-1) false)).reverse=bJ (ww ls 1 (-1) false) from rfl] at ik;simp only[Pc.ps,dG,lK] at ik;simp only[go_sem,dL,j9,lN,aq,s110];refine jA (jv (pieces ls) (vv ls 1 (-1) true) av aa aa af) (by kernel_rfl:S.lone 4737024448=false) (.inr (fh (gk _))) fun c1 bc v1 g1 aR jC=>?_;obtain⟨r1,kn,dI⟩:=g1.dO;have q0:=aR 4736000000 ae;have q1:=aR 4736640704 ae;have q2:=aR 4736704832 ae;simp only[go_sem,j9,lN,ik] at q0 q1 q2;simp only[go_sem,dL,q0,q2,kn,s110];refine jA (jv (dK (pieces ls) (vv ls 1 (-1) true) av) (ww ls 1 (-1) false) bv (by rw[jh];omega) (by rw[jh];simp;omega) af) (by kernel_rfl:S.lone 4737024704=false) (.inr (fh (gk _))) fun c2 aT v2 g2 aU jg=>?_
    simp only[go_sem];refine⟨?_,jB g2⟩;rcases dI with rfl|rfl<;>rcases jC with rfl|rfl<;>rcases jg with rfl|rfl<;>kernel_rfl
   |false=>
    cases ho:((b1:Int)==(a0:Int)) with
    |false=>
     have hn:((b1:Int)!=(a0:Int))=true:=by simp only[bne,ho];rfl
     simp only[go_sem,wz,dL,hs,hn];first|rfl|exact aD|exact⟨aD,rfl⟩|exact⟨aD,aD,rfl⟩
    |true=>
     have hn:((b1:Int)!=(a0:Int))=false:=by simp only[bne,ho];rfl
     simp only[go_sem,wz,dL,hs,hn];refine⟨aD,?_⟩;by_cases nu:av<bv
     .have aq:((av:Int)<(bv:Int)):=aa;have gJ:gM ls av bv true true false true=some (dK (dK (pieces ls) (vv ls (-1) 1 false) bv) (vv ls (-1) 1 true) av):=by simp[gM,rl,nN,nu,vv]
      rw[gJ];simp only[go_sem,dL,hs,s114,gR (CS _) (gI _ _ _ _ _ _ _ _ _),gR (CT _) (gI _ _ _ _ _ _ _ _ _),Fk,aq,s110];refine⟨aD,aD,?_⟩;refine jA (jv (pieces ls) (vv ls (-1) 1 false) bv aa aa af) (by kernel_rfl:S.lone 4736960448=false) (.inr (fh (gk _))) fun c1 bc v1 g1 aR jC=>?_;obtain⟨r1,kn,dI⟩:=g1.dO;have q0:=aR 4736000000 ae;have q1:=aR 4736640704 ae;have q2:=aR 4736704832 ae;simp only[go_sem] at q0 q1 q2;simp only[go_sem,dL,q0,q1,kn,s110];refine jA (jv (dK (pieces ls) (vv ls (-1) 1 false) bv) (vv ls (-1) 1 true) av (by rw[jh];omega) (by rw[jh];simp;omega) af) (by kernel_rfl:S.lone 4736960704=false) (.inr (fh (gk _))) fun c2 aT v2 g2 aU jg=>?_
      simp only[go_sem];refine⟨?_,jB g2⟩;rcases dI with rfl|rfl<;>rcases jC with rfl|rfl<;>rcases jg with rfl|rfl<;>kernel_rfl
     have aq:¬((av:Int)<(bv:Int)):=aa;have gJ:gM ls av bv true true false true=some (dK (dK (pieces ls) (vv ls (-1) 1 true) av) (vv ls (-1) 1 false) bv):=by simp[gM,rl,nN,nu,vv]
     rw[gJ];simp only[go_sem,dL,hs,s114,gR (CS _) (gI _ _ _ _ _ _ _ _ _),gR (CT _) (gI _ _ _ _ _ _ _ _ _),Fk,aq,s110];refine⟨aD,aD,?_⟩;refine jA (jv (pieces ls) (vv ls (-1) 1 true) av aa aa af) (by kernel_rfl:S.lone 4737024448=false) (.inr (fh (gk _))) fun c1 bc v1 g1 aR jC=>?_;obtain⟨r1,kn,dI⟩:=g1.dO;have q0:=aR 4736000000 ae;have q1:=aR 4736640704 ae;have q2:=aR 4736704832 ae;simp only[go_sem] at q0 q1 q2;simp only[go_sem,dL,q0,q2,kn,s110];refine jA (jv (dK (pieces ls) (vv ls (-1) 1 true) av) (vv ls (-1) 1 false) bv (by rw[jh];omega) (by rw[jh];simp;omega) af) (by kernel_rfl:S.lone 4737024704=false) (.inr (fh (gk _))) fun c2 aT v2 g2 aU jg=>?_
     simp only[go_sem];refine⟨?_,jB g2⟩;rcases dI with rfl|rfl<;>rcases jC with rfl|rfl<;>rcases jg with rfl|rfl<;>kernel_rfl
  |false=>
   simp only[go_sem,i74,wz];refine⟨aD,aD,?_⟩;refine rO [0,3,4,5,6,7,8,9,40] fun e2 dE=>?_;simp only[go_sem] at dE;cases hs:((b0:Int)==(a0:Int)) with
   |true=>
    simp only[go_sem,dE,hs];refine⟨aD,?_⟩;by_cases nu:av<bv
    .have aq:((av:Int)<(bv:Int)):=aa;have gJ:gM ls av bv true false true ((b1:Int)==(a0:Int))=some (dK (dK (pieces ls) (ww ls (-1) 1 true) bv) (vv ls (-1) 1 false) av):=by simp[gM,rl,nN,nu,vv,ww]
     rw[gJ];simp only[go_sem,dE,hs,s114,gR (CS _) (gI _ _ _ _ _ _ _ _ _),gR (CT _) (gI _ _ _ _ _ _ _ _ _),Fk,eC];refine⟨aD,aD,?_⟩;refine B4 (f:=116) (es:=bJ (vv ls (-1) 1 true)) (id:=4736704832) (ty:=jj) (z:=7) (fun o h=>EX o af (EU _) h) (.inr ⟨af,_,rfl,by simp only[aS,Nat.reduceEqDiff,if_true,if_false];rfl⟩) fun blkr gr ny=>?_;have j9:=ny 4736000000 ae;have lN:=ny 4736640704 ae;simp only[go_sem] at j9 lN;rcases gr with ⟨e,_⟩|⟨_,gg,e,ik⟩
     .simp at e
     cases e;rw[show(bJ (vv ls (-1) 1 true)).reverse=bJ (ww ls (-1) 1 true) from rfl] at ik;simp only[Pc.ps,dG,lK] at ik;simp only[go_sem,dE,j9,ik,aq,s110];refine jA (jv (pieces ls) (ww ls (-1) 1 true) bv aa aa af) (by kernel_rfl:S.lone 4736960448=false) (.inr (fh (gk _))) fun c1 bc v1 g1 aR jC=>?_;obtain⟨r1,kn,dI⟩:=g1.dO;have q0:=aR 4736000000 ae;have q1:=aR 4736640704 ae;have q2:=aR 4736704832 ae;simp only[go_sem,j9,lN,ik] at q0 q1 q2;simp only[go_sem,dE,q0,q1,kn,s110];refine jA (jv (dK (pieces ls) (ww ls (-1) 1 true) bv) (vv ls (-1) 1 false) av (by rw[jh];omega) (by rw[jh];simp;omega) af) (by kernel_rfl:S.lone 4736960704=false) (.inr (fh (gk _))) fun c2 aT v2 g2 aU jg=>?_
     simp only[go_sem];refine⟨?_,jB g2⟩;rcases dI with rfl|rfl<;>rcases jC with rfl|rfl<;>rcases jg with rfl|rfl<;>kernel_rfl
    have aq:¬((av:Int)<(bv:Int)):=aa;have gJ:gM ls av bv true false true ((b1:Int)==(a0:Int))=some (dK (dK (pieces ls) (vv ls (-1) 1 false) av) (ww ls (-1) 1 true) bv):=by simp[gM,rl,nN,nu,vv,ww]
    rw[gJ];simp only[go_sem,dE,hs,s114,gR (CS _) (gI _ _ _ _ _ _ _ _ _),gR (CT _) (gI _ _ _ _ _ _ _ _ _),Fk,eC];refine⟨aD,aD,?_⟩;refine B4 (f:=116) (es:=bJ (vv ls (-1) 1 true)) (id:=4736704832) (ty:=jj) (z:=7) (fun o h=>EX o af (EU _) h) (.inr ⟨af,_,rfl,by simp only[aS,Nat.reduceEqDiff,if_true,if_false];rfl⟩) fun blkr gr ny=>?_;have j9:=ny 4736000000 ae;have lN:=ny 4736640704 ae;simp only[go_sem] at j9 lN;rcases gr with ⟨e,_⟩|⟨_,gg,e,ik⟩
    .simp at e
    cases e;rw[show(bJ (vv ls (-1) 1 true)).reverse=bJ (ww ls (-1) 1 true) from rfl] at ik;simp only[Pc.ps,dG,lK] at ik;simp only[go_sem,dE,j9,lN,aq,s110];refine jA (jv (pieces ls) (vv ls (-1) 1 false) av aa aa af) (by kernel_rfl:S.lone 4737024448=false) (.inr (fh (gk _))) fun c1 bc v1 g1 aR jC=>?_;obtain⟨r1,kn,dI⟩:=g1.dO;have q0:=aR 4736000000 ae;have q1:=aR 4736640704 ae;have q2:=aR 4736704832 ae;simp only[go_sem,j9,lN,ik] at q0 q1 q2;simp only[go_sem,dE,q0,q2,kn,s110];refine jA (jv (dK (pieces ls) (vv ls (-1) 1 false) av) (ww ls (-1) 1 true) bv (by rw[jh];omega) (by rw[jh];simp;omega) af) (by kernel_rfl:S.lone 4737024704=false) (.inr (fh (gk _))) fun c2 aT v2 g2 aU jg=>?_
    simp only[go_sem];refine⟨?_,jB g2⟩;rcases dI with rfl|rfl<;>rcases jC with rfl|rfl<;>rcases jg with rfl|rfl<;>kernel_rfl
   |false=>
    cases ho:((b1:Int)==(a0:Int)) with
    |false=>
     have hn:((b1:Int)!=(a0:Int))=true:=by simp only[bne,ho];rfl
     simp only[go_sem,wz,dE,hs,hn];first|rfl|exact aD|exact⟨aD,rfl⟩|exact⟨aD,aD,rfl⟩
    |true=>
     have hn:((b1:Int)!=(a0:Int))=false:=by simp only[bne,ho];rfl
     simp only[go_sem,wz,dE,hs,hn];refine⟨aD,?_⟩;by_cases nu:av<bv
     .have aq:((av:Int)<(bv:Int)):=aa;have gJ:gM ls av bv true false false true=some (dK (dK (pieces ls) (vv ls 1 (-1) true) bv) (vv ls 1 (-1) false) av):=by simp[gM,rl,nN,nu,vv]
      rw[gJ];simp only[go_sem,dE,hs,s114,gR (yy _) (gI _ _ _ _ _ _ _ _ _),gR (yz _) (gI _ _ _ _ _ _ _ _ _),Fj,aq,s110];refine⟨aD,aD,?_⟩;refine jA (jv (pieces ls) (vv ls 1 (-1) true) bv aa aa af) (by kernel_rfl:S.lone 4736960448=false) (.inr (fh (gk _))) fun c1 bc v1 g1 aR jC=>?_;obtain⟨r1,kn,dI⟩:=g1.dO;have q0:=aR 4736000000 ae;have q1:=aR 4736640704 ae;have q2:=aR 4736704832 ae;simp only[go_sem] at q0 q1 q2;simp only[go_sem,dE,q0,q1,kn,s110];refine jA (jv (dK (pieces ls) (vv ls 1 (-1) true) bv) (vv ls 1 (-1) false) av (by rw[jh];omega) (by rw[jh];simp;omega) af) (by kernel_rfl:S.lone 4736960704=false) (.inr (fh (gk _))) fun c2 aT v2 g2 aU jg=>?_
      simp only[go_sem];refine⟨?_,jB g2⟩;rcases dI with rfl|rfl<;>rcases jC with rfl|rfl<;>rcases jg with rfl|rfl<;>kernel_rfl
     have aq:¬((av:Int)<(bv:Int)):=aa;have gJ:gM ls av bv true false false true=some (dK (dK (pieces ls) (vv ls 1 (-1) false) av) (vv ls 1 (-1) true) bv):=by simp[gM,rl,nN,nu,vv]
     rw[gJ];simp only[go_sem,dE,hs,s114,gR (yy _) (gI _ _ _ _ _ _ _ _ _),gR (yz _) (gI _ _ _ _ _ _ _ _ _),Fj,aq,s110];refine⟨aD,aD,?_⟩;refine jA (jv (pieces ls) (vv ls 1 (-1) false) av aa aa af) (by kernel_rfl:S.lone 4737024448=false) (.inr (fh (gk _))) fun c1 bc v1 g1 aR jC=>?_;obtain⟨r1,kn,dI⟩:=g1.dO;have q0:=aR 4736000000 ae;have q1:=aR 4736640704 ae;have q2:=aR 4736704832 ae;simp only[go_sem] at q0 q1 q2;simp only[go_sem,dE,q0,q2,kn,s110];refine jA (jv (dK (pieces ls) (vv ls 1 (-1) false) av) (vv ls 1 (-1) true) bv (by rw[jh];omega) (by rw[jh];simp;omega) af) (by kernel_rfl:S.lone 4737024704=false) (.inr (fh (gk _))) fun c2 aT v2 g2 aU jg=>?_
     simp only[go_sem];refine⟨?_,jB g2⟩;rcases dI with rfl|rfl<;>rcases jC with rfl|rfl<;>rcases jg with rfl|rfl<;>kernel_rfl
 |false=>
  rw[if_neg ae];cases o with
  |true=>
   simp only[go_sem,i74,wz];refine⟨aD,aD,?_⟩;refine rO [0,3,4,5,6,7,8,9,40] fun e3 dq=>?_;simp only[go_sem] at dq;cases hs:((b1:Int)==(a1:Int)) with
   |true=>
    simp only[go_sem,dq,hs];refine⟨aD,?_⟩;by_cases nu:av<bv
    .have aq:((av:Int)<(bv:Int)):=aa;have gJ:gM ls av bv false true true ((b0:Int)==(a1:Int))=some (dK (dK (pieces ls) (ww ls (-1) 1 false) bv) (vv ls (-1) 1 true) av):=by simp[gM,rl,nN,nu,vv,ww]
     rw[gJ];simp only[go_sem,dq,hs,s114,gR (CS _) (gI _ _ _ _ _ _ _ _ _),gR (CT _) (gI _ _ _ _ _ _ _ _ _),Fk,eC];refine⟨aD,aD,?_⟩;refine B4 (f:=116) (es:=bJ (vv ls (-1) 1 false)) (id:=4736704832) (ty:=jj) (z:=7) (fun o h=>EX o af (EU _) h) (.inr ⟨af,_,rfl,by simp only[aS,Nat.reduceEqDiff,if_true,if_false];rfl⟩) fun blkr gr ny=>?_;have j9:=ny 4736000000 ae;have lN:=ny 4736640704 ae;simp only[go_sem] at j9 lN;rcases gr with ⟨e,_⟩|⟨_,gg,e,ik⟩
     .simp at e
     cases e;rw[show(bJ (vv ls (-1) 1 false)).reverse=bJ (ww ls (-1) 1 false) from rfl] at ik;simp only[Pc.ps,dG,lK] at ik;simp only[go_sem,dq,j9,ik,aq,s110];refine jA (jv (pieces ls) (ww ls (-1) 1 false) bv aa aa af) (by kernel_rfl:S.lone 4736960448=false) (.inr (fh (gk _))) fun c1 bc v1 g1 aR jC=>?_;obtain⟨r1,kn,dI⟩:=g1.dO;have q0:=aR 4736000000 ae;have q1:=aR 4736640704 ae;have q2:=aR 4736704832 ae;simp only[go_sem,j9,lN,ik] at q0 q1 q2;simp only[go_sem,dq,q0,q1,kn,s110];refine jA (jv (dK (pieces ls) (ww ls (-1) 1 false) bv) (vv ls (-1) 1 true) av (by rw[jh];omega) (by rw[jh];simp;omega) af) (by kernel_rfl:S.lone 4736960704=false) (.inr (fh (gk _))) fun c2 aT v2 g2 aU jg=>?_
     simp only[go_sem];refine⟨?_,jB g2⟩;rcases dI with rfl|rfl<;>rcases jC with rfl|rfl<;>rcases jg with rfl|rfl<;>kernel_rfl
    have aq:¬((av:Int)<(bv:Int)):=aa;have gJ:gM ls av bv false true true ((b0:Int)==(a1:Int))=some (dK (dK (pieces ls) (vv ls (-1) 1 true) av) (ww ls (-1) 1 false) bv):=by simp[gM,rl,nN,nu,vv,ww]
    rw[gJ];simp only[go_sem,dq,hs,s114,gR (CS _) (gI _ _ _ _ _ _ _ _ _),gR (CT _) (gI _ _ _ _ _ _ _ _ _),Fk,eC];refine⟨aD,aD,?_⟩;refine B4 (f:=116) (es:=bJ (vv ls (-1) 1 false)) (id:=4736704832) (ty:=jj) (z:=7) (fun o h=>EX o af (EU _) h) (.inr ⟨af,_,rfl,by simp only[aS,Nat.reduceEqDiff,if_true,if_false];rfl⟩) fun blkr gr ny=>?_;have j9:=ny 4736000000 ae;have lN:=ny 4736640704 ae;simp only[go_sem] at j9 lN;rcases gr with ⟨e,_⟩|⟨_,gg,e,ik⟩
    .simp at e
    cases e;rw[show(bJ (vv ls (-1) 1 false)).reverse=bJ (ww ls (-1) 1 false) from rfl] at ik;simp only[Pc.ps,dG,lK] at ik;simp only[go_sem,dq,j9,lN,aq,s110];refine jA (jv (pieces ls) (vv ls (-1) 1 true) av aa aa af) (by kernel_rfl:S.lone 4737024448=false) (.inr (fh (gk _))) fun c1 bc v1 g1 aR jC=>?_;obtain⟨r1,kn,dI⟩:=g1.dO;have q0:=aR 4736000000 ae;have q1:=aR 4736640704 ae;have q2:=aR 4736704832 ae;simp only[go_sem,j9,lN,ik] at q0 q1 q2;simp only[go_sem,dq,q0,q2,kn,s110];refine jA (jv (dK (pieces ls) (vv ls (-1) 1 true) av) (ww ls (-1) 1 false) bv (by rw[jh];omega) (by rw[jh];simp;omega) af) (by kernel_rfl:S.lone 4737024704=false) (.inr (fh (gk _))) fun c2 aT v2 g2 aU jg=>?_
    simp only[go_sem];refine⟨?_,jB g2⟩;rcases dI with rfl|rfl<;>rcases jC with rfl|rfl<;>rcases jg with rfl|rfl<;>kernel_rfl
   |false=>
    cases ho:((b0:Int)==(a1:Int)) with
    |false=>
     have hn:((b0:Int)!=(a1:Int))=true:=by simp only[bne,ho];rfl
     simp only[go_sem,wz,dq,hs,hn];first|rfl|exact aD|exact⟨aD,rfl⟩|exact⟨aD,aD,rfl⟩
    |true=>
     have hn:((b0:Int)!=(a1:Int))=false:=by simp only[bne,ho];rfl
     simp only[go_sem,wz,dq,hs,hn];refine⟨aD,?_⟩;by_cases nu:av<bv
     .have aq:((av:Int)<(bv:Int)):=aa;have gJ:gM ls av bv false true false true=some (dK (dK (pieces ls) (vv ls 1 (-1) false) bv) (vv ls 1 (-1) true) av):=by simp[gM,rl,nN,nu,vv]
      rw[gJ];simp only[go_sem,dq,hs,s114,gR (yy _) (gI _ _ _ _ _ _ _ _ _),gR (yz _) (gI _ _ _ _ _ _ _ _ _),Fj,aq,s110];refine⟨aD,aD,?_⟩;refine jA (jv (pieces ls) (vv ls 1 (-1) false) bv aa aa af) (by kernel_rfl:S.lone 4736960448=false) (.inr (fh (gk _))) fun c1 bc v1 g1 aR jC=>?_;obtain⟨r1,kn,dI⟩:=g1.dO;have q0:=aR 4736000000 ae;have q1:=aR 4736640704 ae;have q2:=aR 4736704832 ae;simp only[go_sem] at q0 q1 q2;simp only[go_sem,dq,q0,q1,kn,s110];refine jA (jv (dK (pieces ls) (vv ls 1 (-1) false) bv) (vv ls 1 (-1) true) av (by rw[jh];omega) (by rw[jh];simp;omega) af) (by kernel_rfl:S.lone 4736960704=false) (.inr (fh (gk _))) fun c2 aT v2 g2 aU jg=>?_
      simp only[go_sem];refine⟨?_,jB g2⟩;rcases dI with rfl|rfl<;>rcases jC with rfl|rfl<;>rcases jg with rfl|rfl<;>kernel_rfl
     have aq:¬((av:Int)<(bv:Int)):=aa;have gJ:gM ls av bv false true false true=some (dK (dK (pieces ls) (vv ls 1 (-1) true) av) (vv ls 1 (-1) false) bv):=by simp[gM,rl,nN,nu,vv]
     rw[gJ];simp only[go_sem,dq,hs,s114,gR (yy _) (gI _ _ _ _ _ _ _ _ _),gR (yz _) (gI _ _ _ _ _ _ _ _ _),Fj,aq,s110];refine⟨aD,aD,?_⟩;refine jA (jv (pieces ls) (vv ls 1 (-1) true) av aa aa af) (by kernel_rfl:S.lone 4737024448=false) (.inr (fh (gk _))) fun c1 bc v1 g1 aR jC=>?_;obtain⟨r1,kn,dI⟩:=g1.dO;have q0:=aR 4736000000 ae;have q1:=aR 4736640704 ae;have q2:=aR 4736704832 ae;simp only[go_sem] at q0 q1 q2;simp only[go_sem,dq,q0,q2,kn,s110];refine jA (jv (dK (pieces ls) (vv ls 1 (-1) true) av) (vv ls 1 (-1) false) bv (by rw[jh];omega) (by rw[jh];simp;omega) af) (by kernel_rfl:S.lone 4737024704=false) (.inr (fh (gk _))) fun c2 aT v2 g2 aU jg=>?_
     simp only[go_sem];refine⟨?_,jB g2⟩;rcases dI with rfl|rfl<;>rcases jC with rfl|rfl<;>rcases jg with rfl|rfl<;>kernel_rfl
  |false=>
   simp only[go_sem,i74,wz];refine⟨aD,aD,?_⟩;refine rO [0,3,4,5,6,7,8,9,40] fun e4 eh=>?_;simp only[go_sem] at eh;cases hs:((b1:Int)==(a1:Int)) with
   |true=>
    simp only[go_sem,eh,hs];refine⟨aD,?_⟩;by_cases nu:av<bv
    .have aq:((av:Int)<(bv:Int)):=aa;have gJ:gM ls av bv false false true ((b0:Int)==(a1:Int))=some (dK (dK (pieces ls) (ww ls 1 (-1) true) bv) (vv ls 1 (-1) false) av):=by simp[gM,rl,nN,nu,vv,ww]
     rw[gJ];simp only[go_sem,eh,hs,s114,gR (yy _) (gI _ _ _ _ _ _ _ _ _),gR (yz _) (gI _ _ _ _ _ _ _ _ _),Fj,eC];refine⟨aD,aD,?_⟩;refine B4 (f:=116) (es:=bJ (vv ls 1 (-1) true)) (id:=4736704832) (ty:=jj) (z:=7) (fun o h=>EX o af (EU _) h) (.inr ⟨af,_,rfl,by simp only[aS,Nat.reduceEqDiff,if_true,if_false];rfl⟩) fun blkr gr ny=>?_;have j9:=ny 4736000000 ae;have lN:=ny 4736640704 ae;simp only[go_sem] at j9 lN;rcases gr with ⟨e,_⟩|⟨_,gg,e,ik⟩
     .simp at e
     cases e;rw[show(bJ (vv ls 1 (-1) true)).reverse=bJ (ww ls 1 (-1) true) from rfl] at ik;simp only[Pc.ps,dG,lK] at ik;simp only[go_sem,eh,j9,ik,aq,s110];refine jA (jv (pieces ls) (ww ls 1 (-1) true) bv aa aa af) (by kernel_rfl:S.lone 4736960448=false) (.inr (fh (gk _))) fun c1 bc v1 g1 aR jC=>?_;obtain⟨r1,kn,dI⟩:=g1.dO;have q0:=aR 4736000000 ae;have q1:=aR 4736640704 ae;have q2:=aR 4736704832 ae;simp only[go_sem,j9,lN,ik] at q0 q1 q2;simp only[go_sem,eh,q0,q1,kn,s110];refine jA (jv (dK (pieces ls) (ww ls 1 (-1) true) bv) (vv ls 1 (-1) false) av (by rw[jh];omega) (by rw[jh];simp;omega) af) (by kernel_rfl:S.lone 4736960704=false) (.inr (fh (gk _))) fun c2 aT v2 g2 aU jg=>?_
     simp only[go_sem];refine⟨?_,jB g2⟩;rcases dI with rfl|rfl<;>rcases jC with rfl|rfl<;>rcases jg with rfl|rfl<;>kernel_rfl
    have aq:¬((av:Int)<(bv:Int)):=aa;have gJ:gM ls av bv false false true ((b0:Int)==(a1:Int))=some (dK (dK (pieces ls) (vv ls 1 (-1) false) av) (ww ls 1 (-1) true) bv):=by simp[gM,rl,nN,nu,vv,ww]
    rw[gJ];simp only[go_sem,eh,hs,s114,gR (yy _) (gI _ _ _ _ _ _ _ _ _),gR (yz _) (gI _ _ _ _ _ _ _ _ _),Fj,eC];refine⟨aD,aD,?_⟩;refine B4 (f:=116) (es:=bJ (vv ls 1 (-1) true)) (id:=4736704832) (ty:=jj) (z:=7) (fun o h=>EX o af (EU _) h) (.inr ⟨af,_,rfl,by simp only[aS,Nat.reduceEqDiff,if_true,if_false];rfl⟩) fun blkr gr ny=>?_;have j9:=ny 4736000000 ae;have lN:=ny 4736640704 ae;simp only[go_sem] at j9 lN;rcases gr with ⟨e,_⟩|⟨_,gg,e,ik⟩
    .simp at e
    cases e;rw[show(bJ (vv ls 1 (-1) true)).reverse=bJ (ww ls 1 (-1) true) from rfl] at ik;simp only[Pc.ps,dG,lK] at ik;simp only[go_sem,eh,j9,lN,aq,s110];refine jA (jv (pieces ls) (vv ls 1 (-1) false) av aa aa af) (by kernel_rfl:S.lone 4737024448=false) (.inr (fh (gk _))) fun c1 bc v1 g1 aR jC=>?_;obtain⟨r1,kn,dI⟩:=g1.dO;have q0:=aR 4736000000 ae;have q1:=aR 4736640704 ae;have q2:=aR 4736704832 ae;simp only[go_sem,j9,lN,ik] at q0 q1 q2;simp only[go_sem,eh,q0,q2,kn,s110];refine jA (jv (dK (pieces ls) (vv ls 1 (-1) false) av) (ww ls 1 (-1) true) bv (by rw[jh];omega) (by rw[jh];simp;omega) af) (by kernel_rfl:S.lone 4737024704=false) (.inr (fh (gk _))) fun c2 aT v2 g2 aU jg=>?_
    simp only[go_sem];refine⟨?_,jB g2⟩;rcases dI with rfl|rfl<;>rcases jC with rfl|rfl<;>rcases jg with rfl|rfl<;>kernel_rfl
   |false=>
    cases ho:((b0:Int)==(a1:Int)) with
    |false=>
     have hn:((b0:Int)!=(a1:Int))=true:=by simp only[bne,ho];rfl
     simp only[go_sem,wz,eh,hs,hn];first|rfl|exact aD|exact⟨aD,rfl⟩|exact⟨aD,aD,rfl⟩
    |true=>
     have hn:((b0:Int)!=(a1:Int))=false:=by simp only[bne,ho];rfl
     simp only[go_sem,wz,eh,hs,hn];refine⟨aD,?_⟩;by_cases nu:av<bv
     .have aq:((av:Int)<(bv:Int)):=aa;have gJ:gM ls av bv false false false true=some (dK (dK (pieces ls) (vv ls (-1) 1 true) bv) (vv ls (-1) 1 false) av):=by simp[gM,rl,nN,nu,vv]
      rw[gJ];simp only[go_sem,eh,hs,s114,gR (CS _) (gI _ _ _ _ _ _ _ _ _),gR (CT _) (gI _ _ _ _ _ _ _ _ _),Fk,aq,s110];refine⟨aD,aD,?_⟩;refine jA (jv (pieces ls) (vv ls (-1) 1 true) bv aa aa af) (by kernel_rfl:S.lone 4736960448=false) (.inr (fh (gk _))) fun c1 bc v1 g1 aR jC=>?_;obtain⟨r1,kn,dI⟩:=g1.dO;have q0:=aR 4736000000 ae;have q1:=aR 4736640704 ae;have q2:=aR 4736704832 ae;simp only[go_sem] at q0 q1 q2;simp only[go_sem,eh,q0,q1,kn,s110];refine jA (jv (dK (pieces ls) (vv ls (-1) 1 true) bv) (vv ls (-1) 1 false) av (by rw[jh];omega) (by rw[jh];simp;omega) af) (by kernel_rfl:S.lone 4736960704=false) (.inr (fh (gk _))) fun c2 aT v2 g2 aU jg=>?_
      simp only[go_sem];refine⟨?_,jB g2⟩;rcases dI with rfl|rfl<;>rcases jC with rfl|rfl<;>rcases jg with rfl|rfl<;>kernel_rfl
     have aq:¬((av:Int)<(bv:Int)):=aa;have gJ:gM ls av bv false false false true=some (dK (dK (pieces ls) (vv ls (-1) 1 false) av) (vv ls (-1) 1 true) bv):=by simp[gM,rl,nN,nu,vv]
     rw[gJ];simp only[go_sem,eh,hs,s114,gR (CS _) (gI _ _ _ _ _ _ _ _ _),gR (CT _) (gI _ _ _ _ _ _ _ _ _),Fk,aq,s110];refine⟨aD,aD,?_⟩;refine jA (jv (pieces ls) (vv ls (-1) 1 false) av aa aa af) (by kernel_rfl:S.lone 4737024448=false) (.inr (fh (gk _))) fun c1 bc v1 g1 aR jC=>?_;obtain⟨r1,kn,dI⟩:=g1.dO;have q0:=aR 4736000000 ae;have q1:=aR 4736640704 ae;have q2:=aR 4736704832 ae;simp only[go_sem] at q0 q1 q2;simp only[go_sem,eh,q0,q2,kn,s110];refine jA (jv (dK (pieces ls) (vv ls (-1) 1 false) av) (vv ls (-1) 1 true) bv (by rw[jh];omega) (by rw[jh];simp;omega) af) (by kernel_rfl:S.lone 4737024704=false) (.inr (fh (gk _))) fun c2 aT v2 g2 aU jg=>?_
     simp only[go_sem];refine⟨?_,jB g2⟩;rcases dI with rfl|rfl<;>rcases jC with rfl|rfl<;>rcases jg with rfl|rfl<;>kernel_rfl
end
end Go.Abs
