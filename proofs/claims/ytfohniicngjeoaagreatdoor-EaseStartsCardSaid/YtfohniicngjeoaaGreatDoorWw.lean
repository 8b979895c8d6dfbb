/- A part. -/
import Derived.Test.YtfohniicngjeoaaGreatDoorWs
set_option linter.all false
set_option maxRecDepth 100000
set_option maxHeartbeats 16000000
namespace Go.Abs
theorem Pf(a b:Nat):(a==b)=((a:Int)==(b:Int)):=by
 by_cases h:a=b
 .simp[h]
 have:(a==b)=false:=by simpa using h
 rw[this];symm;simp;omega
def A1(F:Nat)(ls:List Let)(av bv:Nat):Option (List Pc):=
 if ((kV ls av true&&kV ls bv false)||(kV ls av false&&kV ls bv true))&&(!((pA ls av).l.id==(pA ls (nx ls av)).l.id)&&
  (((((pA ls bv).l.id==(pA ls av).l.id)&&((pA ls (nx ls bv)).l.id==(pA ls (nx ls av)).l.id))||(((pA ls bv).l.id==(pA ls (nx ls av)).l.id)&&((pA ls (nx ls bv)).l.id==(pA ls av).l.id)))&&
  (!((av+2)%ls.length==bv)&&(!((bv+2)%ls.length==av)&&tm F ls 0 [av,bv] av))))
 then some (HR (pieces ls) [(pA ls av).l.id,(pA ls (nx ls av)).l.id]) else none
theorem an0{F:Nat}{ls:List Let}(g:dF F ls){av bv:Nat}(ha:av<ls.length)(hb:bv<ls.length){k c:Int}{l o:Bool}{sg:Int}:
  aI S 111 [.one (.p (eI F ls)),lZ k av bv c l o sg] (kR (A1 F ls av bv)):=by
 have hlen:=g.len;have cA:=fW ls;have pe1:=BW g ha;have pe2:=BW g hb;have qM:=eH (av+1) (show 0<ls.length by omega);have uz:=eH (bv+1) (show 0<ls.length by omega);have pc:=RW g [av,bv] af (e0:=av) rfl ha 0;simp only[dS,kQ] at pc;have c0:((0:Nat):Int)=0:=rfl;rw[c0] at pc;have b1:=HB g ha true;have b2:=HB g hb false;have b3:=HB g ha false;have b4:=HB g hb true;obtain⟨P,hP⟩:=aL (ls:=pieces ls) (k:=av) aa;obtain⟨P2,hP2⟩:=aL (ls:=pieces ls) (k:=(av+1)%ls.length) aa;obtain⟨Q,hQ⟩:=aL (ls:=pieces ls) (k:=bv) aa;obtain⟨Q2,hQ2⟩:=aL (ls:=pieces ls) (k:=(bv+1)%ls.length) aa;have oU:=jW hP;have akp:=jW hP2;have kz:=jW hQ;have akv:=jW hQ2;have hz:¬((ls.length:Int)=0):=aa
 have e2w:IntKind.i64.wrap ((av:Int)+2)=((av+2:Nat):Int):=(vE (x:=(av:Int)+2) aa aa).trans aa;have e2m:=vB (av+2) ls.length;have e3w:IntKind.i64.wrap ((bv:Int)+2)=((bv+2:Nat):Int):=(vE (x:=(bv:Int)+2) aa aa).trans aa;have e3m:=vB (bv+2) ls.length;have lo:S.lone 7104704448=false:=ah;have pd:=Yz (pieces ls) [P.l.id,P2.l.id] aa af (abr g);simp only[dS,kQ] at pd;have x3:kV ls av true=true->kV ls av false=false:=fun x1=>by
  unfold kV at x1 ⊢;rw[kh hP] at x1 ⊢;simp only[cX] at x1;have:P.l.over=true:=by simpa using x1.2.2.1
  simp[this]
 unfold A1;rw[kh hP,kh hQ,kh hP2,kh hQ2,Pf,Pf];have wz:=And.intro oU (And.intro kz (And.intro akp (And.intro akv (And.intro ha (And.intro hb (And.intro qM (And.intro uz (And.intro cA (And.intro e2w (And.intro e2m (And.intro hz (And.intro e3w e3m))))))))))));refine aZ c111 ?_;simp only[go_sem,i111,s137,cY b1,wz];refine eK [0,3,4,5,6,7,22] fun e1 h1=>?_;have K5:=h1 0 ae;have K6:=h1 3 ae;have Tf:=h1 4 ae;have Tg:=h1 5 ae;have Th:=h1 6 ae;have Ti:=h1 7 ae;have Te:=h1 22 ae;simp only[go_sem] at K5 K6 Tf Tg Th Ti Te;cases x1:kV ls av true with
 |true=>
  simp only[go_sem,s137,cY b2,K5,K6,Te,x1];refine eK [0,3,4,5,6,7,28] fun e2 h2=>?_;have Oh:=h2 0 ae;have Oi:=h2 3 ae;have Tt:=h2 4 ae;have Tu:=h2 5 ae;have Zy:=h2 6 ae;have Zz:=h2 7 ae;have Ts:=h2 28 ae;simp only[go_sem,K5,K6,Tf,Tg,Th,Ti] at Oh Oi Tt Tu Zy Zz Ts;cases x2:kV ls bv false with
  |false=>have x3':=x3 x1;simp only[go_sem,s137,cY b3,Oh,Oi,Tt,Tu,Ts,x2,x3'];first|rfl|exact aG|exact⟨aG,rfl⟩|exact⟨aG,aG,rfl⟩
  |true=>
  simp only[go_sem,s126,cJ pe1 fL,cJ pe2 fL,wz,Pc.ps,Oh,Oi,Zz,Ts,x2];refine⟨aG,?_⟩;refine eK [0,3,4,5,6,9,10,11,12,76] fun e3 h3=>?_;have Tv:=h3 0 ae;have ZC:=h3 3 ae;have Tx:=h3 4 ae;have Ty:=h3 5 ae;have ZD:=h3 6 ae;have Tz:=h3 9 ae;have ZA:=h3 10 ae;have Tw:=h3 11 ae;have ZB:=h3 12 ae;have Oj:=h3 76 ae;simp only[go_sem,Oh,Oi,Tt,Tu,Zy] at Tv ZC Tx Ty ZD Tz ZA Tw ZB Oj;cases c1:(P.l.id==P2.l.id) with
  |true=>simp only[go_sem,Tx,Ty,Oj,c1];first|rfl|exact aG|exact⟨aG,rfl⟩|exact⟨aG,aG,rfl⟩
  |false=>
  simp only[go_sem,wz,Pc.ps,Tv,Tz,Tw,Oj,c1];refine eK [0,3,4,5,6,9,10,11,12,76,88] fun e4 h4=>?_;have K7:=h4 0 ae;have TB:=h4 3 ae;have TC:=h4 4 ae;have TD:=h4 5 ae;have TE:=h4 6 ae;have TH:=h4 9 ae;have Ol:=h4 10 ae;have TA:=h4 11 ae;have K8:=h4 12 ae;have K9:=h4 76 ae;have TG:=h4 88 ae;simp only[go_sem,Tv,ZC,Tx,Ty,ZD,Tz,ZA,Tw,ZB,Oj,c1] at K7 TB TC TD TE TH Ol TA K8 K9 TG;cases c2:(Q.l.id==P.l.id) with
  |true=>
   have c4:(Q.l.id==P2.l.id)=false:=by
    have h1:Q.l.id=P.l.id:=by simpa using c2
    rw[h1];exact c1
   simp only[go_sem,wz,Pc.ps,K7,Ol,K8,K9,TG,c2];refine eK [0,3,4,5,6,9,10,11,12,76,101] fun e5 h5=>?_;have TI:=h5 0 ae;have TL:=h5 3 ae;have TM:=h5 4 ae;have TN:=h5 5 ae;have TO:=h5 6 ae;have ZF:=h5 9 ae;have ajf:=h5 10 ae;have ZE:=h5 11 ae;have TK:=h5 12 ae;have TP:=h5 76 ae;have TJ:=h5 101 ae;simp only[go_sem,K7,TB,TC,TD,TE,TH,Ol,TA,K8,K9] at TI TL TM TN TO ZF ajf ZE TK TP TJ;cases c3:(Q2.l.id==P2.l.id) with
   |false=>simp only[go_sem,wz,Pc.ps,TI,TM,TN,ZF,TK,TP,TJ,c3,c4];first|rfl|exact aG|exact⟨aG,rfl⟩|exact⟨aG,aG,rfl⟩
   |true=>
   simp only[go_sem,wz,TL,TO,TP,TJ,c3];refine uT [0,3,4,5,6,11,12,137] fun e6 h6=>?_;have ZG:=h6 0 ae;have TR:=h6 3 ae;have TS:=h6 4 ae;have TT:=h6 5 ae;have ZJ:=h6 6 ae;have ZH:=h6 11 ae;have ZI:=h6 12 ae;have TQ:=h6 137 ae;simp only[go_sem,TI,TL,TM,TN,TO,ZE,TK] at ZG TR TS TT ZJ ZH ZI TQ;cases d1:((((av+2)%ls.length:Nat):Int)==(bv:Int)) with
   |true=>simp only[go_sem,TS,TT,TQ,d1];first|rfl|exact aG|exact⟨aG,rfl⟩|exact⟨aG,aG,rfl⟩
   |false=>
   simp only[go_sem,wz,TR,ZJ,TQ,d1];refine uT [0,3,4,5,11,12,147] fun e7 h7=>?_;have TU:=h7 0 ae;have TV:=h7 3 ae;have TW:=h7 4 ae;have TX:=h7 5 ae;have ZK:=h7 11 ae;have ZL:=h7 12 ae;have Om:=h7 147 ae;simp only[go_sem,ZG,TR,TS,TT,ZH,ZI] at TU TV TW TX ZK ZL Om;cases d2:((((bv+2)%ls.length:Nat):Int)==(av:Int)) with
   |true=>simp only[go_sem,TW,TX,Om,d2];first|rfl|exact aG|exact⟨aG,rfl⟩|exact⟨aG,aG,rfl⟩
   |false=>
   cases d3:tm F ls 0 [av,bv] av with
   |false=>rw[d3] at pc;simp only[go_sem,s134,nk pc,TU,TV,TW,TX,Om,d2];first|rfl|exact aG|exact⟨aG,rfl⟩|exact⟨aG,aG,rfl⟩
   |true=>rw[d3] at pc;simp only[go_sem,s134,nk pc,s135,TU,TV,ZK,ZL,Om,d2];refine⟨aG,?_⟩;refine rB pd lo (.inr (qA (CU _))) fun cc bK gc jr=>?_;simp only[go_sem];exact yO gc
  |false=>
   simp only[go_sem,wz,Pc.ps,K7,TH,K8,K9,TG,c2];refine eK [0,3,4,5,6,10,11,12,76,101,113] fun e8 h8=>?_;have TY:=h8 0 ae;have ZO:=h8 3 ae;have T2:=h8 4 ae;have T3:=h8 5 ae;have ZP:=h8 6 ae;have ZM:=h8 10 ae;have T0:=h8 11 ae;have ZN:=h8 12 ae;have T4:=h8 76 ae;have TZ:=h8 101 ae;have T1:=h8 113 ae;simp only[go_sem,K7,TB,TC,TD,TE,Ol,TA,K8,K9] at TY ZO T2 T3 ZP ZM T0 ZN T4 TZ T1;cases c4:(Q.l.id==P2.l.id) with
   |false=>simp only[go_sem,T2,T3,T4,TZ,T1,c4];first|rfl|exact aG|exact⟨aG,rfl⟩|exact⟨aG,aG,rfl⟩
   |true=>
   simp only[go_sem,wz,Pc.ps,TY,ZM,T0,T4,TZ,T1,c4];refine XG [0,3,4,5,6,11,12] fun e9 h9=>?_;have ZQ:=h9 0 ae;have T5:=h9 3 ae;have T6:=h9 4 ae;have T7:=h9 5 ae;have T8:=h9 6 ae;have ZR:=h9 11 ae;have ZS:=h9 12 ae;simp only[go_sem,TY,ZO,T2,T3,ZP,T0,ZN] at ZQ T5 T6 T7 T8 ZR ZS;cases c5:(Q2.l.id==P.l.id) with
   |false=>simp only[go_sem,T6,T7];first|rfl|exact aG|exact⟨aG,rfl⟩|exact⟨aG,aG,rfl⟩
   |true=>
   simp only[go_sem,wz,T5,T8];refine uT [0,3,4,5,6,11,12,137] fun qC eQ=>?_;have YS:=eQ 0 ae;have Sl:=eQ 3 ae;have Sm:=eQ 4 ae;have Sn:=eQ 5 ae;have YV:=eQ 6 ae;have YT:=eQ 11 ae;have YU:=eQ 12 ae;have Sk:=eQ 137 ae;simp only[go_sem,ZQ,T5,T6,T7,T8,ZR,ZS] at YS Sl Sm Sn YV YT YU Sk;cases d1:((((av+2)%ls.length:Nat):Int)==(bv:Int)) with
   |true=>simp only[go_sem,Sm,Sn,Sk,d1];first|rfl|exact aG|exact⟨aG,rfl⟩|exact⟨aG,aG,rfl⟩
   |false=>
   simp only[go_sem,wz,Sl,YV,Sk,d1];refine uT [0,3,4,5,11,12,147] fun e11 fK=>?_;have So:=fK 0 ae;have Sp:=fK 3 ae;have Sq:=fK 4 ae;have Sr:=fK 5 ae;have YW:=fK 11 ae;have YX:=fK 12 ae;have N7:=fK 147 ae;simp only[go_sem,YS,Sl,Sm,Sn,YT,YU] at So Sp Sq Sr YW YX N7;cases d2:((((bv+2)%ls.length:Nat):Int)==(av:Int)) with
   |true=>simp only[go_sem,Sq,Sr,N7,d2];first|rfl|exact aG|exact⟨aG,rfl⟩|exact⟨aG,aG,rfl⟩
   |false=>
   cases d3:tm F ls 0 [av,bv] av with
   |false=>rw[d3] at pc;simp only[go_sem,s134,nk pc,So,Sp,Sq,Sr,N7,d2];first|rfl|exact aG|exact⟨aG,rfl⟩|exact⟨aG,aG,rfl⟩
   |true=>rw[d3] at pc;simp only[go_sem,s134,nk pc,s135,So,Sp,YW,YX,N7,d2];refine⟨aG,?_⟩;refine rB pd lo (.inr (qA (CU _))) fun cc bK gc jr=>?_;simp only[go_sem];exact yO gc
 |false=>
  simp only[go_sem,s137,cY b3,K5,K6,Te,x1];refine eK [0,3,4,5,6,7,28,33] fun e12 jD=>?_;have N8:=jD 0 ae;have N9:=jD 3 ae;have Oa:=jD 4 ae;have Oc:=jD 5 ae;have YY:=jD 6 ae;have YZ:=jD 7 ae;have Ss:=jD 28 ae;have St:=jD 33 ae;simp only[go_sem,K5,K6,Tf,Tg,Th,Ti] at N8 N9 Oa Oc YY YZ Ss St;cases x4:kV ls av false with
  |false=>simp only[go_sem,Oa,Oc,Ss,St,x4];first|rfl|exact aG|exact⟨aG,rfl⟩|exact⟨aG,aG,rfl⟩
  |true=>
  simp only[go_sem,s137,cY b4,N8,N9,Ss,St,x4];cases x5:kV ls bv true with
  |false=>simp only[go_sem,Oa,Oc];first|rfl|exact aG|exact⟨aG,rfl⟩|exact⟨aG,aG,rfl⟩
  |true=>
  simp only[go_sem,s126,cJ pe1 fL,cJ pe2 fL,wz,Pc.ps,N8,N9,YZ];refine⟨aG,?_⟩;refine eK [0,3,4,5,6,9,10,11,12,76] fun FA sA=>?_;have Su:=sA 0 ae;have Zb:=sA 3 ae;have Sw:=sA 4 ae;have Sx:=sA 5 ae;have Zc:=sA 6 ae;have Sy:=sA 9 ae;have Y0:=sA 10 ae;have Sv:=sA 11 ae;have Za:=sA 12 ae;have Od:=sA 76 ae;simp only[go_sem,N8,N9,Oa,Oc,YY] at Su Zb Sw Sx Zc Sy Y0 Sv Za Od;cases c1:(P.l.id==P2.l.id) with
  |true=>simp only[go_sem,Sw,Sx,Od,c1];first|rfl|exact aG|exact⟨aG,rfl⟩|exact⟨aG,aG,rfl⟩
  |false=>
  simp only[go_sem,wz,Pc.ps,Su,Sy,Sv,Od,c1];refine eK [0,3,4,5,6,9,10,11,12,76,88] fun FB mg=>?_;have KZ:=mg 0 ae;have SA:=mg 3 ae;have SB:=mg 4 ae;have SC:=mg 5 ae;have SD:=mg 6 ae;have SG:=mg 9 ae;have Oe:=mg 10 ae;have Sz:=mg 11 ae;have K0:=mg 12 ae;have K4:=mg 76 ae;have SF:=mg 88 ae;simp only[go_sem,Su,Zb,Sw,Sx,Zc,Sy,Y0,Sv,Za,Od,c1] at KZ SA SB SC SD SG Oe Sz K0 K4 SF;cases c2:(Q.l.id==P.l.id) with
  |true=>
   have c4:(Q.l.id==P2.l.id)=false:=by
    have h1:Q.l.id=P.l.id:=by simpa using c2
    rw[h1];exact c1
   simp only[go_sem,wz,Pc.ps,KZ,Oe,K0,K4,SF,c2];refine eK [0,3,4,5,6,9,10,11,12,76,101] fun e15 lG=>?_;have SI:=lG 0 ae;have SL:=lG 3 ae;have SM:=lG 4 ae;have SN:=lG 5 ae;have SO:=lG 6 ae;have Ze:=lG 9 ae;have aje:=lG 10 ae;have Zd:=lG 11 ae;have SK:=lG 12 ae;have SP:=lG 76 ae;have SJ:=lG 101 ae;simp only[go_sem,KZ,SA,SB,SC,SD,SG,Oe,Sz,K0,K4] at SI SL SM SN SO Ze aje Zd SK SP SJ;cases c3:(Q2.l.id==P2.l.id) with
   |false=>simp only[go_sem,wz,Pc.ps,SI,SM,SN,Ze,SK,SP,SJ,c3,c4];first|rfl|exact aG|exact⟨aG,rfl⟩|exact⟨aG,aG,rfl⟩
   |true=>
   simp only[go_sem,wz,SL,SO,SP,SJ,c3];refine uT [0,3,4,5,6,11,12,137] fun DD oQ=>?_;have Zf:=oQ 0 ae;have SR:=oQ 3 ae;have SS:=oQ 4 ae;have SU:=oQ 5 ae;have Zi:=oQ 6 ae;have Zg:=oQ 11 ae;have Zh:=oQ 12 ae;have SQ:=oQ 137 ae;simp only[go_sem,SI,SL,SM,SN,SO,Zd,SK] at Zf SR SS SU Zi Zg Zh SQ;cases d1:((((av+2)%ls.length:Nat):Int)==(bv:Int)) with
   |true=>simp only[go_sem,SS,SU,SQ,d1];first|rfl|exact aG|exact⟨aG,rfl⟩|exact⟨aG,aG,rfl⟩
   |false=>
   simp only[go_sem,wz,SR,Zi,SQ,d1];refine uT [0,3,4,5,11,12,147] fun HS jg=>?_;have SV:=jg 0 ae;have SW:=jg 3 ae;have SX:=jg 4 ae;have SY:=jg 5 ae;have Zj:=jg 11 ae;have Zk:=jg 12 ae;have Of:=jg 147 ae;simp only[go_sem,Zf,SR,SS,SU,Zg,Zh] at SV SW SX SY Zj Zk Of;cases d2:((((bv+2)%ls.length:Nat):Int)==(av:Int)) with
   |true=>simp only[go_sem,SX,SY,Of,d2];first|rfl|exact aG|exact⟨aG,rfl⟩|exact⟨aG,aG,rfl⟩
   |false=>
   cases d3:tm F ls 0 [av,bv] av with
   |false=>rw[d3] at pc;simp only[go_sem,s134,nk pc,SV,SW,SX,SY,Of,d2];first|rfl|exact aG|exact⟨aG,rfl⟩|exact⟨aG,aG,rfl⟩
   |true=>rw[d3] at pc;simp only[go_sem,s134,nk pc,s135,SV,SW,Zj,Zk,Of,d2];refine⟨aG,?_⟩;refine rB pd lo (.inr (qA (CU _))) fun cc bK gc jr=>?_;simp only[go_sem];exact yO gc
  |false=>
   simp only[go_sem,wz,Pc.ps,KZ,SG,K0,K4,SF,c2];refine eK [0,3,4,5,6,10,11,12,76,101,113] fun HT gY=>?_;have SZ:=gY 0 ae;have Zn:=gY 3 ae;have S7:=gY 4 ae;have S8:=gY 5 ae;have Zo:=gY 6 ae;have Zl:=gY 10 ae;have S5:=gY 11 ae;have Zm:=gY 12 ae;have S9:=gY 76 ae;have S4:=gY 101 ae;have S6:=gY 113 ae;simp only[go_sem,KZ,SA,SB,SC,SD,Oe,Sz,K0,K4] at SZ Zn S7 S8 Zo Zl S5 Zm S9 S4 S6;cases c4:(Q.l.id==P2.l.id) with
   |false=>simp only[go_sem,S7,S8,S9,S4,S6,c4];first|rfl|exact aG|exact⟨aG,rfl⟩|exact⟨aG,aG,rfl⟩
   |true=>
   simp only[go_sem,wz,Pc.ps,SZ,Zl,S5,S9,S4,S6,c4];refine XG [0,3,4,5,6,11,12] fun e19 iB=>?_;have Zp:=iB 0 ae;have Ta:=iB 3 ae;have Tb:=iB 4 ae;have Tc:=iB 5 ae;have Td:=iB 6 ae;have Zq:=iB 11 ae;have Zr:=iB 12 ae;simp only[go_sem,SZ,Zn,S7,S8,Zo,S5,Zm] at Zp Ta Tb Tc Td Zq Zr;cases c5:(Q2.l.id==P.l.id) with
   |false=>simp only[go_sem,Tb,Tc];first|rfl|exact aG|exact⟨aG,rfl⟩|exact⟨aG,aG,rfl⟩
   |true=>
   simp only[go_sem,wz,Ta,Td];refine uT [0,3,4,5,6,11,12,137] fun KQ xn=>?_;have Zs:=xn 0 ae;have Tk:=xn 3 ae;have Tl:=xn 4 ae;have Tm:=xn 5 ae;have Zv:=xn 6 ae;have Zt:=xn 11 ae;have Zu:=xn 12 ae;have Tj:=xn 137 ae;simp only[go_sem,Zp,Ta,Tb,Tc,Td,Zq,Zr] at Zs Tk Tl Tm Zv Zt Zu Tj;cases d1:((((av+2)%ls.length:Nat):Int)==(bv:Int)) with
   |true=>simp only[go_sem,Tl,Tm,Tj,d1];first|rfl|exact aG|exact⟨aG,rfl⟩|exact⟨aG,aG,rfl⟩
   |false=>
   simp only[go_sem,wz,Tk,Zv,Tj,d1];refine uT [0,3,4,5,11,12,147] fun e21 FP=>?_;have Tn:=FP 0 ae;have To:=FP 3 ae;have Tp:=FP 4 ae;have Tq:=FP 5 ae;have Zw:=FP 11 ae;have Zx:=FP 12 ae;have Og:=FP 147 ae;simp only[go_sem,Zs,Tk,Tl,Tm,Zt,Zu] at Tn To Tp Tq Zw Zx Og;cases d2:((((bv+2)%ls.length:Nat):Int)==(av:Int)) with
   |true=>simp only[go_sem,Tp,Tq,Og,d2];first|rfl|exact aG|exact⟨aG,rfl⟩|exact⟨aG,aG,rfl⟩
   |false=>
   cases d3:tm F ls 0 [av,bv] av with
   |false=>rw[d3] at pc;simp only[go_sem,s134,nk pc,Tn,To,Tp,Tq,Og,d2];first|rfl|exact aG|exact⟨aG,rfl⟩|exact⟨aG,aG,rfl⟩
   |true=>rw[d3] at pc;simp only[go_sem,s134,nk pc,s135,Tn,To,Zw,Zx,Og,d2];refine⟨aG,?_⟩;refine rB pd lo (.inr (qA (CU _))) fun cc bK gc jr=>?_;simp only[go_sem];exact yO gc
theorem aj0{Q:dA}{ak:Env}{aj:aA}{os:List aO}{d:Option Nat}{f id ty z:Nat}{es:List (List PV)}{c:C}(UX:∀ {al:Al} {aj:aA},es=[]\/al.ok id=true->grown id ty z es (.one c) aj->∃v ao,iK S f [.one c] al aj v ao/\GL id ty z es c aj v ao)(hg:grown id ty z es (.one c) aj)
  (hK:∀ao,grown id ty z es.reverse (.one c) ao->(∀i,i≠id->ao i=aj i)->RN S .all os Q (put ak d (.tup [])) ao):gP S .all (.sc f [.one c]) d os Q ak aj:=by
 refine rC (P:=GL id ty z es c aj) za (UX ?_ hg) ?_
 .rcases Qa hg with ⟨h,_⟩|h
  .exact .inl h
  exact .inr (se (by simp[h]))
 rintro v ao ⟨rfl,h1,h2⟩
 exact hK ao h1 h2
abbrev JS(x k:Nat)(sg:Int)(ov:Bool):Pc:=⟨⟨2,0,0,((x+k:Nat):Int),sg,ov⟩,false⟩
abbrev EC(F:Nat)(ls:List Let)(d:Nat):Nat:=(ow F ls).getD d 0
abbrev pmF(x:Nat)(sg:Int)(o:Bool):List Pc:=[JS x 1 sg o,JS x 2 (-sg) o]
abbrev pmS(x:Nat)(sg:Int)(o same:Bool):List Pc:=if same then [JS x 2 (-sg) (!o),JS x 1 sg (!o)] else [JS x 1 sg (!o),JS x 2 (-sg) (!o)]
def pmV(ls:List Let)(av bv:Nat)(l o same other:Bool):Option (List Pc):=
 if !same&& !other then none
 else
  let sg:Int:=if o==(same==l) then 1 else -1
  let first:=pmF (aw Let.aB ls/2) sg o
  let second:=pmS (aw Let.aB ls/2) sg o same
  some (if av<bv then Ey (Ey (pieces ls) second bv) first av else Ey (Ey (pieces ls) first av) second bv)
def pmR(F:Nat)(ls:List Let)(av bv:Nat)(l o:Bool):Option (List Pc):=
 if l then pmV ls av bv l o ((EC F ls (2*bv):Int)==(EC F ls (2*av):Int)) ((EC F ls (2*bv+1):Int)==(EC F ls (2*av):Int))
 else pmV ls av bv l o ((EC F ls (2*bv+1):Int)==(EC F ls (2*av+1):Int)) ((EC F ls (2*bv):Int)==(EC F ls (2*av+1):Int))
abbrev KI(F:Nat):V:=.agg [.p (.int .i64 F),.p (.sl [])]
theorem zz:¬(((0:Int))<((0:Nat):Int)):=ae
theorem zm:IntKind.i64.wrap (2*((0:Nat):Int))=((0:Nat):Int):=ae
theorem zr:(0:Nat)<=140737488355328:=ae
theorem zr8:(0:Nat)*8<=140737488355328:=ae
section
variable {F:Nat}
theorem ahL(hF:F<=40):cU (F:Int) []=0:=by unfold cU;rw[if_neg (by simp[aw]),if_neg aa,if_pos rfl]
theorem apf(hF:F<=40):aI S 19 [KI F] (zA (uW F) (.int .i64 0)):=by have pr:=EM F [] (bG _);rw[CR (ahL hF),if_pos rfl] at pr;exact pr
theorem ahh:aI S 103 [.one (.p (uW F))] (.one (.own 4 1 [])):=by refine aZ c103 ?_;simp only[go_sem,i103];refine rj ?_;simp only[go_sem,i103_l1,i103_r2,zz];rfl
theorem ajm(hF:F<=40):aI S 91 [KI F] (.tup [.one (aT zV 5 []),.one (.p (.int .i64 0))]):=by
 have pr:=apf hF;have hLB:∀aj:aA,land aj [] 5824384064 ((RV.one (.own 4 1 [])).gK (S.lone 5824384064))=some (.one (.hsl 5824384064 ((aj 5824384064).1+1) 1 0 0),[(5824384064,((aj 5824384064).1+1,some (.arr 4 1 [])))]):=by intro aj;rw[show S.lone 5824384064=false by kernel_rfl];rfl
 refine aZ c91 ?_;simp only[go_sem,i91,s19,cJ pr fL,s103,cJ ahh (hLB _),zm,zr];refine rj ?_;simp only[go_sem,i91_l1,i91_r2,zz];rfl
theorem anO(hF:F<=40):aI S 74 [KI F] (zA (eI F []) (.int .i64 0)):=by
 have pf:=ajm hF;have pps:aI S 88 [KI F] (ri ((0:Nat):Int)):=VL F [] (bG _);have pcs:aI S 92 [KI F] (ri ((0:Nat):Int)):=Yk F [] (bG _);have lo:S.lone 4736064064=false:=ah;have wF:=cn (n:=F) aa;have r2:(F+1)*8<=140737488355328:=aa;have e2:List.replicate (F+1) [PV.int .i64 0]=nP (counts [] F):=by rw[<- RZ,ff,R0];simp
 refine aZ c74 ?_;simp only[go_sem,i74,s91];refine aaw pf lo fun cf nN u4 nU=>?_;have Kt:=nU 4736000000 ae;simp only[go_sem] at Kt;obtain⟨_,hv⟩|⟨h,_⟩:=u4
 .cases hv;simp only[go_sem,Kt,wF,r2,zm,zr,s88,s92,gU pps,gU pcs,e2];refine⟨aG,?_⟩;refine rj ?_;simp only[go_sem,i74_l1,i74_r6,zz];refine rj ?_;simp only[go_sem,i74_l4,i74_r5,zz];have t2:List.take (F+1) (nP (counts [] F))=nP (counts [] F):=gR (by simp[counts]);have n2:F+1<=(counts [] F).length:=by simp[counts]
  simp only[go_sem,iU,tA,uX,nT,mT,ke,t2,n2];rfl
 exact absurd rfl h
end
section
variable {F:Nat}
end
abbrev circ(b:Nat):List Let:=[⟨1,b,1,0,0,false⟩,⟨1,b,2,0,0,false⟩]
end Go.Abs
