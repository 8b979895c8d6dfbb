/- A part. -/
import Derived.Test.YtonblbhhnelniaaGreatDoorWs
set_option linter.all false
set_option maxRecDepth 100000
set_option maxHeartbeats 16000000
namespace Go.Abs
theorem PI(a b:Nat):(a==b)=((a:Int)==(b:Int)):=by
 by_cases h:a=b
 .simp[h]
 have:(a==b)=false:=by simpa using h
 rw[this];symm;simp;omega
def yt(F:Nat)(ls:List Let)(av bv:Nat):Option (List Pc):=
 if ((kJ ls av true&&kJ ls bv false)||(kJ ls av false&&kJ ls bv true))&&(!((pA ls av).l.id==(pA ls (nx ls av)).l.id)&&
  (((((pA ls bv).l.id==(pA ls av).l.id)&&((pA ls (nx ls bv)).l.id==(pA ls (nx ls av)).l.id))||(((pA ls bv).l.id==(pA ls (nx ls av)).l.id)&&((pA ls (nx ls bv)).l.id==(pA ls av).l.id)))&&
  (!((av+2)%ls.length==bv)&&(!((bv+2)%ls.length==av)&&tq F ls 0 [av,bv] av))))
 then some (FK (pieces ls) [(pA ls av).l.id,(pA ls (nx ls av)).l.id]) else none
theorem ap6{F:Nat}{ls:List Let}(g:dr F ls){av bv:Nat}(ha:av<ls.length)(hb:bv<ls.length){k c:Int}{l o:Bool}{sg:Int}:
  aI S 113 [.one (.p (eB F ls)),lL k av bv c l o sg] (kR (yt F ls av bv)):=by
 have hlen:=g.len;have bK:=fi ls;have pe1:=Ce g ha;have pe2:=Ce g hb;have qU:=dQ (av+1) (show 0<ls.length by omega);have tM:=dQ (bv+1) (show 0<ls.length by omega);have pc:=SI g [av,bv] af (e0:=av) rfl ha 0;simp only[dG,kE] at pc;have c0:((0:Nat):Int)=0:=rfl;rw[c0] at pc;have b1:=HG g ha true;have b2:=HG g hb false;have b3:=HG g ha false;have b4:=HG g hb true;obtain⟨P,hP⟩:=aK (ls:=pieces ls) (k:=av) aa;obtain⟨P2,hP2⟩:=aK (ls:=pieces ls) (k:=(av+1)%ls.length) aa;obtain⟨Q,hQ⟩:=aK (ls:=pieces ls) (k:=bv) aa;obtain⟨Q2,hQ2⟩:=aK (ls:=pieces ls) (k:=(bv+1)%ls.length) aa;have oY:=jN hP;have amq:=jN hP2;have ng:=jN hQ;have amw:=jN hQ2;have hz:¬((ls.length:Int)=0):=aa
 have e2w:IntKind.i64.wrap ((av:Int)+2)=((av+2:Nat):Int):=(vC (x:=(av:Int)+2) aa aa).trans aa;have e2m:=yC (av+2) ls.length;have e3w:IntKind.i64.wrap ((bv:Int)+2)=((bv+2:Nat):Int):=(vC (x:=(bv:Int)+2) aa aa).trans aa;have e3m:=yC (bv+2) ls.length;have lo:S.lone 7232704448=false:=ah;have pd:=ZL (pieces ls) [P.l.id,P2.l.id] aa af (acG g);simp only[dG,kE] at pd;have x3:kJ ls av true=true->kJ ls av false=false:=fun x1=>by
  unfold kJ at x1 ⊢;rw[jA hP] at x1 ⊢;simp only[cH] at x1;have:P.l.over=true:=by simpa using x1.2.2.1
  simp[this]
 unfold yt;rw[jA hP,jA hQ,jA hP2,jA hQ2,PI,PI];have wz:=And.intro oY (And.intro ng (And.intro amq (And.intro amw (And.intro ha (And.intro hb (And.intro qU (And.intro tM (And.intro bK (And.intro e2w (And.intro e2m (And.intro hz (And.intro e3w e3m))))))))))));refine aY c113 ?_;simp only[go_sem,i113,s138,cS b1,wz];refine eD [0,3,4,5,6,7,22] fun e1 h1=>?_;have Lb:=h1 0 ae;have Lc:=h1 3 ae;have TS:=h1 4 ae;have TT:=h1 5 ae;have TU:=h1 6 ae;have TV:=h1 7 ae;have TR:=h1 22 ae;simp only[go_sem] at Lb Lc TS TT TU TV TR;cases x1:kJ ls av true with
 |true=>
  simp only[go_sem,s138,cS b2,Lb,Lc,TR,x1];refine eD [0,3,4,5,6,7,28] fun e2 h2=>?_;have ON:=h2 0 ae;have OO:=h2 3 ae;have T5:=h2 4 ae;have T6:=h2 5 ae;have aaH:=h2 6 ae;have aaI:=h2 7 ae;have T4:=h2 28 ae;simp only[go_sem,Lb,Lc,TS,TT,TU,TV] at ON OO T5 T6 aaH aaI T4;cases x2:kJ ls bv false with
  |false=>have x3':=x3 x1;simp only[go_sem,s138,cS b3,ON,OO,T5,T6,T4,x2,x3'];first|rfl|exact aH|exact⟨aH,rfl⟩|exact⟨aH,aH,rfl⟩
  |true=>
  simp only[go_sem,s127,cX pe1 ia,cX pe2 ia,wz,Pc.ps,ON,OO,aaI,T4,x2];refine⟨aH,?_⟩;refine eD [0,3,4,5,6,9,10,11,12,76] fun e3 h3=>?_;have T7:=h3 0 ae;have aaL:=h3 3 ae;have T9:=h3 4 ae;have Ua:=h3 5 ae;have aaM:=h3 6 ae;have Ub:=h3 9 ae;have aaJ:=h3 10 ae;have T8:=h3 11 ae;have aaK:=h3 12 ae;have OP:=h3 76 ae;simp only[go_sem,ON,OO,T5,T6,aaH] at T7 aaL T9 Ua aaM Ub aaJ T8 aaK OP;cases c1:(P.l.id==P2.l.id) with
  |true=>simp only[go_sem,T9,Ua,OP,c1];first|rfl|exact aH|exact⟨aH,rfl⟩|exact⟨aH,aH,rfl⟩
  |false=>
  simp only[go_sem,wz,Pc.ps,T7,Ub,T8,OP,c1];refine eD [0,3,4,5,6,9,10,11,12,76,88] fun e4 h4=>?_;have Ld:=h4 0 ae;have Ud:=h4 3 ae;have Ue:=h4 4 ae;have Uf:=h4 5 ae;have Ug:=h4 6 ae;have Ui:=h4 9 ae;have OQ:=h4 10 ae;have Uc:=h4 11 ae;have Le:=h4 12 ae;have Lf:=h4 76 ae;have Uh:=h4 88 ae;simp only[go_sem,T7,aaL,T9,Ua,aaM,Ub,aaJ,T8,aaK,OP,c1] at Ld Ud Ue Uf Ug Ui OQ Uc Le Lf Uh;cases c2:(Q.l.id==P.l.id) with
  |true=>
   have c4:(Q.l.id==P2.l.id)=false:=by
    have h1:Q.l.id=P.l.id:=by simpa using c2
    rw[h1];exact c1
   simp only[go_sem,wz,Pc.ps,Ld,OQ,Le,Lf,Uh,c2];refine eD [0,3,4,5,6,9,10,11,12,76,101] fun e5 h5=>?_;have Uj:=h5 0 ae;have Um:=h5 3 ae;have Un:=h5 4 ae;have Uo:=h5 5 ae;have Up:=h5 6 ae;have aaO:=h5 9 ae;have ala:=h5 10 ae;have aaN:=h5 11 ae;have Ul:=h5 12 ae;have Uq:=h5 76 ae;have Uk:=h5 101 ae;simp only[go_sem,Ld,Ud,Ue,Uf,Ug,Ui,OQ,Uc,Le,Lf] at Uj Um Un Uo Up aaO ala aaN Ul Uq Uk;cases c3:(Q2.l.id==P2.l.id) with
   |false=>simp only[go_sem,wz,Pc.ps,Uj,Un,Uo,aaO,Ul,Uq,Uk,c3,c4];first|rfl|exact aH|exact⟨aH,rfl⟩|exact⟨aH,aH,rfl⟩
   |true=>
   simp only[go_sem,wz,Um,Up,Uq,Uk,c3];refine uU [0,3,4,5,6,11,12,137] fun e6 h6=>?_;have aaP:=h6 0 ae;have Us:=h6 3 ae;have Ut:=h6 4 ae;have Uu:=h6 5 ae;have aaS:=h6 6 ae;have aaQ:=h6 11 ae;have aaR:=h6 12 ae;have Ur:=h6 137 ae;simp only[go_sem,Uj,Um,Un,Uo,Up,aaN,Ul] at aaP Us Ut Uu aaS aaQ aaR Ur;cases d1:((((av+2)%ls.length:Nat):Int)==(bv:Int)) with
   |true=>simp only[go_sem,Ut,Uu,Ur,d1];first|rfl|exact aH|exact⟨aH,rfl⟩|exact⟨aH,aH,rfl⟩
   |false=>
   simp only[go_sem,wz,Us,aaS,Ur,d1];refine uU [0,3,4,5,11,12,147] fun e7 h7=>?_;have Uv:=h7 0 ae;have Uw:=h7 3 ae;have Ux:=h7 4 ae;have Uy:=h7 5 ae;have aaT:=h7 11 ae;have aaU:=h7 12 ae;have OR:=h7 147 ae;simp only[go_sem,aaP,Us,Ut,Uu,aaQ,aaR] at Uv Uw Ux Uy aaT aaU OR;cases d2:((((bv+2)%ls.length:Nat):Int)==(av:Int)) with
   |true=>simp only[go_sem,Ux,Uy,OR,d2];first|rfl|exact aH|exact⟨aH,rfl⟩|exact⟨aH,aH,rfl⟩
   |false=>
   cases d3:tq F ls 0 [av,bv] av with
   |false=>rw[d3] at pc;simp only[go_sem,s135,tu pc,Uv,Uw,Ux,Uy,OR,d2];first|rfl|exact aH|exact⟨aH,rfl⟩|exact⟨aH,aH,rfl⟩
   |true=>rw[d3] at pc;simp only[go_sem,s135,tu pc,s136,Uv,Uw,aaT,aaU,OR,d2];refine⟨aH,?_⟩;refine lW pd lo (.inr (nI (Dg _))) fun cc bG gc iu=>?_;simp only[go_sem];exact xD gc
  |false=>
   simp only[go_sem,wz,Pc.ps,Ld,Ui,Le,Lf,Uh,c2];refine eD [0,3,4,5,6,10,11,12,76,101,113] fun e8 h8=>?_;have Uz:=h8 0 ae;have aaX:=h8 3 ae;have UD:=h8 4 ae;have UE:=h8 5 ae;have aaY:=h8 6 ae;have aaV:=h8 10 ae;have UB:=h8 11 ae;have aaW:=h8 12 ae;have UF:=h8 76 ae;have UA:=h8 101 ae;have UC:=h8 113 ae;simp only[go_sem,Ld,Ud,Ue,Uf,Ug,OQ,Uc,Le,Lf] at Uz aaX UD UE aaY aaV UB aaW UF UA UC;cases c4:(Q.l.id==P2.l.id) with
   |false=>simp only[go_sem,UD,UE,UF,UA,UC,c4];first|rfl|exact aH|exact⟨aH,rfl⟩|exact⟨aH,aH,rfl⟩
   |true=>
   simp only[go_sem,wz,Pc.ps,Uz,aaV,UB,UF,UA,UC,c4];refine Yz [0,3,4,5,6,11,12] fun e9 h9=>?_;have aaZ:=h9 0 ae;have UG:=h9 3 ae;have UH:=h9 4 ae;have UI:=h9 5 ae;have UJ:=h9 6 ae;have aa0:=h9 11 ae;have aa1:=h9 12 ae;simp only[go_sem,Uz,aaX,UD,UE,aaY,UB,aaW] at aaZ UG UH UI UJ aa0 aa1;cases c5:(Q2.l.id==P.l.id) with
   |false=>simp only[go_sem,UH,UI];first|rfl|exact aH|exact⟨aH,rfl⟩|exact⟨aH,aH,rfl⟩
   |true=>
   simp only[go_sem,wz,UG,UJ];refine uU [0,3,4,5,6,11,12,137] fun qJ dF=>?_;have aaa:=dF 0 ae;have S3:=dF 3 ae;have S4:=dF 4 ae;have S5:=dF 5 ae;have aad:=dF 6 ae;have aab:=dF 11 ae;have aac:=dF 12 ae;have S2:=dF 137 ae;simp only[go_sem,aaZ,UG,UH,UI,UJ,aa0,aa1] at aaa S3 S4 S5 aad aab aac S2;cases d1:((((av+2)%ls.length:Nat):Int)==(bv:Int)) with
   |true=>simp only[go_sem,S4,S5,S2,d1];first|rfl|exact aH|exact⟨aH,rfl⟩|exact⟨aH,aH,rfl⟩
   |false=>
   simp only[go_sem,wz,S3,aad,S2,d1];refine uU [0,3,4,5,11,12,147] fun e11 dK=>?_;have S6:=dK 0 ae;have S7:=dK 3 ae;have S8:=dK 4 ae;have S9:=dK 5 ae;have aae:=dK 11 ae;have aaf:=dK 12 ae;have OE:=dK 147 ae;simp only[go_sem,aaa,S3,S4,S5,aab,aac] at S6 S7 S8 S9 aae aaf OE;cases d2:((((bv+2)%ls.length:Nat):Int)==(av:Int)) with
   |true=>simp only[go_sem,S8,S9,OE,d2];first|rfl|exact aH|exact⟨aH,rfl⟩|exact⟨aH,aH,rfl⟩
   |false=>
   cases d3:tq F ls 0 [av,bv] av with
   |false=>rw[d3] at pc;simp only[go_sem,s135,tu pc,S6,S7,S8,S9,OE,d2];first|rfl|exact aH|exact⟨aH,rfl⟩|exact⟨aH,aH,rfl⟩
   |true=>rw[d3] at pc;simp only[go_sem,s135,tu pc,s136,S6,S7,aae,aaf,OE,d2];refine⟨aH,?_⟩;refine lW pd lo (.inr (nI (Dg _))) fun cc bG gc iu=>?_;simp only[go_sem];exact xD gc
 |false=>
  simp only[go_sem,s138,cS b3,Lb,Lc,TR,x1];refine eD [0,3,4,5,6,7,28,33] fun e12 gA=>?_;have OF:=gA 0 ae;have OG:=gA 3 ae;have OH:=gA 4 ae;have OI:=gA 5 ae;have aag:=gA 6 ae;have aah:=gA 7 ae;have Ta:=gA 28 ae;have Tb:=gA 33 ae;simp only[go_sem,Lb,Lc,TS,TT,TU,TV] at OF OG OH OI aag aah Ta Tb;cases x4:kJ ls av false with
  |false=>simp only[go_sem,OH,OI,Ta,Tb,x4];first|rfl|exact aH|exact⟨aH,rfl⟩|exact⟨aH,aH,rfl⟩
  |true=>
  simp only[go_sem,s138,cS b4,OF,OG,Ta,Tb,x4];cases x5:kJ ls bv true with
  |false=>simp only[go_sem,OH,OI];first|rfl|exact aH|exact⟨aH,rfl⟩|exact⟨aH,aH,rfl⟩
  |true=>
  simp only[go_sem,s127,cX pe1 ia,cX pe2 ia,wz,Pc.ps,OF,OG,aah];refine⟨aH,?_⟩;refine eD [0,3,4,5,6,9,10,11,12,76] fun FL qf=>?_;have Tc:=qf 0 ae;have aak:=qf 3 ae;have Te:=qf 4 ae;have Tf:=qf 5 ae;have aal:=qf 6 ae;have Tg:=qf 9 ae;have aai:=qf 10 ae;have Td:=qf 11 ae;have aaj:=qf 12 ae;have OJ:=qf 76 ae;simp only[go_sem,OF,OG,OH,OI,aag] at Tc aak Te Tf aal Tg aai Td aaj OJ;cases c1:(P.l.id==P2.l.id) with
  |true=>simp only[go_sem,Te,Tf,OJ,c1];first|rfl|exact aH|exact⟨aH,rfl⟩|exact⟨aH,aH,rfl⟩
  |false=>
  simp only[go_sem,wz,Pc.ps,Tc,Tg,Td,OJ,c1];refine eD [0,3,4,5,6,9,10,11,12,76,88] fun FM lX=>?_;have K8:=lX 0 ae;have Ti:=lX 3 ae;have Tj:=lX 4 ae;have Tk:=lX 5 ae;have Tl:=lX 6 ae;have Tn:=lX 9 ae;have OK:=lX 10 ae;have Th:=lX 11 ae;have K9:=lX 12 ae;have La:=lX 76 ae;have Tm:=lX 88 ae;simp only[go_sem,Tc,aak,Te,Tf,aal,Tg,aai,Td,aaj,OJ,c1] at K8 Ti Tj Tk Tl Tn OK Th K9 La Tm;cases c2:(Q.l.id==P.l.id) with
  |true=>
   have c4:(Q.l.id==P2.l.id)=false:=by
    have h1:Q.l.id=P.l.id:=by simpa using c2
    rw[h1];exact c1
   simp only[go_sem,wz,Pc.ps,K8,OK,K9,La,Tm,c2];refine eD [0,3,4,5,6,9,10,11,12,76,101] fun e15 jG=>?_;have To:=jG 0 ae;have Ts:=jG 3 ae;have Tt:=jG 4 ae;have Tu:=jG 5 ae;have Tv:=jG 6 ae;have aan:=jG 9 ae;have ak9:=jG 10 ae;have aam:=jG 11 ae;have Tq:=jG 12 ae;have Tw:=jG 76 ae;have Tp:=jG 101 ae;simp only[go_sem,K8,Ti,Tj,Tk,Tl,Tn,OK,Th,K9,La] at To Ts Tt Tu Tv aan ak9 aam Tq Tw Tp;cases c3:(Q2.l.id==P2.l.id) with
   |false=>simp only[go_sem,wz,Pc.ps,To,Tt,Tu,aan,Tq,Tw,Tp,c3,c4];first|rfl|exact aH|exact⟨aH,rfl⟩|exact⟨aH,aH,rfl⟩
   |true=>
   simp only[go_sem,wz,Ts,Tv,Tw,Tp,c3];refine uU [0,3,4,5,6,11,12,137] fun DQ oX=>?_;have aao:=oX 0 ae;have Ty:=oX 3 ae;have Tz:=oX 4 ae;have TA:=oX 5 ae;have aar:=oX 6 ae;have aap:=oX 11 ae;have aaq:=oX 12 ae;have Tx:=oX 137 ae;simp only[go_sem,To,Ts,Tt,Tu,Tv,aam,Tq] at aao Ty Tz TA aar aap aaq Tx;cases d1:((((av+2)%ls.length:Nat):Int)==(bv:Int)) with
   |true=>simp only[go_sem,Tz,TA,Tx,d1];first|rfl|exact aH|exact⟨aH,rfl⟩|exact⟨aH,aH,rfl⟩
   |false=>
   simp only[go_sem,wz,Ty,aar,Tx,d1];refine uU [0,3,4,5,11,12,147] fun H0 gJ=>?_;have TB:=gJ 0 ae;have TC:=gJ 3 ae;have TD:=gJ 4 ae;have TE:=gJ 5 ae;have aas:=gJ 11 ae;have aat:=gJ 12 ae;have OL:=gJ 147 ae;simp only[go_sem,aao,Ty,Tz,TA,aap,aaq] at TB TC TD TE aas aat OL;cases d2:((((bv+2)%ls.length:Nat):Int)==(av:Int)) with
   |true=>simp only[go_sem,TD,TE,OL,d2];first|rfl|exact aH|exact⟨aH,rfl⟩|exact⟨aH,aH,rfl⟩
   |false=>
   cases d3:tq F ls 0 [av,bv] av with
   |false=>rw[d3] at pc;simp only[go_sem,s135,tu pc,TB,TC,TD,TE,OL,d2];first|rfl|exact aH|exact⟨aH,rfl⟩|exact⟨aH,aH,rfl⟩
   |true=>rw[d3] at pc;simp only[go_sem,s135,tu pc,s136,TB,TC,aas,aat,OL,d2];refine⟨aH,?_⟩;refine lW pd lo (.inr (nI (Dg _))) fun cc bG gc iu=>?_;simp only[go_sem];exact xD gc
  |false=>
   simp only[go_sem,wz,Pc.ps,K8,Tn,K9,La,Tm,c2];refine eD [0,3,4,5,6,10,11,12,76,101,113] fun Ia gK=>?_;have TG:=gK 0 ae;have aaw:=gK 3 ae;have TK:=gK 4 ae;have TL:=gK 5 ae;have aax:=gK 6 ae;have aau:=gK 10 ae;have TI:=gK 11 ae;have aav:=gK 12 ae;have TM:=gK 76 ae;have TH:=gK 101 ae;have TJ:=gK 113 ae;simp only[go_sem,K8,Ti,Tj,Tk,Tl,OK,Th,K9,La] at TG aaw TK TL aax aau TI aav TM TH TJ;cases c4:(Q.l.id==P2.l.id) with
   |false=>simp only[go_sem,TK,TL,TM,TH,TJ,c4];first|rfl|exact aH|exact⟨aH,rfl⟩|exact⟨aH,aH,rfl⟩
   |true=>
   simp only[go_sem,wz,Pc.ps,TG,aau,TI,TM,TH,TJ,c4];refine Yz [0,3,4,5,6,11,12] fun e19 gG=>?_;have aay:=gG 0 ae;have TN:=gG 3 ae;have TO:=gG 4 ae;have TP:=gG 5 ae;have TQ:=gG 6 ae;have aaz:=gG 11 ae;have aaA:=gG 12 ae;simp only[go_sem,TG,aaw,TK,TL,aax,TI,aav] at aay TN TO TP TQ aaz aaA;cases c5:(Q2.l.id==P.l.id) with
   |false=>simp only[go_sem,TO,TP];first|rfl|exact aH|exact⟨aH,rfl⟩|exact⟨aH,aH,rfl⟩
   |true=>
   simp only[go_sem,wz,TN,TQ];refine uU [0,3,4,5,6,11,12,137] fun e20 lY=>?_;have aaB:=lY 0 ae;have TX:=lY 3 ae;have TY:=lY 4 ae;have TZ:=lY 5 ae;have aaE:=lY 6 ae;have aaC:=lY 11 ae;have aaD:=lY 12 ae;have TW:=lY 137 ae;simp only[go_sem,aay,TN,TO,TP,TQ,aaz,aaA] at aaB TX TY TZ aaE aaC aaD TW;cases d1:((((av+2)%ls.length:Nat):Int)==(bv:Int)) with
   |true=>simp only[go_sem,TY,TZ,TW,d1];first|rfl|exact aH|exact⟨aH,rfl⟩|exact⟨aH,aH,rfl⟩
   |false=>
   simp only[go_sem,wz,TX,aaE,TW,d1];refine uU [0,3,4,5,11,12,147] fun e21 qO=>?_;have T0:=qO 0 ae;have T1:=qO 3 ae;have T2:=qO 4 ae;have T3:=qO 5 ae;have aaF:=qO 11 ae;have aaG:=qO 12 ae;have OM:=qO 147 ae;simp only[go_sem,aaB,TX,TY,TZ,aaC,aaD] at T0 T1 T2 T3 aaF aaG OM;cases d2:((((bv+2)%ls.length:Nat):Int)==(av:Int)) with
   |true=>simp only[go_sem,T2,T3,OM,d2];first|rfl|exact aH|exact⟨aH,rfl⟩|exact⟨aH,aH,rfl⟩
   |false=>
   cases d3:tq F ls 0 [av,bv] av with
   |false=>rw[d3] at pc;simp only[go_sem,s135,tu pc,T0,T1,T2,T3,OM,d2];first|rfl|exact aH|exact⟨aH,rfl⟩|exact⟨aH,aH,rfl⟩
   |true=>rw[d3] at pc;simp only[go_sem,s135,tu pc,s136,T0,T1,aaF,aaG,OM,d2];refine⟨aH,?_⟩;refine lW pd lo (.inr (nI (Dg _))) fun cc bG gc iu=>?_;simp only[go_sem];exact xD gc
theorem abK{Q:dy}{ak:Env}{aj:aq}{os:List bl}{d:Option Nat}{f id ty z:Nat}{es:List (List PV)}{c:C}(VM:∀ {al:Al} {aj:aq},es=[]\/al.ok id=true->grown id ty z es (.one c) aj->∃v ao,iJ S f [.one c] al aj v ao/\GW id ty z es c aj v ao)(hg:grown id ty z es (.one c) aj)
  (hK:∀ao,grown id ty z es.reverse (.one c) ao->(∀i,i≠id->ao i=aj i)->RN S .all os Q (put ak d (.tup [])) ao):gP S .all (.sc f [.one c]) d os Q ak aj:=by
 refine rM (P:=GW id ty z es c aj) zH (VM ?_ hg) ?_
 .rcases QE hg with ⟨h,_⟩|h
  .exact .inl h
  exact .inr (sB (by simp[h]))
 rintro v ao ⟨rfl,h1,h2⟩
 exact hK ao h1 h2
abbrev Fb(x k:Nat)(sg:Int)(ov:Bool):Pc:=⟨⟨2,0,0,((x+k:Nat):Int),sg,ov⟩,false⟩
abbrev ww(ls:List Let)(s t:Int)(o:Bool):List Pc:=[Fb (ay Let.aC ls/2) 2 t o,Fb (ay Let.aC ls/2) 1 s o]
abbrev EJ(F:Nat)(ls:List Let)(d:Nat):Nat:=(nX F ls).getD d 0
abbrev pmF(x:Nat)(sg:Int)(o:Bool):List Pc:=[Fb x 1 sg o,Fb x 2 (-sg) o]
abbrev pmS(x:Nat)(sg:Int)(o same:Bool):List Pc:=if same then [Fb x 2 (-sg) (!o),Fb x 1 sg (!o)] else [Fb x 1 sg (!o),Fb x 2 (-sg) (!o)]
def pmV(ls:List Let)(av bv:Nat)(l o same other:Bool):Option (List Pc):=
 if !same&& !other then none
 else
  let sg:Int:=if o==(same==l) then 1 else -1
  let first:=pmF (ay Let.aC ls/2) sg o
  let second:=pmS (ay Let.aC ls/2) sg o same
  some (if av<bv then EF (EF (pieces ls) second bv) first av else EF (EF (pieces ls) first av) second bv)
def pmR(F:Nat)(ls:List Let)(av bv:Nat)(l o:Bool):Option (List Pc):=
 if l then pmV ls av bv l o ((EJ F ls (2*bv):Int)==(EJ F ls (2*av):Int)) ((EJ F ls (2*bv+1):Int)==(EJ F ls (2*av):Int))
 else pmV ls av bv l o ((EJ F ls (2*bv+1):Int)==(EJ F ls (2*av+1):Int)) ((EJ F ls (2*bv):Int)==(EJ F ls (2*av+1):Int))
abbrev KQ(F:Nat):V:=.agg [.p (.int .i64 F),.p (.sl [])]
theorem zz:¬(((0:Int))<((0:Nat):Int)):=ae
theorem zm:IntKind.i64.wrap (2*((0:Nat):Int))=((0:Nat):Int):=ae
theorem zr:(0:Nat)<=140737488355328:=ae
theorem zr8:(0:Nat)*8<=140737488355328:=ae
section
variable {F:Nat}
theorem ajt(hF:F<=40):cN (F:Int) []=0:=by unfold cN;rw[if_neg (by simp[ay]),if_neg aa,if_pos rfl]
theorem arp(hF:F<=40):aI S 21 [KQ F] (vu (y8 F) (.int .i64 0)):=by have pr:=Nw F [] (bd _);rw[JH (ajt hF),if_pos rfl] at pr;exact pr
theorem ai4:aI S 105 [.one (.p (y8 F))] (.one (.own 4 1 [])):=by refine aY c105 ?_;simp only[go_sem,i105];refine sA ?_;simp only[go_sem,i105_l1,i105_r2,zz];rfl
theorem alf(hF:F<=40):aI S 91 [KQ F] (.tup [.one (aR Ai 5 []),.one (.p (.int .i64 0))]):=by
 have pr:=arp hF;have hLB:∀aj:aq,land aj [] 5824384064 ((RV.one (.own 4 1 [])).ig (S.lone 5824384064))=some (.one (.hsl 5824384064 ((aj 5824384064).1+1) 1 0 0),[(5824384064,((aj 5824384064).1+1,some (.arr 4 1 [])))]):=by intro aj;rw[show S.lone 5824384064=false by kernel_rfl];rfl
 refine aY c91 ?_;simp only[go_sem,i91,s21,cX pr ia,s105,cX ai4 (hLB _),zm,zr];refine sA ?_;simp only[go_sem,i91_l1,i91_r2,zz];rfl
theorem apU(hF:F<=40):aI S 74 [KQ F] (vu (eB F []) (.int .i64 0)):=by
 have pf:=alf hF;have pps:aI S 87 [KQ F] (ri ((0:Nat):Int)):=Wv F [] (bd _);have pcs:aI S 92 [KQ F] (ri ((0:Nat):Int)):=Zv F [] (bd _);have lo:S.lone 4736064064=false:=ah;have wF:=cK (n:=F) aa;have r2:(F+1)*8<=140737488355328:=aa;have e2:List.replicate (F+1) [PV.int .i64 0]=nP (counts [] F):=by rw[<- SL,dN,SM];simp
 refine aY c74 ?_;simp only[go_sem,i74,s91];refine abF pf lo fun cf kI uY mA=>?_;have KD:=mA 4736000000 ae;simp only[go_sem] at KD;obtain⟨_,hv⟩|⟨h,_⟩:=uY
 .cases hv;simp only[go_sem,KD,wF,r2,zm,zr,s87,s92,rI pps,rI pcs,e2];refine⟨aH,?_⟩;refine sA ?_;simp only[go_sem,i74_l1,i74_r6,zz];refine sA ?_;simp only[go_sem,i74_l4,i74_r5,zz];have t2:List.take (F+1) (nP (counts [] F))=nP (counts [] F):=fS (by simp[counts]);have n2:F+1<=(counts [] F).length:=by simp[counts]
  simp only[go_sem,iA,rK,tD,my,lM,jc,t2,n2];rfl
 exact absurd rfl h
end
section
variable {F:Nat}
end
abbrev circ(b:Nat):List Let:=[⟨1,b,1,0,0,false⟩,⟨1,b,2,0,0,false⟩]
end Go.Abs
