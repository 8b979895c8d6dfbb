/- A part. -/
import Derived.Test.YtfdblnecoamlbaaGreatDoorWs
set_option linter.all false
set_option maxRecDepth 100000
set_option maxHeartbeats 16000000
namespace Go.Abs
def QT(a b:Nat):(a==b)=((a:Int)==(b:Int)):=by
 by_cases h:a=b
 .simp[h]
 have:(a==b)=false:=by simpa using h
 rw[this];symm;simp;omega
def uS(F:Nat)(ls:ai)(av bv:Nat):Option c_:=
 if ((jt ls av true&&jt ls bv false)||(jt ls av false&&jt ls bv true))&&(!((pA ls av).l.id==(pA ls (nx ls av)).l.id)&&
  (((((pA ls bv).l.id==(pA ls av).l.id)&&((pA ls (nx ls bv)).l.id==(pA ls (nx ls av)).l.id))||(((pA ls bv).l.id==(pA ls (nx ls av)).l.id)&&((pA ls (nx ls bv)).l.id==(pA ls av).l.id)))&&
  (!((av+2)%ls.length==bv)&&(!((bv+2)%ls.length==av)&&lk F ls 0 [av,bv] av))))
 then some (Jv (pieces ls) [(pA ls av).l.id,(pA ls (nx ls av)).l.id]) else none
def arx{F:Nat}{ls:ai}(g:cX F ls){av bv:Nat}(ha:av<ls.length)(hb:bv<ls.length){k c:Int}{l o:Bool}{sg:Int}:
  aK S 108 [.one (.p (eU F ls)),lL k av bv c l o sg] (kR (uS F ls av bv)):=by
 have hlen:=g.len;have bY:=fK ls;have pe1:=C0 g ha;have pe2:=C0 g hb;have mQ:=dr (av+1) (show 0<ls.length by omega);have vC:=dr (bv+1) (show 0<ls.length by omega);have pc:=TS g [av,bv] af (e0:=av) rfl ha 0;simp only[eh,lQ] at pc;have c0:((0:Nat):Int)=0:=rfl;rw[c0] at pc;have b1:=Jf g ha true;have b2:=Jf g hb false;have b3:=Jf g ha false;have b4:=Jf g hb true;obtain⟨P,hP⟩:=aM (ls:=pieces ls) (k:=av) aa;obtain⟨P2,hP2⟩:=aM (ls:=pieces ls) (k:=(av+1)%ls.length) aa;obtain⟨Q,hQ⟩:=aM (ls:=pieces ls) (k:=bv) aa;obtain⟨Q2,hQ2⟩:=aM (ls:=pieces ls) (k:=(bv+1)%ls.length) aa;have oZ:=kI hP;have anU:=kI hP2;have lD:=kI hQ;have an0:=kI hQ2;have hz:¬((ls.length:Int)=0):=aa
 have e2w:IntKind.i64.wrap ((av:Int)+2)=((av+2:Nat):Int):=(uZ (x:=(av:Int)+2) aa aa).trans aa;have e2m:=w9 (av+2) ls.length;have e3w:IntKind.i64.wrap ((bv:Int)+2)=((bv+2:Nat):Int):=(uZ (x:=(bv:Int)+2) aa aa).trans aa;have e3m:=w9 (bv+2) ls.length;have lo:S.lone 6912704448=false:=ah;have pd:=abv (pieces ls) [P.l.id,P2.l.id] aa af (aep g);simp only[eh,lQ] at pd;have x3:jt ls av true=true->jt ls av false=false:=fun x1=>by
  unfold jt at x1 |-;rw[je hP] at x1 |-;simp only[cU] at x1;have:P.l.over=true:=by simpa using x1.2.2.1
  simp[this]
 unfold uS;rw[je hP,je hQ,je hP2,je hQ2,QT,QT];have wz:=And.intro oZ (And.intro lD (And.intro anU (And.intro an0 (And.intro ha (And.intro hb (And.intro mQ (And.intro vC (And.intro bY (And.intro e2w (And.intro e2m (And.intro hz (And.intro e3w e3m))))))))))));refine bk c108 ?_;simp only[go_sem,i108,s138,dZ b1,wz];refine jv [0,3,4,5,6,7,22] fun e1 h1=>?_;have Mx:=h1 0 ae;have My:=h1 3 ae;have U0:=h1 4 ae;have U1:=h1 5 ae;have U2:=h1 6 ae;have U3:=h1 7 ae;have UZ:=h1 22 ae;simp only[go_sem] at Mx My U0 U1 U2 U3 UZ;cases x1:jt ls av true with
 |true=>
  simp only[go_sem,s138,dZ b2,Mx,My,UZ,x1];refine jv [0,3,4,5,6,7,28] fun e2 h2=>?_;have PO:=h2 0 ae;have PQ:=h2 3 ae;have Vi:=h2 4 ae;have Vj:=h2 5 ae;have acm:=h2 6 ae;have acn:=h2 7 ae;have Vh:=h2 28 ae;simp only[go_sem,Mx,My,U0,U1,U2,U3] at PO PQ Vi Vj acm acn Vh;cases x2:jt ls bv false with
  |false=>have x3':=x3 x1;simp only[go_sem,s138,dZ b3,PO,PQ,Vi,Vj,Vh,x2,x3'];first|rfl|exact aJ|exact⟨aJ,rfl⟩|exact⟨aJ,aJ,rfl⟩
  |true=>
  simp only[go_sem,s127,de pe1 iB,de pe2 iB,wz,Pc.ps,PO,PQ,acn,Vh,x2];refine⟨aJ,?_⟩;refine jv [0,3,4,5,6,9,10,11,12,76] fun e3 h3=>?_;have Vk:=h3 0 ae;have acq:=h3 3 ae;have Vm:=h3 4 ae;have Vn:=h3 5 ae;have acr:=h3 6 ae;have Vo:=h3 9 ae;have aco:=h3 10 ae;have Vl:=h3 11 ae;have acp:=h3 12 ae;have PS:=h3 76 ae;simp only[go_sem,PO,PQ,Vi,Vj,acm] at Vk acq Vm Vn acr Vo aco Vl acp PS;cases c1:(P.l.id==P2.l.id) with
  |true=>simp only[go_sem,Vm,Vn,PS,c1];first|rfl|exact aJ|exact⟨aJ,rfl⟩|exact⟨aJ,aJ,rfl⟩
  |false=>
  simp only[go_sem,wz,Pc.ps,Vk,Vo,Vl,PS,c1];refine jv [0,3,4,5,6,9,10,11,12,76,88] fun e4 h4=>?_;have Mz:=h4 0 ae;have Vq:=h4 3 ae;have Vr:=h4 4 ae;have Vs:=h4 5 ae;have Vt:=h4 6 ae;have Vv:=h4 9 ae;have PT:=h4 10 ae;have Vp:=h4 11 ae;have MA:=h4 12 ae;have MB:=h4 76 ae;have Vu:=h4 88 ae;simp only[go_sem,Vk,acq,Vm,Vn,acr,Vo,aco,Vl,acp,PS,c1] at Mz Vq Vr Vs Vt Vv PT Vp MA MB Vu;cases c2:(Q.l.id==P.l.id) with
  |true=>
   have c4:(Q.l.id==P2.l.id)=false:=by
    have h1:Q.l.id=P.l.id:=by simpa using c2
    rw[h1];exact c1
   simp only[go_sem,wz,Pc.ps,Mz,PT,MA,MB,Vu,c2];refine jv [0,3,4,5,6,9,10,11,12,76,101] fun e5 h5=>?_;have Vw:=h5 0 ae;have Vz:=h5 3 ae;have VA:=h5 4 ae;have VB:=h5 5 ae;have VC:=h5 6 ae;have acu:=h5 9 ae;have amE:=h5 10 ae;have acs:=h5 11 ae;have Vy:=h5 12 ae;have VD:=h5 76 ae;have Vx:=h5 101 ae;simp only[go_sem,Mz,Vq,Vr,Vs,Vt,Vv,PT,Vp,MA,MB] at Vw Vz VA VB VC acu amE acs Vy VD Vx;cases c3:(Q2.l.id==P2.l.id) with
   |false=>simp only[go_sem,wz,Pc.ps,Vw,VA,VB,acu,Vy,VD,Vx,c3,c4];first|rfl|exact aJ|exact⟨aJ,rfl⟩|exact⟨aJ,aJ,rfl⟩
   |true=>
   simp only[go_sem,wz,Vz,VC,VD,Vx,c3];refine wg [0,3,4,5,6,11,12,137] fun e6 h6=>?_;have acv:=h6 0 ae;have VF:=h6 3 ae;have VG:=h6 4 ae;have VH:=h6 5 ae;have acy:=h6 6 ae;have acw:=h6 11 ae;have acx:=h6 12 ae;have VE:=h6 137 ae;simp only[go_sem,Vw,Vz,VA,VB,VC,acs,Vy] at acv VF VG VH acy acw acx VE;cases d1:((((av+2)%ls.length:Nat):Int)==(bv:Int)) with
   |true=>simp only[go_sem,VG,VH,VE,d1];first|rfl|exact aJ|exact⟨aJ,rfl⟩|exact⟨aJ,aJ,rfl⟩
   |false=>
   simp only[go_sem,wz,VF,acy,VE,d1];refine wg [0,3,4,5,11,12,147] fun e7 h7=>?_;have VI:=h7 0 ae;have VJ:=h7 3 ae;have VK:=h7 4 ae;have VL:=h7 5 ae;have acz:=h7 11 ae;have acA:=h7 12 ae;have PU:=h7 147 ae;simp only[go_sem,acv,VF,VG,VH,acw,acx] at VI VJ VK VL acz acA PU;cases d2:((((bv+2)%ls.length:Nat):Int)==(av:Int)) with
   |true=>simp only[go_sem,VK,VL,PU,d2];first|rfl|exact aJ|exact⟨aJ,rfl⟩|exact⟨aJ,aJ,rfl⟩
   |false=>
   cases d3:lk F ls 0 [av,bv] av with
   |false=>rw[d3] at pc;simp only[go_sem,s135,nX pc,VI,VJ,VK,VL,PU,d2];first|rfl|exact aJ|exact⟨aJ,rfl⟩|exact⟨aJ,aJ,rfl⟩
   |true=>rw[d3] at pc;simp only[go_sem,s135,nX pc,s136,VI,VJ,acz,acA,PU,d2];refine⟨aJ,?_⟩;refine rX pd lo (.inr (qY (DZ _))) fun cc bU gc iW=>?_;simp only[go_sem];exact yE gc
  |false=>
   simp only[go_sem,wz,Pc.ps,Mz,Vv,MA,MB,Vu,c2];refine jv [0,3,4,5,6,10,11,12,76,101,113] fun e8 h8=>?_;have VM:=h8 0 ae;have acD:=h8 3 ae;have VQ:=h8 4 ae;have VR:=h8 5 ae;have acE:=h8 6 ae;have acB:=h8 10 ae;have VO:=h8 11 ae;have acC:=h8 12 ae;have VS:=h8 76 ae;have VN:=h8 101 ae;have VP:=h8 113 ae;simp only[go_sem,Mz,Vq,Vr,Vs,Vt,PT,Vp,MA,MB] at VM acD VQ VR acE acB VO acC VS VN VP;cases c4:(Q.l.id==P2.l.id) with
   |false=>simp only[go_sem,VQ,VR,VS,VN,VP,c4];first|rfl|exact aJ|exact⟨aJ,rfl⟩|exact⟨aJ,aJ,rfl⟩
   |true=>
   simp only[go_sem,wz,Pc.ps,VM,acB,VO,VS,VN,VP,c4];refine aak [0,3,4,5,6,11,12] fun e9 h9=>?_;have acF:=h9 0 ae;have VT:=h9 3 ae;have VU:=h9 4 ae;have VV:=h9 5 ae;have VW:=h9 6 ae;have acG:=h9 11 ae;have acH:=h9 12 ae;simp only[go_sem,VM,acD,VQ,VR,acE,VO,acC] at acF VT VU VV VW acG acH;cases c5:(Q2.l.id==P.l.id) with
   |false=>simp only[go_sem,VU,VV];first|rfl|exact aJ|exact⟨aJ,rfl⟩|exact⟨aJ,aJ,rfl⟩
   |true=>
   simp only[go_sem,wz,VT,VW];refine wg [0,3,4,5,6,11,12,137] fun rU ff=>?_;have abN:=ff 0 ae;have Uc:=ff 3 ae;have Ud:=ff 4 ae;have Ue:=ff 5 ae;have abQ:=ff 6 ae;have abO:=ff 11 ae;have abP:=ff 12 ae;have Ub:=ff 137 ae;simp only[go_sem,acF,VT,VU,VV,VW,acG,acH] at abN Uc Ud Ue abQ abO abP Ub;cases d1:((((av+2)%ls.length:Nat):Int)==(bv:Int)) with
   |true=>simp only[go_sem,Ud,Ue,Ub,d1];first|rfl|exact aJ|exact⟨aJ,rfl⟩|exact⟨aJ,aJ,rfl⟩
   |false=>
   simp only[go_sem,wz,Uc,abQ,Ub,d1];refine wg [0,3,4,5,11,12,147] fun e11 iu=>?_;have Uf:=iu 0 ae;have Ug:=iu 3 ae;have Uh:=iu 4 ae;have Ui:=iu 5 ae;have abR:=iu 11 ae;have abS:=iu 12 ae;have PE:=iu 147 ae;simp only[go_sem,abN,Uc,Ud,Ue,abO,abP] at Uf Ug Uh Ui abR abS PE;cases d2:((((bv+2)%ls.length:Nat):Int)==(av:Int)) with
   |true=>simp only[go_sem,Uh,Ui,PE,d2];first|rfl|exact aJ|exact⟨aJ,rfl⟩|exact⟨aJ,aJ,rfl⟩
   |false=>
   cases d3:lk F ls 0 [av,bv] av with
   |false=>rw[d3] at pc;simp only[go_sem,s135,nX pc,Uf,Ug,Uh,Ui,PE,d2];first|rfl|exact aJ|exact⟨aJ,rfl⟩|exact⟨aJ,aJ,rfl⟩
   |true=>rw[d3] at pc;simp only[go_sem,s135,nX pc,s136,Uf,Ug,abR,abS,PE,d2];refine⟨aJ,?_⟩;refine rX pd lo (.inr (qY (DZ _))) fun cc bU gc iW=>?_;simp only[go_sem];exact yE gc
 |false=>
  simp only[go_sem,s138,dZ b3,Mx,My,UZ,x1];refine jv [0,3,4,5,6,7,28,33] fun e12 jF=>?_;have PG:=jF 0 ae;have PH:=jF 3 ae;have PI:=jF 4 ae;have PJ:=jF 5 ae;have abT:=jF 6 ae;have abU:=jF 7 ae;have Uj:=jF 28 ae;have Uk:=jF 33 ae;simp only[go_sem,Mx,My,U0,U1,U2,U3] at PG PH PI PJ abT abU Uj Uk;cases x4:jt ls av false with
  |false=>simp only[go_sem,PI,PJ,Uj,Uk,x4];first|rfl|exact aJ|exact⟨aJ,rfl⟩|exact⟨aJ,aJ,rfl⟩
  |true=>
  simp only[go_sem,s138,dZ b4,PG,PH,Uj,Uk,x4];cases x5:jt ls bv true with
  |false=>simp only[go_sem,PI,PJ];first|rfl|exact aJ|exact⟨aJ,rfl⟩|exact⟨aJ,aJ,rfl⟩
  |true=>
  simp only[go_sem,s127,de pe1 iB,de pe2 iB,wz,Pc.ps,PG,PH,abU];refine⟨aJ,?_⟩;refine jv [0,3,4,5,6,9,10,11,12,76] fun GO qD=>?_;have Ul:=qD 0 ae;have abX:=qD 3 ae;have Un:=qD 4 ae;have Uo:=qD 5 ae;have abY:=qD 6 ae;have Up:=qD 9 ae;have abV:=qD 10 ae;have Um:=qD 11 ae;have abW:=qD 12 ae;have PK:=qD 76 ae;simp only[go_sem,PG,PH,PI,PJ,abT] at Ul abX Un Uo abY Up abV Um abW PK;cases c1:(P.l.id==P2.l.id) with
  |true=>simp only[go_sem,Un,Uo,PK,c1];first|rfl|exact aJ|exact⟨aJ,rfl⟩|exact⟨aJ,aJ,rfl⟩
  |false=>
  simp only[go_sem,wz,Pc.ps,Ul,Up,Um,PK,c1];refine jv [0,3,4,5,6,9,10,11,12,76,88] fun GP nu=>?_;have Mu:=nu 0 ae;have Ur:=nu 3 ae;have Us:=nu 4 ae;have Ut:=nu 5 ae;have Uu:=nu 6 ae;have Uw:=nu 9 ae;have PL:=nu 10 ae;have Uq:=nu 11 ae;have Mv:=nu 12 ae;have Mw:=nu 76 ae;have Uv:=nu 88 ae;simp only[go_sem,Ul,abX,Un,Uo,abY,Up,abV,Um,abW,PK,c1] at Mu Ur Us Ut Uu Uw PL Uq Mv Mw Uv;cases c2:(Q.l.id==P.l.id) with
  |true=>
   have c4:(Q.l.id==P2.l.id)=false:=by
    have h1:Q.l.id=P.l.id:=by simpa using c2
    rw[h1];exact c1
   simp only[go_sem,wz,Pc.ps,Mu,PL,Mv,Mw,Uv,c2];refine jv [0,3,4,5,6,9,10,11,12,76,101] fun e15 mq=>?_;have Ux:=mq 0 ae;have UA:=mq 3 ae;have UB:=mq 4 ae;have UC:=mq 5 ae;have UD:=mq 6 ae;have ab0:=mq 9 ae;have amD:=mq 10 ae;have abZ:=mq 11 ae;have Uz:=mq 12 ae;have UE:=mq 76 ae;have Uy:=mq 101 ae;simp only[go_sem,Mu,Ur,Us,Ut,Uu,Uw,PL,Uq,Mv,Mw] at Ux UA UB UC UD ab0 amD abZ Uz UE Uy;cases c3:(Q2.l.id==P2.l.id) with
   |false=>simp only[go_sem,wz,Pc.ps,Ux,UB,UC,ab0,Uz,UE,Uy,c3,c4];first|rfl|exact aJ|exact⟨aJ,rfl⟩|exact⟨aJ,aJ,rfl⟩
   |true=>
   simp only[go_sem,wz,UA,UD,UE,Uy,c3];refine wg [0,3,4,5,6,11,12,137] fun EP qE=>?_;have ab1:=qE 0 ae;have UG:=qE 3 ae;have UH:=qE 4 ae;have UI:=qE 5 ae;have ab4:=qE 6 ae;have ab2:=qE 11 ae;have ab3:=qE 12 ae;have UF:=qE 137 ae;simp only[go_sem,Ux,UA,UB,UC,UD,abZ,Uz] at ab1 UG UH UI ab4 ab2 ab3 UF;cases d1:((((av+2)%ls.length:Nat):Int)==(bv:Int)) with
   |true=>simp only[go_sem,UH,UI,UF,d1];first|rfl|exact aJ|exact⟨aJ,rfl⟩|exact⟨aJ,aJ,rfl⟩
   |false=>
   simp only[go_sem,wz,UG,ab4,UF,d1];refine wg [0,3,4,5,11,12,147] fun Jw jG=>?_;have UJ:=jG 0 ae;have UK:=jG 3 ae;have UL:=jG 4 ae;have UM:=jG 5 ae;have ab5:=jG 11 ae;have ab6:=jG 12 ae;have PM:=jG 147 ae;simp only[go_sem,ab1,UG,UH,UI,ab2,ab3] at UJ UK UL UM ab5 ab6 PM;cases d2:((((bv+2)%ls.length:Nat):Int)==(av:Int)) with
   |true=>simp only[go_sem,UL,UM,PM,d2];first|rfl|exact aJ|exact⟨aJ,rfl⟩|exact⟨aJ,aJ,rfl⟩
   |false=>
   cases d3:lk F ls 0 [av,bv] av with
   |false=>rw[d3] at pc;simp only[go_sem,s135,nX pc,UJ,UK,UL,UM,PM,d2];first|rfl|exact aJ|exact⟨aJ,rfl⟩|exact⟨aJ,aJ,rfl⟩
   |true=>rw[d3] at pc;simp only[go_sem,s135,nX pc,s136,UJ,UK,ab5,ab6,PM,d2];refine⟨aJ,?_⟩;refine rX pd lo (.inr (qY (DZ _))) fun cc bU gc iW=>?_;simp only[go_sem];exact yE gc
  |false=>
   simp only[go_sem,wz,Pc.ps,Mu,Uw,Mv,Mw,Uv,c2];refine jv [0,3,4,5,6,10,11,12,76,101,113] fun Jx gG=>?_;have UN:=gG 0 ae;have ab9:=gG 3 ae;have UR:=gG 4 ae;have US:=gG 5 ae;have aca:=gG 6 ae;have ab7:=gG 10 ae;have UP:=gG 11 ae;have ab8:=gG 12 ae;have UT:=gG 76 ae;have UO:=gG 101 ae;have UQ:=gG 113 ae;simp only[go_sem,Mu,Ur,Us,Ut,Uu,PL,Uq,Mv,Mw] at UN ab9 UR US aca ab7 UP ab8 UT UO UQ;cases c4:(Q.l.id==P2.l.id) with
   |false=>simp only[go_sem,UR,US,UT,UO,UQ,c4];first|rfl|exact aJ|exact⟨aJ,rfl⟩|exact⟨aJ,aJ,rfl⟩
   |true=>
   simp only[go_sem,wz,Pc.ps,UN,ab7,UP,UT,UO,UQ,c4];refine aak [0,3,4,5,6,11,12] fun e19 iV=>?_;have acb:=iV 0 ae;have UU:=iV 3 ae;have UW:=iV 4 ae;have UX:=iV 5 ae;have UY:=iV 6 ae;have acd:=iV 11 ae;have ace:=iV 12 ae;simp only[go_sem,UN,ab9,UR,US,aca,UP,ab8] at acb UU UW UX UY acd ace;cases c5:(Q2.l.id==P.l.id) with
   |false=>simp only[go_sem,UW,UX];first|rfl|exact aJ|exact⟨aJ,rfl⟩|exact⟨aJ,aJ,rfl⟩
   |true=>
   simp only[go_sem,wz,UU,UY];refine wg [0,3,4,5,6,11,12,137] fun e20 yF=>?_;have acf:=yF 0 ae;have Va:=yF 3 ae;have Vb:=yF 4 ae;have Vc:=yF 5 ae;have aci:=yF 6 ae;have acg:=yF 11 ae;have ach:=yF 12 ae;have U4:=yF 137 ae;simp only[go_sem,acb,UU,UW,UX,UY,acd,ace] at acf Va Vb Vc aci acg ach U4;cases d1:((((av+2)%ls.length:Nat):Int)==(bv:Int)) with
   |true=>simp only[go_sem,Vb,Vc,U4,d1];first|rfl|exact aJ|exact⟨aJ,rfl⟩|exact⟨aJ,aJ,rfl⟩
   |false=>
   simp only[go_sem,wz,Va,aci,U4,d1];refine wg [0,3,4,5,11,12,147] fun e21 Hb=>?_;have Vd:=Hb 0 ae;have Ve:=Hb 3 ae;have Vf:=Hb 4 ae;have Vg:=Hb 5 ae;have acj:=Hb 11 ae;have ack:=Hb 12 ae;have PN:=Hb 147 ae;simp only[go_sem,acf,Va,Vb,Vc,acg,ach] at Vd Ve Vf Vg acj ack PN;cases d2:((((bv+2)%ls.length:Nat):Int)==(av:Int)) with
   |true=>simp only[go_sem,Vf,Vg,PN,d2];first|rfl|exact aJ|exact⟨aJ,rfl⟩|exact⟨aJ,aJ,rfl⟩
   |false=>
   cases d3:lk F ls 0 [av,bv] av with
   |false=>rw[d3] at pc;simp only[go_sem,s135,nX pc,Vd,Ve,Vf,Vg,PN,d2];first|rfl|exact aJ|exact⟨aJ,rfl⟩|exact⟨aJ,aJ,rfl⟩
   |true=>rw[d3] at pc;simp only[go_sem,s135,nX pc,s136,Vd,Ve,acj,ack,PN,d2];refine⟨aJ,?_⟩;refine rX pd lo (.inr (qY (DZ _))) fun cc bU gc iW=>?_;simp only[go_sem];exact yE gc
def anu{Q:dO}{ak:Env}{aj:aB}{os:h_}{d:w_}{f id ty z:Nat}{es:s_}{c:C}(Xd:∀ {al:Al} {aj:aB},es=[]\/al.ok id=true->grown id ty z es (.one c) aj->∃v ao,jm S f [.one c] al aj v ao/\Ik id ty z es c aj v ao)(hg:grown id ty z es (.one c) aj)
  (hK:∀ao,grown id ty z es.reverse (.one c) ao->(∀i,i≠id->ao i=aj i)->RN S .all os Q (put ak d (.tup [])) ao):gP S .all (.sc f [.one c]) d os Q ak aj:=by
 refine sR (P:=Ik id ty z es c aj) Az (Xd ?_ hg) ?_
 .rcases R0 hg with ⟨h,_⟩|h
  .exact .inl h
  exact .inr (tD (by simp[h]))
 rintro v ao ⟨rfl,h1,h2⟩
 exact hK ao h1 h2
abbrev vis(x k:Nat)(sg:Int)(ov:Bool):Pc:=⟨⟨2,0,0,((x+k:Nat):Int),sg,ov⟩,false⟩
abbrev FL(F:Nat)(ls:ai)(d:Nat):Nat:=(pK F ls).getD d 0
abbrev pmF(x:Nat)(sg:Int)(o:Bool):c_:=[vis x 1 sg o,vis x 2 (-sg) o]
abbrev pmS(x:Nat)(sg:Int)(o same:Bool):c_:=if same then [vis x 2 (-sg) (!o),vis x 1 sg (!o)] else [vis x 1 sg (!o),vis x 2 (-sg) (!o)]
def pmV(ls:ai)(av bv:Nat)(l o same other:Bool):Option c_:=
 if !same&& !other then none
 else
  let sg:Int:=if o==(same==l) then 1 else -1
  let first:=pmF (aq Let.aA ls/2) sg o
  let second:=pmS (aq Let.aA ls/2) sg o same
  some (if av<bv then FH (FH (pieces ls) second bv) first av else FH (FH (pieces ls) first av) second bv)
def pmR(F:Nat)(ls:ai)(av bv:Nat)(l o:Bool):Option c_:=
 if l then pmV ls av bv l o ((FL F ls (2*bv):Int)==(FL F ls (2*av):Int)) ((FL F ls (2*bv+1):Int)==(FL F ls (2*av):Int))
 else pmV ls av bv l o ((FL F ls (2*bv+1):Int)==(FL F ls (2*av+1):Int)) ((FL F ls (2*bv):Int)==(FL F ls (2*av+1):Int))
abbrev GI(F:Nat):V:=.agg [.p (.int .i64 F),.p (.sl [])]
def zz:¬(((0:Int))<((0:Nat):Int)):=ae
def zm:IntKind.i64.wrap (2*((0:Nat):Int))=((0:Nat):Int):=ae
def zr:(0:Nat)<=140737488355328:=ae
def zr8:(0:Nat)*8<=140737488355328:=ae
section
variable {F:Nat}
def akT(hF:F<=40):bQ (F:Int) []=0:=by unfold bQ;rw[ay (by simp[aq]),ay aa,aD rfl]
def asM(hF:F<=40):aK S 26 [GI F] (uV (Aa F) (.int .i64 0)):=by have pr:=R5 F [] (bG _);rw[OF (akT hF),aD rfl] at pr;exact pr
def akm:aK S 84 [.one (.p (Aa F))] (.one (.own 4 1 [])):=by refine bk c84 ?_;simp only[go_sem,i84];refine sF ?_;simp only[go_sem,i84_l1,i84_r2,zz];rfl
def amL(hF:F<=40):aK S 55 [GI F] (.tup [.one (aU Bq 5 []),.one (.p (.int .i64 0))]):=by
 have pr:=asM hF;have hLB:∀aj:aB,land aj [] 3520384064 ((RV.one (.own 4 1 [])).gJ (S.lone 3520384064))=some (.one (.hsl 3520384064 ((aj 3520384064).1+1) 1 0 0),[(3520384064,((aj 3520384064).1+1,some (.arr 4 1 [])))]):=by intro aj;rw[show S.lone 3520384064=false by kernel_rfl];rfl
 refine bk c55 ?_;simp only[go_sem,i55,s26,de pr iB,s84,de akm (hLB _),zm,zr];refine sF ?_;simp only[go_sem,i55_l1,i55_r2,zz];rfl
def X9(hF:F<=40):aK S 32 [GI F] (uV (eU F []) (.int .i64 0)):=by
 have pf:=amL hF;have pps:aK S 56 [GI F] (ri ((0:Nat):Int)):=Ye F [] (bG _);have pcs:aK S 57 [GI F] (ri ((0:Nat):Int)):=aa4 F [] (bG _);have lo:S.lone 2048064064=false:=ah;have wF:=cS (n:=F) aa;have r2:(F+1)*8<=140737488355328:=aa;have e2:List.replicate (F+1) [PV.int .i64 0]=nP (counts [] F):=by rw[<- TV,fe,TW];simp
 refine bk c32 ?_;simp only[go_sem,i32,s55];refine ads pf lo fun cf oU wC mu=>?_;have LX:=mu 2048000000 ae;simp only[go_sem] at LX;obtain⟨_,hv⟩|⟨h,_⟩:=wC
 .cases hv;simp only[go_sem,LX,wF,r2,zm,zr,s56,s57,iD pps,iD pcs,e2];refine⟨aJ,?_⟩;refine sF ?_;simp only[go_sem,i32_l1,i32_r6,zz];refine sF ?_;simp only[go_sem,i32_l4,i32_r5,zz];have t2:List.take (F+1) (nP (counts [] F))=nP (counts [] F):=iz (by simp[counts]);have n2:F+1<=(counts [] F).length:=by simp[counts]
  simp only[go_sem,jd,tH,vn,oX,nG,jM,t2,n2];rfl
 exact absurd rfl h
end
section
variable {F:Nat}
def wz1:IntKind.i64.wrap (1:Int)=1:=ae
def wz2:IntKind.i64.wrap (2:Int)=2:=ae
abbrev Tv(F:Nat):V:=.one (.p (.box [.int .i64 F,.sl [],.sl [],.sl [],.int .i64 ((0:Nat):Int),.int .i64 ((0:Nat):Int),.sl (nP (counts [] F))]))
def ajJ{b:Nat}(hb:b<=F):aK S 80 [Tv F,lL 2 0 b 0 false false 0] (rb true):=by
 have tO:aK S 102 [vi 0,.one (.p (.box [.int .i64 ((0:Nat):Int)]))] (rb false):=aeF 0 0;have vv:=kE (Md (ls:=[]) hb);have h1:(0:Int)<=(b:Int):=aa;have h2:(b:Int)<=(F:Int):=aa;have h4:(0:Int)<=(cg [] b:Int):=aa;have h5:b<F+1:=aa;have h6:(counts [] F).length=F+1:=by simp[counts]
 have h7:(((0:Nat):Int)==0)=true:=ae;refine bk c80 ?_;simp only[go_sem,i80,s102,nX tO,vv,h1,h2,h4,h7];exact aJ
abbrev Jj(b:Nat):c_:=[⟨⟨1,b,1,0,0,false⟩,true⟩,⟨⟨1,b,2,0,0,false⟩,false⟩]
def aj1{b:Nat}{l o:Bool}{sg:Int}:aK S 104 [Tv F,lL 2 0 b 0 l o sg] (kR (some (Jj b))):=by have h7:(((0:Nat):Int)==0)=true:=ae;refine bk c104 ?_;simp only[go_sem,i104,h7,wz1,wz2];rfl
end
def alT{F:Nat}{ls:ai}(hlen:ls.length<=400)(eV:aq Let.aA ls<=200){a b c:Int}{l o:Bool}{sg:Int}{res:Option c_}(ha:aK S 80 [.one (.p (eU F ls)),lL 2 a b c l o sg] (rb true))(hm:aK S 104 [.one (.p (eU F ls)),lL 2 a b c l o sg] (kR res))(hL:∀L,res=some L->L.length<=1000000):
  aK S 54 [.one (.p (eU F ls)),lL 2 a b c l o sg] (sP F ls 2 res):=by
 have uA:=ac2 F;have pg:=adG 2;have mf:S.lone 3456192384=false:=ah;have ti:S.lone 3456576128=false:=ah;have Kb:∀(aj:aB),land aj [] 3456192000 ((RV.agg [.p .wT,.p (.fn 103 [] []),.p (.fn 104 [] []),.p (.fn 105 [] []),.p (.fn 106 [] []),.p (.fn 107 [] []),.p (.fn 108 [] []),.p (.fn 109 [] []),.p (.fn 110 [] []),.p (.fn 111 [] []),.p (.fn 111 [] [])]).gJ (S.lone 3456192000))=some (.agg [.p .wT,.p (.fn 103 [] []),.p (.fn 104 [] []),.p (.fn 105 [] []),.p (.fn 106 [] []),.p (.fn 107 [] []),.p (.fn 108 [] []),.p (.fn 109 [] []),.p (.fn 110 [] []),.p (.fn 111 [] []),.p (.fn 111 [] [])],[]):=fun aj=>by cases S.lone 3456192000<;>rfl
 have bY:=fK ls;have w1:IntKind.i64.wrap (((pieces ls).length:Int)+(gZ 2).1)=(ls.length:Int)+(gZ 2).1:=by rw[bY];exact uZ (by simp only[gZ];simp;omega) (by simp only[gZ];simp;omega)
 have w2:IntKind.i64.wrap (((aq Let.aA ls/2:Nat):Int)+(gZ 2).2)=((aq Let.aA ls/2:Nat):Int)+(gZ 2).2:=uZ (by simp only[gZ];simp;omega) (by simp only[gZ];simp;omega);have lg:∀aj:aB,land aj [] 3456384128 ((RV.tup [.one (.p (.int .i64 (gZ 2).1)),.one (.p (.int .i64 (gZ 2).2))]).gJ (S.lone 3456384128))=some (.tup [.one (.p (.int .i64 (gZ 2).1)),.one (.p (.int .i64 (gZ 2).2))],[]):=fun aj=>iB;unfold kR at hm;refine bk c54 ?_;simp only[go_sem,i54,s80,dZ ha,s81,EK afw (Kb _),s104];refine aa9 hm mf fun cc bU w gc hb hw=>?_;have b0:=hb 3456000000 ae;have b1:=hb 3456000064 ae;simp only[go_sem] at b0 b1;cases res with
 |none=>simp only[go_sem,b1];refine⟨?_,rfl⟩;rcases hw with rfl|rfl<;>kernel_rfl
 |some L=>
  simp only[nO] at gc;have pfin:=uA L (hL L rfl) (.sl (eo (pieces ls))) (.sl (tG (eS F ls))) (.sl (nP (pK F ls))) (.int .i64 (aq Let.aE ls:Nat)) (.int .i64 ((aq Let.aA ls/2:Nat):Int)) (.sl (nP (counts ls F)));obtain⟨rs,lJ,_⟩:=gc.fE;by_cases h1:(400:Int)<(ls.length:Int)+(gZ 2).1
  .rw[show sP F ls 2 (some L)=nJ 7 from aD (.inl h1)];simp only[go_sem,b0,b1,s82,de pg (lg _),w1,h1];refine⟨?_,rfl⟩;rcases hw with rfl|rfl<;>kernel_rfl
  by_cases h2:(100:Int)<((aq Let.aA ls/2:Nat):Int)+(gZ 2).2
  .rw[show sP F ls 2 (some L)=nJ 7 from aD (.inr h2)];simp only[go_sem,b0,b1,s82,de pg (lg _),w1,w2,h1,h2];refine⟨?_,rfl⟩;rcases hw with rfl|rfl<;>kernel_rfl
  rw[show sP F ls 2 (some L)=jy F (eL L) from ay (by rintro (h|h);exact h1 h;exact h2 h)];simp only[go_sem,b0,s82,de pg (lg _),w1,w2,h1,h2,lJ,s83];refine⟨?_,?_⟩
  .rcases hw with rfl|rfl<;>kernel_rfl
  refine adv pfin ti rfl (DY _) fun c2 bh uw bj=>?_;have b02:=(bj 3456000064 ae).trans b1;simp only[go_sem,b02];exact Qi (uw.of_eq (aX ae))
abbrev EC(b:Nat):ai:=[⟨1,b,1,0,0,false⟩,⟨1,b,2,0,0,false⟩]
def akZ(b:Nat):eL (Jj b)=EC b:=by unfold eL;rw[show sQ (Jj b)=some 0 from rfl];rfl
def doR0(F b:Nat):sP F [] 2 (some (Jj b))=jy F (EC b):=by rw[<- akZ];rfl
def alS{F b:Nat}(hb:b<=F):aK S 54 [Tv F,lL 2 0 b 0 false false 0] (jy F (EC b)):=by have:=alT (F:=F) (ls:=[]) ae ae (a:=0) (b:=b) (c:=0) (l:=false) (o:=false) (sg:=0) (res:=some (Jj b)) (ajJ hb) aj1 (fun L h=>by cases h;exact(by simp:(Jj b).length<=1000000));rw[doR0] at this;exact this
def ajG{F b:Nat}(hF:F<=40)(hb:b<=F):aK S 30 [GI F,lL 2 0 b 0 false false 0] (jy F (EC b)):=by have po:aK S 32 [GI F] (uV (.box [.int .i64 F,.sl [],.sl [],.sl [],.int .i64 ((0:Nat):Int),.int .i64 ((0:Nat):Int),.sl (nP (counts [] F))]) (.int .i64 0)):=X9 hF;have hd:=alS hb;have lo:S.lone 1920256128=false:=ah;refine bk c30 ?_;simp only[go_sem,i30,s32,de po iB,s54];refine Wk hd lo fun cc bU gc hb=>?_;have b4:=hb 1920000128 ae;simp only[go_sem] at b4;simp only[go_sem,b4];exact Qi (gc.of_eq (aX ae))
end Go.Abs
