/- A part. -/
import Derived.Test.YtaajncoljnafjaaGreatDoorWs
set_option linter.all false
set_option maxRecDepth 100000
set_option maxHeartbeats 16000000
namespace Go.Abs
def Sm(a b:Nat):(a==b)=((a:Int)==(b:Int)):=by
 by_cases h:a=b
 .simp[h]
 have:(a==b)=false:=by simpa using h
 rw[this];symm;simp;omega
def vg(F:Nat)(ls:ai)(av bv:Nat):Option c_:=
 if((iA ls av true&&iA ls bv false)||(iA ls av false&&iA ls bv true))&&(!((pA ls av).l.id==(pA ls (nx ls av)).l.id)&&
  (((((pA ls bv).l.id==(pA ls av).l.id)&&((pA ls (nx ls bv)).l.id==(pA ls (nx ls av)).l.id))||(((pA ls bv).l.id==(pA ls (nx ls av)).l.id)&&((pA ls (nx ls bv)).l.id==(pA ls av).l.id)))&&
  (!((av+2)%ls.length==bv)&&(!((bv+2)%ls.length==av)&&kX F ls 0 [av,bv] av))))
 then some (JR (pieces ls) [(pA ls av).l.id,(pA ls (nx ls av)).l.id])else none
def atm{F:Nat}{ls:ai}(g:ch F ls){av bv:Nat}(ha:av<ls.length)(hb:bv<ls.length){k c:Int}{l o:Bool}{sg:Int}:
  aK S 117 [.one (.p (fp F ls)),qj k av bv c l o sg] (kR (vg F ls av bv)):=by
 have hlen:=g.len;have bU:=eY ls;have pe1:=DM g ha;have pe2:=DM g hb;have pQ:=de (av+1) (show 0<ls.length by omega);have vR:=de (bv+1) (show 0<ls.length by omega);have pc:=US g [av,bv] af (e0:=av) rfl ha 0;simp only[ek,kU]at pc;have c0:((0:Nat):Int)=0:=rfl;rw[c0]at pc;have b1:=JD g ha true;have b2:=JD g hb false;have b3:=JD g ha false;have b4:=JD g hb true;obtain⟨P,hP⟩:=aL (ls:=pieces ls) (k:=av) aa;obtain⟨P2,hP2⟩:=aL (ls:=pieces ls) (k:=(av+1)%ls.length) aa;obtain⟨Q,hQ⟩:=aL (ls:=pieces ls) (k:=bv) aa;obtain⟨Q2,hQ2⟩:=aL (ls:=pieces ls) (k:=(bv+1)%ls.length) aa;have qI:=ko hP;have apI:=ko hP2;have k9:=ko hQ;have apO:=ko hQ2;have hz:¬((ls.length:Int)=0):=aa
 have e2w:IntKind.i64.wrap ((av:Int)+2)=((av+2:Nat):Int):=(xI (x:=(av:Int)+2) aa aa).trans aa;have e2m:=xG (av+2) ls.length;have e3w:IntKind.i64.wrap ((bv:Int)+2)=((bv+2:Nat):Int):=(xI (x:=(bv:Int)+2) aa aa).trans aa;have e3m:=xG (bv+2) ls.length;have lo:S.lone 7488704448=false:=ah;have pd:=acJ (pieces ls) [P.l.id,P2.l.id] aa af (afE g);simp only[ek,kU]at pd;have x3:iA ls av true=true->iA ls av false=false:=fun x1=>by
  unfold iA at x1 |-;rw[iY hP]at x1 |-;simp only[cH]at x1;have:P.l.over=true:=by simpa using x1.2.2.1
  simp[this]
 unfold vg;rw[iY hP,iY hQ,iY hP2,iY hQ2,Sm,Sm];have wz:=And.intro qI (And.intro k9 (And.intro apI (And.intro apO (And.intro ha (And.intro hb (And.intro pQ (And.intro vR (And.intro bU (And.intro e2w (And.intro e2m (And.intro hz (And.intro e3w e3m))))))))))));refine bt c117 ?_;simp only[go_sem,i117,s153,eD b1,wz];refine jq [0,3,4,5,6,7,22] fun e1 h1=>?_;have Ng:=h1 0 ae;have Nh:=h1 3 ae;have V5:=h1 4 ae;have V6:=h1 5 ae;have V7:=h1 6 ae;have V8:=h1 7 ae;have V4:=h1 22 ae;simp only[go_sem]at Ng Nh V5 V6 V7 V8 V4;cases x1:iA ls av true with
 |true=>
  simp only[go_sem,s153,eD b2,Ng,Nh,V4,x1];refine jq [0,3,4,5,6,7,28] fun e2 h2=>?_;have Q3:=h2 0 ae;have Q4:=h2 3 ae;have Wi:=h2 4 ae;have Wj:=h2 5 ae;have adD:=h2 6 ae;have adE:=h2 7 ae;have Wh:=h2 28 ae;simp only[go_sem,Ng,Nh,V5,V6,V7,V8]at Q3 Q4 Wi Wj adD adE Wh;cases x2:iA ls bv false with
  |false=>have x3':=x3 x1;simp only[go_sem,s153,eD b3,Q3,Q4,Wi,Wj,Wh,x2,x3'];first|rfl|exact aJ|exact⟨aJ,rfl⟩|exact⟨aJ,aJ,rfl⟩
  |true=>
  simp only[go_sem,s142,dr pe1 iM,dr pe2 iM,wz,Pc.ps,Q3,Q4,adE,Wh,x2];refine⟨aJ,?_⟩;refine jq [0,3,4,5,6,9,10,11,12,76] fun e3 h3=>?_;have Wk:=h3 0 ae;have adH:=h3 3 ae;have Wm:=h3 4 ae;have Wn:=h3 5 ae;have adI:=h3 6 ae;have Wo:=h3 9 ae;have adF:=h3 10 ae;have Wl:=h3 11 ae;have adG:=h3 12 ae;have Q5:=h3 76 ae;simp only[go_sem,Q3,Q4,Wi,Wj,adD]at Wk adH Wm Wn adI Wo adF Wl adG Q5;cases c1:(P.l.id==P2.l.id)with
  |true=>simp only[go_sem,Wm,Wn,Q5,c1];first|rfl|exact aJ|exact⟨aJ,rfl⟩|exact⟨aJ,aJ,rfl⟩
  |false=>
  simp only[go_sem,wz,Pc.ps,Wk,Wo,Wl,Q5,c1];refine jq [0,3,4,5,6,9,10,11,12,76,88] fun e4 h4=>?_;have Ni:=h4 0 ae;have Wq:=h4 3 ae;have Wr:=h4 4 ae;have Ws:=h4 5 ae;have Wt:=h4 6 ae;have Wv:=h4 9 ae;have Q6:=h4 10 ae;have Wp:=h4 11 ae;have Nj:=h4 12 ae;have Nk:=h4 76 ae;have Wu:=h4 88 ae;simp only[go_sem,Wk,adH,Wm,Wn,adI,Wo,adF,Wl,adG,Q5,c1]at Ni Wq Wr Ws Wt Wv Q6 Wp Nj Nk Wu;cases c2:(Q.l.id==P.l.id)with
  |true=>
   have c4:(Q.l.id==P2.l.id)=false:=by
    have h1:Q.l.id=P.l.id:=by simpa using c2
    rw[h1];exact c1
   simp only[go_sem,wz,Pc.ps,Ni,Q6,Nj,Nk,Wu,c2];refine jq [0,3,4,5,6,9,10,11,12,76,101] fun e5 h5=>?_;have Ww:=h5 0 ae;have Wz:=h5 3 ae;have WA:=h5 4 ae;have WB:=h5 5 ae;have WC:=h5 6 ae;have adK:=h5 9 ae;have aox:=h5 10 ae;have adJ:=h5 11 ae;have Wy:=h5 12 ae;have WD:=h5 76 ae;have Wx:=h5 101 ae;simp only[go_sem,Ni,Wq,Wr,Ws,Wt,Wv,Q6,Wp,Nj,Nk]at Ww Wz WA WB WC adK aox adJ Wy WD Wx;cases c3:(Q2.l.id==P2.l.id)with
   |false=>simp only[go_sem,wz,Pc.ps,Ww,WA,WB,adK,Wy,WD,Wx,c3,c4];first|rfl|exact aJ|exact⟨aJ,rfl⟩|exact⟨aJ,aJ,rfl⟩
   |true=>
   simp only[go_sem,wz,Wz,WC,WD,Wx,c3];refine wR [0,3,4,5,6,11,12,137] fun e6 h6=>?_;have adL:=h6 0 ae;have WG:=h6 3 ae;have WH:=h6 4 ae;have WI:=h6 5 ae;have adO:=h6 6 ae;have adM:=h6 11 ae;have adN:=h6 12 ae;have WE:=h6 137 ae;simp only[go_sem,Ww,Wz,WA,WB,WC,adJ,Wy]at adL WG WH WI adO adM adN WE;cases d1:((((av+2)%ls.length:Nat):Int)==(bv:Int))with
   |true=>simp only[go_sem,WH,WI,WE,d1];first|rfl|exact aJ|exact⟨aJ,rfl⟩|exact⟨aJ,aJ,rfl⟩
   |false=>
   simp only[go_sem,wz,WG,adO,WE,d1];refine wR [0,3,4,5,11,12,147] fun e7 h7=>?_;have WJ:=h7 0 ae;have WK:=h7 3 ae;have WL:=h7 4 ae;have WM:=h7 5 ae;have adQ:=h7 11 ae;have adR:=h7 12 ae;have Q7:=h7 147 ae;simp only[go_sem,adL,WG,WH,WI,adM,adN]at WJ WK WL WM adQ adR Q7;cases d2:((((bv+2)%ls.length:Nat):Int)==(av:Int))with
   |true=>simp only[go_sem,WL,WM,Q7,d2];first|rfl|exact aJ|exact⟨aJ,rfl⟩|exact⟨aJ,aJ,rfl⟩
   |false=>
   cases d3:kX F ls 0 [av,bv] av with
   |false=>rw[d3]at pc;simp only[go_sem,s150,mZ pc,WJ,WK,WL,WM,Q7,d2];first|rfl|exact aJ|exact⟨aJ,rfl⟩|exact⟨aJ,aJ,rfl⟩
   |true=>rw[d3]at pc;simp only[go_sem,s150,mZ pc,s151,WJ,WK,adQ,adR,Q7,d2];refine⟨aJ,?_⟩;refine sX pd lo (.inr (rV (EI _))) fun cc cF gc jh=>?_;simp only[go_sem];exact zn gc
  |false=>
   simp only[go_sem,wz,Pc.ps,Ni,Wv,Nj,Nk,Wu,c2];refine jq [0,3,4,5,6,10,11,12,76,101,113] fun e8 h8=>?_;have WQ:=h8 0 ae;have adU:=h8 3 ae;have WU:=h8 4 ae;have WV:=h8 5 ae;have adV:=h8 6 ae;have adS:=h8 10 ae;have WS:=h8 11 ae;have adT:=h8 12 ae;have WW:=h8 76 ae;have WR:=h8 101 ae;have WT:=h8 113 ae;simp only[go_sem,Ni,Wq,Wr,Ws,Wt,Q6,Wp,Nj,Nk]at WQ adU WU WV adV adS WS adT WW WR WT;cases c4:(Q.l.id==P2.l.id)with
   |false=>simp only[go_sem,WU,WV,WW,WR,WT,c4];first|rfl|exact aJ|exact⟨aJ,rfl⟩|exact⟨aJ,aJ,rfl⟩
   |true=>
   simp only[go_sem,wz,Pc.ps,WQ,adS,WS,WW,WR,WT,c4];refine abC [0,3,4,5,6,11,12] fun e9 h9=>?_;have adW:=h9 0 ae;have WX:=h9 3 ae;have WY:=h9 4 ae;have WZ:=h9 5 ae;have W1:=h9 6 ae;have adX:=h9 11 ae;have adY:=h9 12 ae;simp only[go_sem,WQ,adU,WU,WV,adV,WS,adT]at adW WX WY WZ W1 adX adY;cases c5:(Q2.l.id==P.l.id)with
   |false=>simp only[go_sem,WY,WZ];first|rfl|exact aJ|exact⟨aJ,rfl⟩|exact⟨aJ,aJ,rfl⟩
   |true=>
   simp only[go_sem,wz,WX,W1];refine wR [0,3,4,5,6,11,12,137] fun rY fq=>?_;have ac4:=fq 0 ae;have Vh:=fq 3 ae;have Vi:=fq 4 ae;have Vj:=fq 5 ae;have ac7:=fq 6 ae;have ac5:=fq 11 ae;have ac6:=fq 12 ae;have Vg:=fq 137 ae;simp only[go_sem,adW,WX,WY,WZ,W1,adX,adY]at ac4 Vh Vi Vj ac7 ac5 ac6 Vg;cases d1:((((av+2)%ls.length:Nat):Int)==(bv:Int))with
   |true=>simp only[go_sem,Vi,Vj,Vg,d1];first|rfl|exact aJ|exact⟨aJ,rfl⟩|exact⟨aJ,aJ,rfl⟩
   |false=>
   simp only[go_sem,wz,Vh,ac7,Vg,d1];refine wR [0,3,4,5,11,12,147] fun M1 ie=>?_;have Vk:=ie 0 ae;have Vl:=ie 3 ae;have Vm:=ie 4 ae;have Vn:=ie 5 ae;have ac8:=ie 11 ae;have ac9:=ie 12 ae;have QT:=ie 147 ae;simp only[go_sem,ac4,Vh,Vi,Vj,ac5,ac6]at Vk Vl Vm Vn ac8 ac9 QT;cases d2:((((bv+2)%ls.length:Nat):Int)==(av:Int))with
   |true=>simp only[go_sem,Vm,Vn,QT,d2];first|rfl|exact aJ|exact⟨aJ,rfl⟩|exact⟨aJ,aJ,rfl⟩
   |false=>
   cases d3:kX F ls 0 [av,bv] av with
   |false=>rw[d3]at pc;simp only[go_sem,s150,mZ pc,Vk,Vl,Vm,Vn,QT,d2];first|rfl|exact aJ|exact⟨aJ,rfl⟩|exact⟨aJ,aJ,rfl⟩
   |true=>rw[d3]at pc;simp only[go_sem,s150,mZ pc,s151,Vk,Vl,ac8,ac9,QT,d2];refine⟨aJ,?_⟩;refine sX pd lo (.inr (rV (EI _))) fun cc cF gc jh=>?_;simp only[go_sem];exact zn gc
 |false=>
  simp only[go_sem,s153,eD b3,Ng,Nh,V4,x1];refine jq [0,3,4,5,6,7,28,33] fun Hj kG=>?_;have QU:=kG 0 ae;have QV:=kG 3 ae;have QW:=kG 4 ae;have QX:=kG 5 ae;have ada:=kG 6 ae;have adb:=kG 7 ae;have Vo:=kG 28 ae;have Vp:=kG 33 ae;simp only[go_sem,Ng,Nh,V5,V6,V7,V8]at QU QV QW QX ada adb Vo Vp;cases x4:iA ls av false with
  |false=>simp only[go_sem,QW,QX,Vo,Vp,x4];first|rfl|exact aJ|exact⟨aJ,rfl⟩|exact⟨aJ,aJ,rfl⟩
  |true=>
  simp only[go_sem,s153,eD b4,QU,QV,Vo,Vp,x4];cases x5:iA ls bv true with
  |false=>simp only[go_sem,QW,QX];first|rfl|exact aJ|exact⟨aJ,rfl⟩|exact⟨aJ,aJ,rfl⟩
  |true=>
  simp only[go_sem,s142,dr pe1 iM,dr pe2 iM,wz,Pc.ps,QU,QV,adb];refine⟨aJ,?_⟩;refine jq [0,3,4,5,6,9,10,11,12,76] fun Fv tX=>?_;have Vq:=tX 0 ae;have adg:=tX 3 ae;have Vs:=tX 4 ae;have Vt:=tX 5 ae;have adh:=tX 6 ae;have Vu:=tX 9 ae;have ade:=tX 10 ae;have Vr:=tX 11 ae;have adf:=tX 12 ae;have QY:=tX 76 ae;simp only[go_sem,QU,QV,QW,QX,ada]at Vq adg Vs Vt adh Vu ade Vr adf QY;cases c1:(P.l.id==P2.l.id)with
  |true=>simp only[go_sem,Vs,Vt,QY,c1];first|rfl|exact aJ|exact⟨aJ,rfl⟩|exact⟨aJ,aJ,rfl⟩
  |false=>
  simp only[go_sem,wz,Pc.ps,Vq,Vu,Vr,QY,c1];refine jq [0,3,4,5,6,9,10,11,12,76,88] fun Hk nh=>?_;have Nc:=nh 0 ae;have Vw:=nh 3 ae;have Vx:=nh 4 ae;have Vy:=nh 5 ae;have Vz:=nh 6 ae;have VB:=nh 9 ae;have QZ:=nh 10 ae;have Vv:=nh 11 ae;have Nd:=nh 12 ae;have Nf:=nh 76 ae;have VA:=nh 88 ae;simp only[go_sem,Vq,adg,Vs,Vt,adh,Vu,ade,Vr,adf,QY,c1]at Nc Vw Vx Vy Vz VB QZ Vv Nd Nf VA;cases c2:(Q.l.id==P.l.id)with
  |true=>
   have c4:(Q.l.id==P2.l.id)=false:=by
    have h1:Q.l.id=P.l.id:=by simpa using c2
    rw[h1];exact c1
   simp only[go_sem,wz,Pc.ps,Nc,QZ,Nd,Nf,VA,c2];refine jq [0,3,4,5,6,9,10,11,12,76,101] fun e15 mh=>?_;have VC:=mh 0 ae;have VF:=mh 3 ae;have VG:=mh 4 ae;have VH:=mh 5 ae;have VI:=mh 6 ae;have adj:=mh 9 ae;have aow:=mh 10 ae;have adi:=mh 11 ae;have VE:=mh 12 ae;have VJ:=mh 76 ae;have VD:=mh 101 ae;simp only[go_sem,Nc,Vw,Vx,Vy,Vz,VB,QZ,Vv,Nd,Nf]at VC VF VG VH VI adj aow adi VE VJ VD;cases c3:(Q2.l.id==P2.l.id)with
   |false=>simp only[go_sem,wz,Pc.ps,VC,VG,VH,adj,VE,VJ,VD,c3,c4];first|rfl|exact aJ|exact⟨aJ,rfl⟩|exact⟨aJ,aJ,rfl⟩
   |true=>
   simp only[go_sem,wz,VF,VI,VJ,VD,c3];refine wR [0,3,4,5,6,11,12,137] fun Fw qH=>?_;have adk:=qH 0 ae;have VL:=qH 3 ae;have VM:=qH 4 ae;have VN:=qH 5 ae;have adn:=qH 6 ae;have adl:=qH 11 ae;have adm:=qH 12 ae;have VK:=qH 137 ae;simp only[go_sem,VC,VF,VG,VH,VI,adi,VE]at adk VL VM VN adn adl adm VK;cases d1:((((av+2)%ls.length:Nat):Int)==(bv:Int))with
   |true=>simp only[go_sem,VM,VN,VK,d1];first|rfl|exact aJ|exact⟨aJ,rfl⟩|exact⟨aJ,aJ,rfl⟩
   |false=>
   simp only[go_sem,wz,VL,adn,VK,d1];refine wR [0,3,4,5,11,12,147] fun JS jA=>?_;have VO:=jA 0 ae;have VP:=jA 3 ae;have VQ:=jA 4 ae;have VR:=jA 5 ae;have ado:=jA 11 ae;have adp:=jA 12 ae;have Q0:=jA 147 ae;simp only[go_sem,adk,VL,VM,VN,adl,adm]at VO VP VQ VR ado adp Q0;cases d2:((((bv+2)%ls.length:Nat):Int)==(av:Int))with
   |true=>simp only[go_sem,VQ,VR,Q0,d2];first|rfl|exact aJ|exact⟨aJ,rfl⟩|exact⟨aJ,aJ,rfl⟩
   |false=>
   cases d3:kX F ls 0 [av,bv] av with
   |false=>rw[d3]at pc;simp only[go_sem,s150,mZ pc,VO,VP,VQ,VR,Q0,d2];first|rfl|exact aJ|exact⟨aJ,rfl⟩|exact⟨aJ,aJ,rfl⟩
   |true=>rw[d3]at pc;simp only[go_sem,s150,mZ pc,s151,VO,VP,ado,adp,Q0,d2];refine⟨aJ,?_⟩;refine sX pd lo (.inr (rV (EI _))) fun cc cF gc jh=>?_;simp only[go_sem];exact zn gc
  |false=>
   simp only[go_sem,wz,Pc.ps,Nc,VB,Nd,Nf,VA,c2];refine jq [0,3,4,5,6,10,11,12,76,101,113] fun JT iB=>?_;have VS:=iB 0 ae;have ads:=iB 3 ae;have VW:=iB 4 ae;have VX:=iB 5 ae;have adt:=iB 6 ae;have adq:=iB 10 ae;have VU:=iB 11 ae;have adr:=iB 12 ae;have VY:=iB 76 ae;have VT:=iB 101 ae;have VV:=iB 113 ae;simp only[go_sem,Nc,Vw,Vx,Vy,Vz,QZ,Vv,Nd,Nf]at VS ads VW VX adt adq VU adr VY VT VV;cases c4:(Q.l.id==P2.l.id)with
   |false=>simp only[go_sem,VW,VX,VY,VT,VV,c4];first|rfl|exact aJ|exact⟨aJ,rfl⟩|exact⟨aJ,aJ,rfl⟩
   |true=>
   simp only[go_sem,wz,Pc.ps,VS,adq,VU,VY,VT,VV,c4];refine abC [0,3,4,5,6,11,12] fun e19 iK=>?_;have adu:=iK 0 ae;have VZ:=iK 3 ae;have V0:=iK 4 ae;have V1:=iK 5 ae;have V2:=iK 6 ae;have adv:=iK 11 ae;have adw:=iK 12 ae;simp only[go_sem,VS,ads,VW,VX,adt,VU,adr]at adu VZ V0 V1 V2 adv adw;cases c5:(Q2.l.id==P.l.id)with
   |false=>simp only[go_sem,V0,V1];first|rfl|exact aJ|exact⟨aJ,rfl⟩|exact⟨aJ,aJ,rfl⟩
   |true=>
   simp only[go_sem,wz,VZ,V2];refine wR [0,3,4,5,6,11,12,137] fun e20 zo=>?_;have adx:=zo 0 ae;have Wa:=zo 3 ae;have Wb:=zo 4 ae;have Wc:=zo 5 ae;have adA:=zo 6 ae;have ady:=zo 11 ae;have adz:=zo 12 ae;have V9:=zo 137 ae;simp only[go_sem,adu,VZ,V0,V1,V2,adv,adw]at adx Wa Wb Wc adA ady adz V9;cases d1:((((av+2)%ls.length:Nat):Int)==(bv:Int))with
   |true=>simp only[go_sem,Wb,Wc,V9,d1];first|rfl|exact aJ|exact⟨aJ,rfl⟩|exact⟨aJ,aJ,rfl⟩
   |false=>
   simp only[go_sem,wz,Wa,adA,V9,d1];refine wR [0,3,4,5,11,12,147] fun e21 Hu=>?_;have Wd:=Hu 0 ae;have We:=Hu 3 ae;have Wf:=Hu 4 ae;have Wg:=Hu 5 ae;have adB:=Hu 11 ae;have adC:=Hu 12 ae;have Q1:=Hu 147 ae;simp only[go_sem,adx,Wa,Wb,Wc,ady,adz]at Wd We Wf Wg adB adC Q1;cases d2:((((bv+2)%ls.length:Nat):Int)==(av:Int))with
   |true=>simp only[go_sem,Wf,Wg,Q1,d2];first|rfl|exact aJ|exact⟨aJ,rfl⟩|exact⟨aJ,aJ,rfl⟩
   |false=>
   cases d3:kX F ls 0 [av,bv] av with
   |false=>rw[d3]at pc;simp only[go_sem,s150,mZ pc,Wd,We,Wf,Wg,Q1,d2];first|rfl|exact aJ|exact⟨aJ,rfl⟩|exact⟨aJ,aJ,rfl⟩
   |true=>rw[d3]at pc;simp only[go_sem,s150,mZ pc,s151,Wd,We,adB,adC,Q1,d2];refine⟨aJ,?_⟩;refine sX pd lo (.inr (rV (EI _))) fun cc cF gc jh=>?_;simp only[go_sem];exact zn gc
def aph{Q:dX}{ak:Env}{aj:aC}{os:h_}{d:w_}{f id ty z:Nat}{es:s_}{c:C}(Ye:∀ {al:Al}{aj:aC},es=[]\/al.ok id=true->grown id ty z es (.one c) aj->∃v ao,jg S f [.one c] al aj v ao/\IJ id ty z es c aj v ao)(hg:grown id ty z es (.one c) aj)
  (hK:∀ao,grown id ty z es.reverse (.one c) ao->(∀i,i≠id->ao i=aj i)->RN S .all os Q (put ak d (.tup [])) ao):gP S .all (.sc f [.one c]) d os Q ak aj:=by
 refine r5 (P:=IJ id ty z es c aj) zR (Ye ?_ hg) ?_
 .rcases S6 hg with⟨h,_⟩|h
  .exact .inl h
  exact .inr (tM (by simp[h]))
 rintro v ao ⟨rfl,h1,h2⟩
 exact hK ao h1 h2
abbrev vis(x k:Nat)(sg:Int)(ov:Bool):Pc:=⟨⟨2,0,0,((x+k:Nat):Int),sg,ov⟩,false⟩
abbrev Gf(F:Nat)(ls:ai)(d:Nat):Nat:=(qd F ls).getD d 0
abbrev pmF(x:Nat)(sg:Int)(o:Bool):c_:=[vis x 1 sg o,vis x 2 (-sg) o]
abbrev pmS(x:Nat)(sg:Int)(o same:Bool):c_:=if same then [vis x 2 (-sg) (!o),vis x 1 sg (!o)]else [vis x 1 sg (!o),vis x 2 (-sg) (!o)]
def pmV(ls:ai)(av bv:Nat)(l o same other:Bool):Option c_:=
 if !same&& !other then none
 else
  let sg:Int:=if o==(same==l)then 1 else -1
  let first:=pmF (aq Let.aB ls/2) sg o
  let second:=pmS (aq Let.aB ls/2) sg o same
  some (if av<bv then Gb (Gb (pieces ls) second bv) first av else Gb (Gb (pieces ls) first av) second bv)
def pmR(F:Nat)(ls:ai)(av bv:Nat)(l o:Bool):Option c_:=
 if l then pmV ls av bv l o ((Gf F ls (2*bv):Int)==(Gf F ls (2*av):Int)) ((Gf F ls (2*bv+1):Int)==(Gf F ls (2*av):Int))
 else pmV ls av bv l o ((Gf F ls (2*bv+1):Int)==(Gf F ls (2*av+1):Int)) ((Gf F ls (2*bv):Int)==(Gf F ls (2*av+1):Int))
abbrev MS(F:Nat):V:=.agg [.p (.int .i64 F),.p (.sl [])]
def zz:¬(((0:Int))<((0:Nat):Int)):=ae
def zm:IntKind.i64.wrap (2*((0:Nat):Int))=((0:Nat):Int):=ae
def zr:(0:Nat)<=140737488355328:=ae
def zr8:(0:Nat)*8<=140737488355328:=ae
section
variable {F:Nat}
def amM(hF:F<=40):cG (F:Int) []=0:=by unfold cG;rw[au (by simp[aq]),au aa,aD rfl]
def auH(hF:F<=40):aK S 39 [MS F] (Bx (AY F) (.int .i64 0)):=by have pr:=S7 F [] (bR _);rw[Pl (amM hF),aD rfl]at pr;exact pr
def amg:aK S 75 [.one (.p (AY F))] (.one (.own 4 1 [])):=by refine bt c75 ?_;simp only[go_sem,i75];refine sK ?_;simp only[go_sem,i75_l1,i75_r2,zz];rfl
def aoD(hF:F<=40):aK S 47 [MS F] (.tup [.one (aW BQ 5 []),.one (.p (.int .i64 0))]):=by
 have pr:=auH hF;have hLB:∀aj:aC,land aj [] 3008384064 ((RV.one (.own 4 1 [])).gj (S.lone 3008384064))=some (.one (.hsl 3008384064 ((aj 3008384064).1+1) 1 0 0),[(3008384064,((aj 3008384064).1+1,some (.arr 4 1 [])))]):=by intro aj;rw[show S.lone 3008384064=false by kernel_rfl];rfl
 refine bt c47 ?_;simp only[go_sem,i47,s39,dr pr iM,s75,dr amg (hLB _),zm,zr];refine sK ?_;simp only[go_sem,i47_l1,i47_r2,zz];rfl
def ata(hF:F<=40):aK S 23 [MS F] (Bx (fp F []) (.int .i64 0)):=by
 have pf:=aoD hF;have pps:aK S 48 [MS F] (ri ((0:Nat):Int)):=Zm F [] (bR _);have CO:aK S 49 [MS F] (ri ((0:Nat):Int)):=acj F [] (bR _);have lo:S.lone 1472064064=false:=ah;have wF:=cU (n:=F) aa;have r2:(F+1)*8<=140737488355328:=aa;have e2:List.replicate (F+1) [PV.int .i64 0]=nP (counts [] F):=by rw[<-UU,fe,UW];simp
 refine bt c23 ?_;simp only[go_sem,i23,s47];refine aeF pf lo fun cf pK wY pM=>?_;have Mz:=pM 1472000000 ae;simp only[go_sem]at Mz;obtain⟨_,hv⟩|⟨h,_⟩:=wY
 .cases hv;simp only[go_sem,Mz,wF,r2,zm,zr,s48,s49,ir pps,ir CO,e2];refine⟨aJ,?_⟩;refine sK ?_;simp only[go_sem,i23_l1,i23_r6,zz];refine sK ?_;simp only[go_sem,i23_l4,i23_r5,zz];have t2:List.take (F+1) (nP (counts [] F))=nP (counts [] F):=gK (by simp[counts]);have n2:F+1<=(counts [] F).length:=by simp[counts]
  simp only[go_sem,jk,tW,vE,oL,nC,jW,t2,n2];rfl
 exact absurd rfl h
end
section
variable {F:Nat}
end
abbrev circ(b:Nat):ai:=[⟨1,b,1,0,0,false⟩,⟨1,b,2,0,0,false⟩]
end Go.Abs
