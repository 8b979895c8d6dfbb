/- A part. -/
import Derived.Test.YtfgognempokgkaaGreatDoorWp
set_option linter.all false
set_option maxRecDepth 100000
set_option maxHeartbeats 16000000
namespace Go.Abs
theorem Ic(a b:Nat):(a==b)=((a:Int)==(b:Int)):=by
 by_cases h:a=b
 .simp[h]
 have:(a==b)=false:=by simpa using h
 rw[this];symm;simp;omega
def CX(F:Nat)(ls:List Let)(av bv:Nat):Option (List Pc):=
 if ((jw ls av true&&jw ls bv false)||(jw ls av false&&jw ls bv true))&&(!((pA ls av).l.id==(pA ls (nx ls av)).l.id)&&
  (((((pA ls bv).l.id==(pA ls av).l.id)&&((pA ls (nx ls bv)).l.id==(pA ls (nx ls av)).l.id))||(((pA ls bv).l.id==(pA ls (nx ls av)).l.id)&&((pA ls (nx ls bv)).l.id==(pA ls av).l.id)))&&
  (!((av+2)%ls.length==bv)&&(!((bv+2)%ls.length==av)&&pS F ls 0 [av,bv] av))))
 then some (B3 (pieces ls) [(pA ls av).l.id,(pA ls (nx ls av)).l.id]) else none
theorem adk{F:Nat}{ls:List Let}(g:cS F ls){av bv:Nat}(ha:av<ls.length)(hb:bv<ls.length){k c:Int}{l o:Bool}{sg:Int}:
  aE S 59 [.one (.p (cE F ls)),fc k av bv c l o sg] (kR (CX F ls av bv)):=by
 have hlen:=g.len;have bq:=eI ls;have pe1:=wB g ha;have pe2:=wB g hb;have mB:=eJ (av+1) (show 0<ls.length by omega);have kB:=eJ (bv+1) (show 0<ls.length by omega);have pc:=JX g [av,bv] af (e0:=av) rfl ha 0;simp only[dE,jj] at pc;have c0:((0:Nat):Int)=0:=rfl;rw[c0] at pc;have b1:=BR g ha true;have b2:=BR g hb false;have b3:=BR g ha false;have b4:=BR g hb true;obtain⟨P,hP⟩:=aL (ls:=pieces ls) (k:=av) aa;obtain⟨P2,hP2⟩:=aL (ls:=pieces ls) (k:=(av+1)%ls.length) aa;obtain⟨Q,hQ⟩:=aL (ls:=pieces ls) (k:=bv) aa;obtain⟨Q2,hQ2⟩:=aL (ls:=pieces ls) (k:=(bv+1)%ls.length) aa;have tk:=fM hP;have aaA:=fM hP2;have lB:=fM hQ;have aaG:=fM hQ2;have hz:¬((ls.length:Int)=0):=aa
 have e2w:IntKind.i64.wrap ((av:Int)+2)=((av+2:Nat):Int):=(nE (x:=(av:Int)+2) aa aa).trans aa;have e2m:=rm (av+2) ls.length;have e3w:IntKind.i64.wrap ((bv:Int)+2)=((bv+2:Nat):Int):=(nE (x:=(bv:Int)+2) aa aa).trans aa;have e3m:=rm (bv+2) ls.length;have lo:S.lone 3776704448=false:=ah;have pd:=Qp (pieces ls) [P.l.id,P2.l.id] aa af (Tl g);simp only[dE,jj] at pd;have x3:jw ls av true=true->jw ls av false=false:=fun x1=>by
  unfold jw at x1 ⊢;rw[mK hP] at x1 ⊢;simp only[cA] at x1;have:P.l.over=true:=by simpa using x1.2.2.1
  simp[this]
 unfold CX;rw[mK hP,mK hQ,mK hP2,mK hQ2,Ic,Ic];have wz:=And.intro tk (And.intro lB (And.intro aaA (And.intro aaG (And.intro ha (And.intro hb (And.intro mB (And.intro kB (And.intro bq (And.intro e2w (And.intro e2m (And.intro hz (And.intro e3w e3m))))))))))));refine bd c59 ?_;simp only[go_sem,i59,s91,bY b1,wz];refine dG [0,3,4,5,6,7,22] fun e1 h1=>?_;have Ez:=h1 0 ae;have EA:=h1 3 ae;have K6:=h1 4 ae;have K7:=h1 5 ae;have K8:=h1 6 ae;have K9:=h1 7 ae;have K5:=h1 22 ae;simp only[go_sem] at Ez EA K6 K7 K8 K9 K5;cases x1:jw ls av true with
 |true=>
  simp only[go_sem,s91,bY b2,Ez,EA,K5,x1];refine dG [0,3,4,5,6,7,28] fun e2 h2=>?_;have Hx:=h2 0 ae;have Hy:=h2 3 ae;have Lj:=h2 4 ae;have Lk:=h2 5 ae;have Rh:=h2 6 ae;have Ri:=h2 7 ae;have Li:=h2 28 ae;simp only[go_sem,Ez,EA,K6,K7,K8,K9] at Hx Hy Lj Lk Rh Ri Li;cases x2:jw ls bv false with
  |false=>have x3':=x3 x1;simp only[go_sem,s91,bY b3,Hx,Hy,Lj,Lk,Li,x2,x3'];first|rfl|exact ay|exact⟨ay,rfl⟩|exact⟨ay,ay,rfl⟩
  |true=>
  simp only[go_sem,s80,cN pe1 fE,cN pe2 fE,wz,Pc.ps,Hx,Hy,Ri,Li,x2];refine⟨ay,?_⟩;refine dG [0,3,4,5,6,9,10,11,12,76] fun e3 h3=>?_;have Ll:=h3 0 ae;have Rm:=h3 3 ae;have Ln:=h3 4 ae;have Lo:=h3 5 ae;have Rn:=h3 6 ae;have Lp:=h3 9 ae;have Rj:=h3 10 ae;have Lm:=h3 11 ae;have Rk:=h3 12 ae;have Hz:=h3 76 ae;simp only[go_sem,Hx,Hy,Lj,Lk,Rh] at Ll Rm Ln Lo Rn Lp Rj Lm Rk Hz;cases c1:(P.l.id==P2.l.id) with
  |true=>simp only[go_sem,Ln,Lo,Hz,c1];first|rfl|exact ay|exact⟨ay,rfl⟩|exact⟨ay,ay,rfl⟩
  |false=>
  simp only[go_sem,wz,Pc.ps,Ll,Lp,Lm,Hz,c1];refine dG [0,3,4,5,6,9,10,11,12,76,88] fun e4 h4=>?_;have EB:=h4 0 ae;have Lr:=h4 3 ae;have Ls:=h4 4 ae;have Lt:=h4 5 ae;have Lu:=h4 6 ae;have Lw:=h4 9 ae;have HA:=h4 10 ae;have Lq:=h4 11 ae;have EC:=h4 12 ae;have ED:=h4 76 ae;have Lv:=h4 88 ae;simp only[go_sem,Ll,Rm,Ln,Lo,Rn,Lp,Rj,Lm,Rk,Hz,c1] at EB Lr Ls Lt Lu Lw HA Lq EC ED Lv;cases c2:(Q.l.id==P.l.id) with
  |true=>
   have c4:(Q.l.id==P2.l.id)=false:=by
    have h1:Q.l.id=P.l.id:=by simpa using c2
    rw[h1];exact c1
   simp only[go_sem,wz,Pc.ps,EB,HA,EC,ED,Lv,c2];refine dG [0,3,4,5,6,9,10,11,12,76,101] fun e5 h5=>?_;have Lx:=h5 0 ae;have LD:=h5 3 ae;have LF:=h5 4 ae;have LG:=h5 5 ae;have LH:=h5 6 ae;have Rp:=h5 9 ae;have ZJ:=h5 10 ae;have Ro:=h5 11 ae;have Lz:=h5 12 ae;have LI:=h5 76 ae;have Ly:=h5 101 ae;simp only[go_sem,EB,Lr,Ls,Lt,Lu,Lw,HA,Lq,EC,ED] at Lx LD LF LG LH Rp ZJ Ro Lz LI Ly;cases c3:(Q2.l.id==P2.l.id) with
   |false=>simp only[go_sem,wz,Pc.ps,Lx,LF,LG,Rp,Lz,LI,Ly,c3,c4];first|rfl|exact ay|exact⟨ay,rfl⟩|exact⟨ay,ay,rfl⟩
   |true=>
   simp only[go_sem,wz,LD,LH,LI,Ly,c3];refine mY [0,3,4,5,6,11,12,137] fun e6 h6=>?_;have Rq:=h6 0 ae;have LK:=h6 3 ae;have LN:=h6 4 ae;have LP:=h6 5 ae;have Ru:=h6 6 ae;have Rr:=h6 11 ae;have Rs:=h6 12 ae;have LJ:=h6 137 ae;simp only[go_sem,Lx,LD,LF,LG,LH,Ro,Lz] at Rq LK LN LP Ru Rr Rs LJ;cases d1:((((av+2)%ls.length:Nat):Int)==(bv:Int)) with
   |true=>simp only[go_sem,LN,LP,LJ,d1];first|rfl|exact ay|exact⟨ay,rfl⟩|exact⟨ay,ay,rfl⟩
   |false=>
   simp only[go_sem,wz,LK,Ru,LJ,d1];refine mY [0,3,4,5,11,12,147] fun e7 h7=>?_;have LQ:=h7 0 ae;have LR:=h7 3 ae;have LS:=h7 4 ae;have LU:=h7 5 ae;have Rv:=h7 11 ae;have Rw:=h7 12 ae;have HB:=h7 147 ae;simp only[go_sem,Rq,LK,LN,LP,Rr,Rs] at LQ LR LS LU Rv Rw HB;cases d2:((((bv+2)%ls.length:Nat):Int)==(av:Int)) with
   |true=>simp only[go_sem,LS,LU,HB,d2];first|rfl|exact ay|exact⟨ay,rfl⟩|exact⟨ay,ay,rfl⟩
   |false=>
   cases d3:pS F ls 0 [av,bv] av with
   |false=>rw[d3] at pc;simp only[go_sem,s88,kn pc,LQ,LR,LS,LU,HB,d2];first|rfl|exact ay|exact⟨ay,rfl⟩|exact⟨ay,ay,rfl⟩
   |true=>rw[d3] at pc;simp only[go_sem,s88,kn pc,s89,LQ,LR,Rv,Rw,HB,d2];refine⟨ay,?_⟩;refine jz pd lo (.inr (eu (eT _))) fun cc aW gc hbk=>?_;simp only[go_sem];exact gY gc
  |false=>
   simp only[go_sem,wz,Pc.ps,EB,Lw,EC,ED,Lv,c2];refine dG [0,3,4,5,6,10,11,12,76,101,113] fun e8 h8=>?_;have LV:=h8 0 ae;have Rz:=h8 3 ae;have LZ:=h8 4 ae;have L0:=h8 5 ae;have RO:=h8 6 ae;have Rx:=h8 10 ae;have LX:=h8 11 ae;have Ry:=h8 12 ae;have L1:=h8 76 ae;have LW:=h8 101 ae;have LY:=h8 113 ae;simp only[go_sem,EB,Lr,Ls,Lt,Lu,HA,Lq,EC,ED] at LV Rz LZ L0 RO Rx LX Ry L1 LW LY;cases c4:(Q.l.id==P2.l.id) with
   |false=>simp only[go_sem,LZ,L0,L1,LW,LY,c4];first|rfl|exact ay|exact⟨ay,rfl⟩|exact⟨ay,ay,rfl⟩
   |true=>
   simp only[go_sem,wz,Pc.ps,LV,Rx,LX,L1,LW,LY,c4];refine Pn [0,3,4,5,6,11,12] fun e9 h9=>?_;have RP:=h9 0 ae;have L2:=h9 3 ae;have L3:=h9 4 ae;have L4:=h9 5 ae;have L5:=h9 6 ae;have RQ:=h9 11 ae;have RR:=h9 12 ae;simp only[go_sem,LV,Rz,LZ,L0,RO,LX,Ry] at RP L2 L3 L4 L5 RQ RR;cases c5:(Q2.l.id==P.l.id) with
   |false=>simp only[go_sem,L3,L4];first|rfl|exact ay|exact⟨ay,rfl⟩|exact⟨ay,ay,rfl⟩
   |true=>
   simp only[go_sem,wz,L2,L5];refine mY [0,3,4,5,6,11,12,137] fun Ep dK=>?_;have QH:=dK 0 ae;have Kj:=dK 3 ae;have Kk:=dK 4 ae;have Kl:=dK 5 ae;have QK:=dK 6 ae;have QI:=dK 11 ae;have QJ:=dK 12 ae;have Ki:=dK 137 ae;simp only[go_sem,RP,L2,L3,L4,L5,RQ,RR] at QH Kj Kk Kl QK QI QJ Ki;cases d1:((((av+2)%ls.length:Nat):Int)==(bv:Int)) with
   |true=>simp only[go_sem,Kk,Kl,Ki,d1];first|rfl|exact ay|exact⟨ay,rfl⟩|exact⟨ay,ay,rfl⟩
   |false=>
   simp only[go_sem,wz,Kj,QK,Ki,d1];refine mY [0,3,4,5,11,12,147] fun e11 hJ=>?_;have Km:=hJ 0 ae;have Kn:=hJ 3 ae;have Ko:=hJ 4 ae;have Kp:=hJ 5 ae;have QL:=hJ 11 ae;have QM:=hJ 12 ae;have Ho:=hJ 147 ae;simp only[go_sem,QH,Kj,Kk,Kl,QI,QJ] at Km Kn Ko Kp QL QM Ho;cases d2:((((bv+2)%ls.length:Nat):Int)==(av:Int)) with
   |true=>simp only[go_sem,Ko,Kp,Ho,d2];first|rfl|exact ay|exact⟨ay,rfl⟩|exact⟨ay,ay,rfl⟩
   |false=>
   cases d3:pS F ls 0 [av,bv] av with
   |false=>rw[d3] at pc;simp only[go_sem,s88,kn pc,Km,Kn,Ko,Kp,Ho,d2];first|rfl|exact ay|exact⟨ay,rfl⟩|exact⟨ay,ay,rfl⟩
   |true=>rw[d3] at pc;simp only[go_sem,s88,kn pc,s89,Km,Kn,QL,QM,Ho,d2];refine⟨ay,?_⟩;refine jz pd lo (.inr (eu (eT _))) fun cc aW gc hbk=>?_;simp only[go_sem];exact gY gc
 |false=>
  simp only[go_sem,s91,bY b3,Ez,EA,K5,x1];refine dG [0,3,4,5,6,7,28,33] fun e12 jO=>?_;have Hp:=jO 0 ae;have Hq:=jO 3 ae;have Hr:=jO 4 ae;have Hs:=jO 5 ae;have QN:=jO 6 ae;have QO:=jO 7 ae;have Kq:=jO 28 ae;have Kr:=jO 33 ae;simp only[go_sem,Ez,EA,K6,K7,K8,K9] at Hp Hq Hr Hs QN QO Kq Kr;cases x4:jw ls av false with
  |false=>simp only[go_sem,Hr,Hs,Kq,Kr,x4];first|rfl|exact ay|exact⟨ay,rfl⟩|exact⟨ay,ay,rfl⟩
  |true=>
  simp only[go_sem,s91,bY b4,Hp,Hq,Kq,Kr,x4];cases x5:jw ls bv true with
  |false=>simp only[go_sem,Hr,Hs];first|rfl|exact ay|exact⟨ay,rfl⟩|exact⟨ay,ay,rfl⟩
  |true=>
  simp only[go_sem,s80,cN pe1 fE,cN pe2 fE,wz,Pc.ps,Hp,Hq,QO];refine⟨ay,?_⟩;refine dG [0,3,4,5,6,9,10,11,12,76] fun e13 qC=>?_;have Ks:=qC 0 ae;have QR:=qC 3 ae;have Ku:=qC 4 ae;have Kv:=qC 5 ae;have QS:=qC 6 ae;have Kw:=qC 9 ae;have QP:=qC 10 ae;have Kt:=qC 11 ae;have QQ:=qC 12 ae;have Ht:=qC 76 ae;simp only[go_sem,Hp,Hq,Hr,Hs,QN] at Ks QR Ku Kv QS Kw QP Kt QQ Ht;cases c1:(P.l.id==P2.l.id) with
  |true=>simp only[go_sem,Ku,Kv,Ht,c1];first|rfl|exact ay|exact⟨ay,rfl⟩|exact⟨ay,ay,rfl⟩
  |false=>
  simp only[go_sem,wz,Pc.ps,Ks,Kw,Kt,Ht,c1];refine dG [0,3,4,5,6,9,10,11,12,76,88] fun e14 jP=>?_;have Eu:=jP 0 ae;have Ky:=jP 3 ae;have Kz:=jP 4 ae;have KA:=jP 5 ae;have KB:=jP 6 ae;have KD:=jP 9 ae;have Hu:=jP 10 ae;have Kx:=jP 11 ae;have Ew:=jP 12 ae;have Ey:=jP 76 ae;have KC:=jP 88 ae;simp only[go_sem,Ks,QR,Ku,Kv,QS,Kw,QP,Kt,QQ,Ht,c1] at Eu Ky Kz KA KB KD Hu Kx Ew Ey KC;cases c2:(Q.l.id==P.l.id) with
  |true=>
   have c4:(Q.l.id==P2.l.id)=false:=by
    have h1:Q.l.id=P.l.id:=by simpa using c2
    rw[h1];exact c1
   simp only[go_sem,wz,Pc.ps,Eu,Hu,Ew,Ey,KC,c2];refine dG [0,3,4,5,6,9,10,11,12,76,101] fun e15 lZ=>?_;have KE:=lZ 0 ae;have KH:=lZ 3 ae;have KI:=lZ 4 ae;have KJ:=lZ 5 ae;have KK:=lZ 6 ae;have QU:=lZ 9 ae;have ZI:=lZ 10 ae;have QT:=lZ 11 ae;have KG:=lZ 12 ae;have KL:=lZ 76 ae;have KF:=lZ 101 ae;simp only[go_sem,Eu,Ky,Kz,KA,KB,KD,Hu,Kx,Ew,Ey] at KE KH KI KJ KK QU ZI QT KG KL KF;cases c3:(Q2.l.id==P2.l.id) with
   |false=>simp only[go_sem,wz,Pc.ps,KE,KI,KJ,QU,KG,KL,KF,c3,c4];first|rfl|exact ay|exact⟨ay,rfl⟩|exact⟨ay,ay,rfl⟩
   |true=>
   simp only[go_sem,wz,KH,KK,KL,KF,c3];refine mY [0,3,4,5,6,11,12,137] fun e16 uk=>?_;have QV:=uk 0 ae;have KN:=uk 3 ae;have KO:=uk 4 ae;have KP:=uk 5 ae;have QY:=uk 6 ae;have QW:=uk 11 ae;have QX:=uk 12 ae;have KM:=uk 137 ae;simp only[go_sem,KE,KH,KI,KJ,KK,QT,KG] at QV KN KO KP QY QW QX KM;cases d1:((((av+2)%ls.length:Nat):Int)==(bv:Int)) with
   |true=>simp only[go_sem,KO,KP,KM,d1];first|rfl|exact ay|exact⟨ay,rfl⟩|exact⟨ay,ay,rfl⟩
   |false=>
   simp only[go_sem,wz,KN,QY,KM,d1];refine mY [0,3,4,5,11,12,147] fun e17 qD=>?_;have KQ:=qD 0 ae;have KR:=qD 3 ae;have KS:=qD 4 ae;have KT:=qD 5 ae;have QZ:=qD 11 ae;have Q0:=qD 12 ae;have Hv:=qD 147 ae;simp only[go_sem,QV,KN,KO,KP,QW,QX] at KQ KR KS KT QZ Q0 Hv;cases d2:((((bv+2)%ls.length:Nat):Int)==(av:Int)) with
   |true=>simp only[go_sem,KS,KT,Hv,d2];first|rfl|exact ay|exact⟨ay,rfl⟩|exact⟨ay,ay,rfl⟩
   |false=>
   cases d3:pS F ls 0 [av,bv] av with
   |false=>rw[d3] at pc;simp only[go_sem,s88,kn pc,KQ,KR,KS,KT,Hv,d2];first|rfl|exact ay|exact⟨ay,rfl⟩|exact⟨ay,ay,rfl⟩
   |true=>rw[d3] at pc;simp only[go_sem,s88,kn pc,s89,KQ,KR,QZ,Q0,Hv,d2];refine⟨ay,?_⟩;refine jz pd lo (.inr (eu (eT _))) fun cc aW gc hbk=>?_;simp only[go_sem];exact gY gc
  |false=>
   simp only[go_sem,wz,Pc.ps,Eu,KD,Ew,Ey,KC,c2];refine dG [0,3,4,5,6,10,11,12,76,101,113] fun e18 ng=>?_;have KU:=ng 0 ae;have Q4:=ng 3 ae;have KY:=ng 4 ae;have KZ:=ng 5 ae;have Q5:=ng 6 ae;have Q1:=ng 10 ae;have KW:=ng 11 ae;have Q3:=ng 12 ae;have K0:=ng 76 ae;have KV:=ng 101 ae;have KX:=ng 113 ae;simp only[go_sem,Eu,Ky,Kz,KA,KB,Hu,Kx,Ew,Ey] at KU Q4 KY KZ Q5 Q1 KW Q3 K0 KV KX;cases c4:(Q.l.id==P2.l.id) with
   |false=>simp only[go_sem,KY,KZ,K0,KV,KX,c4];first|rfl|exact ay|exact⟨ay,rfl⟩|exact⟨ay,ay,rfl⟩
   |true=>
   simp only[go_sem,wz,Pc.ps,KU,Q1,KW,K0,KV,KX,c4];refine Pn [0,3,4,5,6,11,12] fun e19 um=>?_;have Q6:=um 0 ae;have K1:=um 3 ae;have K2:=um 4 ae;have K3:=um 5 ae;have K4:=um 6 ae;have Q7:=um 11 ae;have Q8:=um 12 ae;simp only[go_sem,KU,Q4,KY,KZ,Q5,KW,Q3] at Q6 K1 K2 K3 K4 Q7 Q8;cases c5:(Q2.l.id==P.l.id) with
   |false=>simp only[go_sem,K2,K3];first|rfl|exact ay|exact⟨ay,rfl⟩|exact⟨ay,ay,rfl⟩
   |true=>
   simp only[go_sem,wz,K1,K4];refine mY [0,3,4,5,6,11,12,137] fun e20 oT=>?_;have Q9:=oT 0 ae;have Lb:=oT 3 ae;have Lc:=oT 4 ae;have Ld:=oT 5 ae;have Re:=oT 6 ae;have Ra:=oT 11 ae;have Rc:=oT 12 ae;have La:=oT 137 ae;simp only[go_sem,Q6,K1,K2,K3,K4,Q7,Q8] at Q9 Lb Lc Ld Re Ra Rc La;cases d1:((((av+2)%ls.length:Nat):Int)==(bv:Int)) with
   |true=>simp only[go_sem,Lc,Ld,La,d1];first|rfl|exact ay|exact⟨ay,rfl⟩|exact⟨ay,ay,rfl⟩
   |false=>
   simp only[go_sem,wz,Lb,Re,La,d1];refine mY [0,3,4,5,11,12,147] fun e21 Ad=>?_;have Le:=Ad 0 ae;have Lf:=Ad 3 ae;have Lg:=Ad 4 ae;have Lh:=Ad 5 ae;have Rf:=Ad 11 ae;have Rg:=Ad 12 ae;have Hw:=Ad 147 ae;simp only[go_sem,Q9,Lb,Lc,Ld,Ra,Rc] at Le Lf Lg Lh Rf Rg Hw;cases d2:((((bv+2)%ls.length:Nat):Int)==(av:Int)) with
   |true=>simp only[go_sem,Lg,Lh,Hw,d2];first|rfl|exact ay|exact⟨ay,rfl⟩|exact⟨ay,ay,rfl⟩
   |false=>
   cases d3:pS F ls 0 [av,bv] av with
   |false=>rw[d3] at pc;simp only[go_sem,s88,kn pc,Le,Lf,Lg,Lh,Hw,d2];first|rfl|exact ay|exact⟨ay,rfl⟩|exact⟨ay,ay,rfl⟩
   |true=>rw[d3] at pc;simp only[go_sem,s88,kn pc,s89,Le,Lf,Rf,Rg,Hw,d2];refine⟨ay,?_⟩;refine jz pd lo (.inr (eu (eT _))) fun cc aW gc hbk=>?_;simp only[go_sem];exact gY gc
def iL(h:Nat):List Let:=(List.range (2*h)).map fun i=>⟨1,0,((i+1:Nat):Int),0,0,false⟩
section
variable {h:Nat}
theorem xI:(iL h).length=2*h:=by simp[iL]
theorem Bd{i:Nat}(hi:i<2*h):(iL h)[i]?=some ⟨1,0,((i+1:Nat):Int),0,0,false⟩:=by unfold iL;rw[js,rz hi];rfl
theorem Dt{l:Let}(hl:l∈iL h):∃i,i<2*h/\l=⟨1,0,((i+1:Nat):Int),0,0,false⟩:=by obtain⟨i,hi,rfl⟩:=iX.1 hl;exact⟨i,iN.1 hi,rfl⟩
theorem Oe(p:Let->Bool)(hp:∀l∈iL h,p l=true)(k:Nat)(hk:k<=2*h):aA p ((iL h).take k)=k:=by unfold aA;rw[List.countP_eq_length.2 fun l hl=>hp l (sJ hl),jt,xI];omega
theorem VW:∀l∈iL h,l.aG=true:=fun l hl=>by obtain⟨i,_,rfl⟩:=Dt hl;rfl
theorem agj:aA Let.aG (iL h)=2*h:=by have:=Oe (h:=h) Let.aG VW (2*h) (bo _);rwa[fS (by rw[xI];exact bo _)] at this
theorem agm:aA Let.aC (iL h)=0:=by unfold aA;rw[GW];intro l hl;obtain⟨i,_,rfl⟩:=Dt hl;simp[Let.aC]
theorem agk:cg (iL h) 0=2*h:=by have:=Oe (h:=h) (sU 0) (fun l hl=>by obtain⟨i,_,rfl⟩:=Dt hl;rfl) (2*h) (bo _);rwa[fS (by rw[xI];exact bo _)] at this
theorem VZ{i:Nat}(hi:i<=2*h):dn (iL h) i=(i%2==0):=by unfold dn;rw[Oe (h:=h) Let.aG VW i hi]
theorem Of(i:Nat):cU (iL h) ⟨1,0,((i+1:Nat):Int),0,0,false⟩=i:=by unfold cU;have:eE (iL h) 0=0:=rfl;simp only[Int.toNat_zero,this,oE];omega
theorem agl:qR 1 (iL h)=true:=by
 refine(Ik (F:=1)).2 ⟨?_,?_,?_⟩
 .rw[zD];intro l hl;obtain⟨i,_,rfl⟩:=Dt hl;simp[cV]
 .refine(Dh (F:=1) fun l hl hp=>?_).2 ⟨fun l hl hp=>?_,fun i j l m h1 h2 _ _ he=>?_⟩
  .obtain⟨i,_,rfl⟩:=Dt hl;exact⟨af,af⟩
  .obtain⟨i,hi,rfl⟩:=Dt hl;refine⟨af,af,by simp;omega,?_⟩;show((i+1:Nat):Int)<=(cg (iL h) (0:Int).toNat:Int);rw[Int.toNat_zero,agk];omega
  have i1:=(bn.1 h1).1;have i2:=(bn.1 h2).1;rw[xI] at i1 i2;rw[Bd i1] at h1;rw[Bd i2] at h2;cases h1;cases h2;rw[Of,Of] at he;exact he
 unfold km;have h0:dO (iL h) (iL h).length=[]:=by
  have:∀k,k<=2*h->dO (iL h) k=[]:=by
   intro k
   induction k with
   |zero=>intro _;rfl
   |succ k ih=>intro hk;unfold dO;rw[Bd (show k<2*h by omega),ih aa];rfl
  exact this _ (by rw[xI];exact bo _)
 rw[h0,agm];simp only[cA];refine⟨⟨rfl,im.2 fun k hk=>?_⟩,rfl⟩;have hk:=iN.1 hk;rw[xI] at hk;unfold jI;rw[Bd hk];rfl
theorem agn(hh:h<=500000):gU 1 (iL h):=by
 obtain⟨aQ,l9,fD⟩:=(Ik (F:=1)).1 (agl (h:=h));have lA:∀l∈iL h,cV 1 l=false:=fun l hl=>by simpa using zD.1 aQ l hl
 have hg:mw 1 (iL h):=fun l hl hp=>((vz hp).1 (lA l hl)).1.1.1;obtain⟨g1,g2⟩:=(Dh hg).1 l9;exact⟨by rw[xI];omega,⟨g1,g2⟩,fD,fun l hl=>yd (lA l hl)⟩
theorem VY:(aD (iL h)).length=2*h:=by rw[JA,agj]
theorem VX(hh:h<=500000){i:Nat}(hi:i<2*h):(aD (iL h)).idxOf i=i:=by rw[BO (agn hh).ax (Bd hi) rfl,Of]
theorem V1(hh:h<=500000){e:Nat}(he:e<2*h):bR (iL h) (2*e)=if ((e+1)%(2*h))%2=0 then 4*h+2*((e+1)%(2*h)) else 4*h+2*(((e+1)%(2*h)+2*h-1)%(2*h))+1:=by
 have hm:=eJ (e+1) (show 0<2*h by omega);show eL _ _ _=_;unfold eL;rw[xI,VY,if_neg aa];have e1:(2*e%2==0)=true:=af;simp only[e1,if_true,show 2*e/2=e by omega,Bd hm,VX hh hm,VZ (Nat.le_of_lt hm)];generalize (e+1)%(2*h)=m;by_cases c:m%2=0
 .simp[c];omega
 simp[c];omega
theorem V0(hh:h<=500000){e:Nat}(he:e<2*h):bR (iL h) (2*e+1)=if e%2=0 then 4*h+2*((e+2*h-1)%(2*h))+1 else 4*h+2*e:=by
 show eL _ _ _=_;unfold eL;rw[xI,VY,if_neg aa];have e1:((2*e+1)%2==0)=false:=af;simp only[e1,iF,if_false,show(2*e+1)/2=e by omega,Bd he,VX hh he,VZ (Nat.le_of_lt he)];by_cases c:e%2=0
 .simp[c];omega
 have:(e%2==0)=false:=by simpa using c
 simp[c];omega
end
section
variable {h:Nat}
theorem T8{n e:Nat}(he:e<n):(e+1)%n=if e+1=n then 0 else e+1:=by
 by_cases c:e+1=n
 .rw[if_pos c,c,Nat.mod_self]
 rw[if_neg c,mq aa]
theorem T9{n m:Nat}(hm:m<n):(m+n-1)%n=if m=0 then n-1 else m-1:=by
 by_cases c:m=0
 .rw[if_pos c];subst c;rw[kZ,mq aa]
 rw[if_neg c,show m+n-1=(m-1)+n by omega,Bu,mq aa]
theorem v1(hh:h<=500000){e:Nat}(he:e<2*h)(c:e%2=0):bR (iL h) (2*e)=4*h+2*e+1:=by rw[V1 hh he,T8 he,if_neg (by omega:¬e+1=2*h),if_neg aa,T9 aa,if_neg aa];omega
theorem v2(hh:h<=500000){e:Nat}(he:e<2*h)(c:e%2=1):∃q,q<2*h/\q%2=0/\(e+1<2*h->q=e+1)/\bR (iL h) (2*e)=4*h+2*q:=by
 rw[V1 hh he,T8 he];by_cases d:e+1=2*h
 .rw[if_pos d];exact⟨0,aa,rfl,aa,rfl⟩
 rw[if_neg d,if_pos aa];exact⟨e+1,aa,aa,fun _=>rfl,rfl⟩
theorem v3(hh:h<=500000){e:Nat}(he:e<2*h)(c:e%2=0):∃q,q<2*h/\q%2=1/\(1<=e->q=e-1)/\bR (iL h) (2*e+1)=4*h+2*q+1:=by
 rw[V0 hh he,if_pos c,T9 he];by_cases d:e=0
 .rw[if_pos d];exact⟨2*h-1,aa,aa,aa,rfl⟩
 rw[if_neg d];exact⟨e-1,aa,aa,fun _=>rfl,rfl⟩
theorem v4(hh:h<=500000){e:Nat}(he:e<2*h)(c:e%2=1):bR (iL h) (2*e+1)=4*h+2*e:=by rw[V0 hh he,if_neg aa]
end
theorem ZV(L:List Pc):(pW L).length=L.length:=by simp[pW,rl]
theorem fW(l x:List Pc)(k:Nat):(cZ l x k).length=l.length+x.length:=by simp only[cZ,iW,jt,Bs];omega
section
attribute [local go_sem ↓] fm1 fm2
theorem zq{al:Al}{blk:aw}{id ty:Nat}{es:List (List PV)}{c:C}(o:es=[]\/al.ok id=true)(hl:es.length<=1000000)(ig:∀e∈es,e.length=7/\ ∀v∈e,v.norm=v)(h:grown id ty 7 es (.one c) blk):
  ∃v ak,fT S 92 [.one c] al blk v ak/\A9 id ty 7 es c blk v ak:=by
 refine lf c92 (fy rfl) ?_;rcases h with ⟨rfl,h2⟩|⟨aR,g,h2,hC⟩
 .cases h2;have w0:IntKind.i64.wrap (((0:Nat):Int)-1)= -1:=ae;have hz:¬((0:Int)< -1):=ae;simp only[go_sem,i92,w0];refine ck (fun k aj ak=>k=0/\aj 2=vi 0/\aj 3=vi (-1)/\ak=blk) 0 0 (bo _) ?_ ?_
  .simp only[go_sem]
  rintro k aj ak _ ⟨rfl,h2,h3,rfl⟩
  simp only[go_sem,i92_l1,h2,h3,hz];exact⟨rfl,.inl ⟨rfl,rfl⟩,fun _ _=>rfl⟩
 cases h2;have o:=o.resolve_left aR;have w0:=ru (a:=es.length) aa;simp only[go_sem,i92,w0];refine ck (fun k aj ak=>aj 0=.one (.hsl id g 7 0 es.length)/\aj 2=vi k/\aj 3=vi ((es.length:Int)-1-(k:Int))/\ ∃fs,ak id=(g,some (.arr ty 7 fs))/\sv es fs k/\Kept (· =id) blk ak) 0 es.length (bc _) ?_ ?_
 .simp only[go_sem];refine⟨rfl,af,es,hC,sv.start es,Kept.refl _ _⟩
 rintro k aj ak hk ⟨h0,h2,h3,fs,hF,hI,bJ⟩
 by_cases au:k<es.length-1-k
 .have e1:((es.length:Int)-1-(k:Int))=((es.length-1-k:Nat):Int):=aa;rw[e1] at h3;have aF:((k:Int)<((es.length-1-k:Nat):Int)):=aa;have w1:=bj (n:=k) aa;have w2:IntKind.i64.wrap (((es.length-1-k:Nat):Int)-1)=((es.length:Int)-1-((k+1:Nat):Int)):=by
   rw[ru aa];omega
  obtain⟨a,ha⟩:=aL (show k<es.length by omega);obtain⟨b,hb⟩:=aL (show es.length-1-k<es.length by omega);obtain⟨fa,fb,rV⟩:=hI.step au ha hb;obtain⟨la,na⟩:=ig a (ba ha);obtain⟨lb,nb⟩:=ig b (ba hb);obtain⟨x0,x1,x2,x3,x4,x5,x6,rfl⟩:=TP la;obtain⟨y0,y1,y2,y3,y4,y5,y6,rfl⟩:=TP lb;have FR:=na x0 af;have MB:=na x1 af;have aa7:=na x2 af;have aa8:=na x3 af;have aa9:=na x4 af;have aba:=na x5 af;have abb:=na x6 af;have FT:=nb y0 af;have MC:=nb y1 af;have abc:=nb y2 af;have abd:=nb y3 af;have abe:=nb y4 af;have abf:=nb y5 af;have abg:=nb y6 af;have qH:=hI.len;have Aq:¬(k=es.length-1-k):=aa;have S3:¬(es.length-1-k=k):=aa;have l1:k<fs.length:=aa;have l2:es.length-1-k<fs.length:=aa;have l3:k<es.length:=aa
  have l4:es.length-1-k<es.length:=aa;simp only[go_sem,i92_l1,h0,h2,h3,hF,aF,fa,fb,w1,w2,o,l1,l3,l4,Aq,FR,MB,aa7,aa8,aa9,aba,abb,FT,MC,abc,abd,abe,abf,abg,ml];refine⟨ay,_,rfl,rV,?_⟩;exact(bJ.ca rfl _).ca rfl _
 have aF:¬((k:Int)<(es.length:Int)-1-(k:Int)):=aa;simp only[go_sem,i92_l1,h2,h3,aF];refine⟨rfl,?_,bJ⟩;rw[hI.done au] at hF;exact .inr ⟨by simpa using aR,g,by rw[xO],hF⟩
theorem yp{Q:dF}{aj:Env}{blk:aw}{os:List aI}{d:Option Nat}{f id ty z:Nat}{es:List (List PV)}{c:C}(ML:∀ {al:Al} {blk:aw},es=[]\/al.ok id=true->grown id ty z es (.one c) blk->∃v ak,fT S f [.one c] al blk v ak/\A9 id ty z es c blk v ak)(hg:grown id ty z es (.one c) blk)
  (hK:∀ak,grown id ty z es.reverse (.one c) ak->(∀i,i≠id->ak i=blk i)->RN S .all os Q (put aj d (.tup [])) ak):gP S .all (.sc f [.one c]) d os Q aj blk:=by
 refine rQ (P:=A9 id ty z es c blk) xg (ML ?_ hg) ?_
 .rcases IS hg with ⟨h,_⟩|h
  .exact .inl h
  exact .inr (vT (by simp[h]))
 rintro v ak ⟨rfl,h1,h2⟩
 exact hK ak h1 h2
abbrev qt(x k:Nat)(sg:Int)(ov:Bool):Pc:=⟨⟨2,0,0,((x+k:Nat):Int),sg,ov⟩,false⟩
abbrev vv(ls:List Let)(s t:Int)(o:Bool):List Pc:=[qt (aA Let.aC ls/2) 1 s o,qt (aA Let.aC ls/2) 2 t o]
abbrev ww(ls:List Let)(s t:Int)(o:Bool):List Pc:=[qt (aA Let.aC ls/2) 2 t o,qt (aA Let.aC ls/2) 1 s o]
abbrev qQ(F:Nat)(ls:List Let)(d:Nat):Nat:=(fQ F ls).getD d 0
abbrev lJ(x:Nat)(sg:Int)(o:Bool):List Pc:=[qt x 1 sg o,qt x 2 (-sg) o]
abbrev j7(x:Nat)(sg:Int)(o same:Bool):List Pc:=if same then [qt x 2 (-sg) (!o),qt x 1 sg (!o)] else [qt x 1 sg (!o),qt x 2 (-sg) (!o)]
def fN(ls:List Let)(av bv:Nat)(l o same other:Bool):Option (List Pc):=
 if !same&& !other then none
 else
  let sg:Int:=if o==(same==l) then 1 else -1
  let first:=lJ (aA Let.aC ls/2) sg o
  let second:=j7 (aA Let.aC ls/2) sg o same
  some (if av<bv then cZ (cZ (pieces ls) second bv) first av else cZ (cZ (pieces ls) first av) second bv)
def CZ(F:Nat)(ls:List Let)(av bv:Nat)(l o:Bool):Option (List Pc):=
 if l then fN ls av bv l o ((qQ F ls (2*bv):Int)==(qQ F ls (2*av):Int)) ((qQ F ls (2*bv+1):Int)==(qQ F ls (2*av):Int))
 else fN ls av bv l o ((qQ F ls (2*bv+1):Int)==(qQ F ls (2*av+1):Int)) ((qQ F ls (2*bv):Int)==(qQ F ls (2*av+1):Int))
theorem Ii{F:Nat}{ls:List Let}{d:Nat}(hd:d<2*ls.length):(fQ F ls)[d]?=some (qQ F ls d):=by obtain⟨j,hj⟩:=aL (ls:=fQ F ls) (k:=d) (by rw[A1];exact hd);rw[qQ,cP,hj];rfl
theorem adl{F:Nat}{ls:List Let}(g:cS F ls){av bv:Nat}(ha:av<ls.length)(hb:bv<ls.length)(ur:av≠bv){k c:Int}{l o:Bool}{sg:Int}:
  aE S 60 [.one (.p (cE F ls)),fc k av bv c l o sg] (kR (CZ F ls av bv l o)):=by
 have hlen:=g.len;have fD:=g.cr;have bq:=eI ls;have As:=A1 F ls;have m2a:=mj (a:=av) aa;have m2b:=mj (a:=bv) aa;have wa0:IntKind.i64.wrap (((2*av:Nat):Int)+0)=((2*av:Nat):Int):=(nE (x:=((2*av:Nat):Int)+0) aa aa).trans aa;have wa1:=bj (n:=2*av) aa;have wb0:IntKind.i64.wrap (((2*bv:Nat):Int)+0)=((2*bv:Nat):Int):=(nE (x:=((2*bv:Nat):Int)+0) aa aa).trans aa;have wb1:=bj (n:=2*bv) aa;have wc0:IntKind.i64.wrap (((2*bv+1:Nat):Int)-0)=((2*bv+1:Nat):Int):=(nE (x:=((2*bv+1:Nat):Int)-0) aa aa).trans aa;have wc1:IntKind.i64.wrap (((2*bv+1:Nat):Int)-1)=((2*bv:Nat):Int):=(nE (x:=((2*bv+1:Nat):Int)-1) aa aa).trans aa;have la0:2*av<(fQ F ls).length:=aa;have la1:2*av+1<(fQ F ls).length:=aa
 have lb0:2*bv<(fQ F ls).length:=aa;have lb1:2*bv+1<(fQ F ls).length:=aa;have ja0:=fv (Ii (F:=F) (ls:=ls) (d:=2*av) aa);have ja1:=fv (Ii (F:=F) (ls:=ls) (d:=2*av+1) aa);have jb0:=fv (Ii (F:=F) (ls:=ls) (d:=2*bv) aa);have jb1:=fv (Ii (F:=F) (ls:=ls) (d:=2*bv+1) aa);have dY:S.shared 92=true:=ah;have k1:((1:Nat):Int)=1:=rfl;have k2:((2:Nat):Int)=2:=rfl;have tI:=fun ov=>DA F (aA Let.aC ls/2) 1 ov (.sl (aX (pieces ls))) (.sl (kr (cX F ls))) (.sl (nP (fQ F ls))) (.int .i64 (aA Let.aG ls:Nat)) (.sl (nP (counts ls F))) 1 aa aa;have tJ:=fun ov=>DA F (aA Let.aC ls/2) (-1) ov (.sl (aX (pieces ls))) (.sl (kr (cX F ls))) (.sl (nP (fQ F ls))) (.int .i64 (aA Let.aG ls:Nat)) (.sl (nP (counts ls F))) 2 aa aa
 have xC:=fun ov=>DA F (aA Let.aC ls/2) (-1) ov (.sl (aX (pieces ls))) (.sl (kr (cX F ls))) (.sl (nP (fQ F ls))) (.int .i64 (aA Let.aG ls:Nat)) (.sl (nP (counts ls F))) 1 aa aa;have xD:=fun ov=>DA F (aA Let.aC ls/2) 1 ov (.sl (aX (pieces ls))) (.sl (kr (cX F ls))) (.sl (nP (fQ F ls))) (.int .i64 (aA Let.aG ls:Nat)) (.sl (nP (counts ls F))) 2 aa aa;simp only[k1,k2] at tI tJ xC xD;have zB:IntKind.i64.wrap (0-1)= -1:=ae;have zC:IntKind.i64.wrap (0 - -1)=1:=ae
 have ft:∀blk:aw,∀s,∀x1 x2 x3 x4 x5 x6 x7:PV,land blk [] s ((RV.agg [.p x1,.p x2,.p x3,.p x4,.p x5,.p x6,.p x7]).fx (S.lone s))=some (.agg [.p x1,.p x2,.p x3,.p x4,.p x5,.p x6,.p x7],[]):=fun blk s x1 x2 x3 x4 x5 x6 x7=>by cases S.lone s<;>rfl
 have wz:=And.intro wa0 (And.intro wa1 (And.intro wb0 (And.intro wb1 (And.intro wc0 (And.intro wc1 (And.intro m2a (And.intro m2b (And.intro la0 (And.intro la1 (And.intro lb0 (And.intro lb1 (And.intro ja0 (And.intro ja1 (And.intro jb0 jb1))))))))))))));unfold CZ;generalize qQ F ls (2*av)=a0 at*;generalize qQ F ls (2*av+1)=a1 at*;generalize qQ F ls (2*bv)=b0 at*;generalize qQ F ls (2*bv+1)=b1 at*;refine bd c60 ?_;cases l with
 |true=>
  rw[if_pos rfl];cases o with
  |true=>
   simp only[go_sem,i60,wz];refine⟨ay,ay,?_⟩;refine mY [0,3,4,5,6,7,8,9,40] fun e1 cT=>?_;simp only[go_sem] at cT;cases hs:((b0:Int)==(a0:Int)) with
   |true=>
    simp only[go_sem,cT,hs];refine⟨ay,?_⟩;by_cases kz:av<bv
    .have au:((av:Int)<(bv:Int)):=aa;have eZ:fN ls av bv true true true ((b1:Int)==(a0:Int))=some (cZ (cZ (pieces ls) (ww ls 1 (-1) false) bv) (vv ls 1 (-1) true) av):=by simp[fN,lJ,j7,kz,vv,ww]
     rw[eZ];simp only[go_sem,cT,hs,s90,fp (tI _) (ft _ _ _ _ _ _ _ _ _),fp (tJ _) (ft _ _ _ _ _ _ _ _ _),zB,dY];refine⟨ay,ay,?_⟩;refine yp (f:=92) (es:=aX (vv ls 1 (-1) false)) (id:=3840704832) (ty:=fZ) (z:=7) (fun o h=>zq o af (zk _) h) (.inr ⟨af,_,rfl,by simp only[aP,Nat.reduceEqDiff,if_true,if_false];rfl⟩) fun blkr gr kA=>?_;have iw:=kA 3840000000 ae;have jl:=kA 3840640704 ae;simp only[go_sem] at iw jl;rcases gr with ⟨e,_⟩|⟨_,gg,e,fq⟩
     .simp at e
     cases e;rw[show(aX (vv ls 1 (-1) false)).reverse=aX (ww ls 1 (-1) false) from rfl] at fq;simp only[Pc.ps,dE,jj] at fq;simp only[go_sem,cT,iw,fq,au,s86];refine gH (gD (pieces ls) (ww ls 1 (-1) false) bv aa aa af) (by kernel_rfl:S.lone 3840960448=false) (.inr (eu (eT _))) fun c1 aW v1 g1 aQ iB=>?_;obtain⟨r1,iA,de⟩:=g1.dD;have q0:=aQ 3840000000 ae;have q1:=aQ 3840640704 ae;have q2:=aQ 3840704832 ae;simp only[go_sem,iw,jl,fq] at q0 q1 q2;simp only[go_sem,cT,q0,q1,iA,s86];refine gH (gD (cZ (pieces ls) (ww ls 1 (-1) false) bv) (vv ls 1 (-1) true) av (by rw[fW];omega) (by rw[fW];simp;omega) af) (by kernel_rfl:S.lone 3840960704=false) (.inr (eu (eT _))) fun c2 aN v2 g2 aS iC=>?_
     simp only[go_sem];refine⟨?_,gY g2⟩;rcases de with rfl|rfl<;>rcases iB with rfl|rfl<;>rcases iC with rfl|rfl<;>kernel_rfl
    have au:¬((av:Int)<(bv:Int)):=aa;have eZ:fN ls av bv true true true ((b1:Int)==(a0:Int))=some (cZ (cZ (pieces ls) (vv ls 1 (-1) true) av) (ww ls 1 (-1) false) bv):=by simp[fN,lJ,j7,kz,vv,ww]
    rw[eZ];simp only[go_sem,cT,hs,s90,fp (tI _) (ft _ _ _ _ _ _ _ _ _),fp (tJ _) (ft _ _ _ _ _ _ _ _ _),zB,dY];refine⟨ay,ay,?_⟩;refine yp (f:=92) (es:=aX (vv ls 1 (-1) false)) (id:=3840704832) (ty:=fZ) (z:=7) (fun o h=>zq o af (zk _) h) (.inr ⟨af,_,rfl,by simp only[aP,Nat.reduceEqDiff,if_true,if_false];rfl⟩) fun blkr gr kA=>?_;have iw:=kA 3840000000 ae;have jl:=kA 3840640704 ae;simp only[go_sem] at iw jl;rcases gr with ⟨e,_⟩|⟨_,gg,e,fq⟩
    .simp at e
    cases e;rw[show(aX (vv ls 1 (-1) false)).reverse=aX (ww ls 1 (-1) false) from rfl] at fq;simp only[Pc.ps,dE,jj] at fq;simp only[go_sem,cT,iw,jl,au,s86];refine gH (gD (pieces ls) (vv ls 1 (-1) true) av aa aa af) (by kernel_rfl:S.lone 3841024448=false) (.inr (eu (eT _))) fun c1 aW v1 g1 aQ iB=>?_;obtain⟨r1,iA,de⟩:=g1.dD;have q0:=aQ 3840000000 ae;have q1:=aQ 3840640704 ae;have q2:=aQ 3840704832 ae;simp only[go_sem,iw,jl,fq] at q0 q1 q2;simp only[go_sem,cT,q0,q2,iA,s86];refine gH (gD (cZ (pieces ls) (vv ls 1 (-1) true) av) (ww ls 1 (-1) false) bv (by rw[fW];omega) (by rw[fW];simp;omega) af) (by kernel_rfl:S.lone 3841024704=false) (.inr (eu (eT _))) fun c2 aN v2 g2 aS iC=>?_
    simp only[go_sem];refine⟨?_,gY g2⟩;rcases de with rfl|rfl<;>rcases iB with rfl|rfl<;>rcases iC with rfl|rfl<;>kernel_rfl
   |false=>
    cases ho:((b1:Int)==(a0:Int)) with
    |false=>
     have hn:((b1:Int)!=(a0:Int))=true:=by simp only[bne,ho];rfl
     simp only[go_sem,wz,cT,hs,hn];first|rfl|exact ay|exact⟨ay,rfl⟩|exact⟨ay,ay,rfl⟩
    |true=>
     have hn:((b1:Int)!=(a0:Int))=false:=by simp only[bne,ho];rfl
     simp only[go_sem,wz,cT,hs,hn];refine⟨ay,?_⟩;by_cases kz:av<bv
     .have au:((av:Int)<(bv:Int)):=aa;have eZ:fN ls av bv true true false true=some (cZ (cZ (pieces ls) (vv ls (-1) 1 false) bv) (vv ls (-1) 1 true) av):=by simp[fN,lJ,j7,kz,vv]
      rw[eZ];simp only[go_sem,cT,hs,s90,fp (xC _) (ft _ _ _ _ _ _ _ _ _),fp (xD _) (ft _ _ _ _ _ _ _ _ _),zC,au,s86];refine⟨ay,ay,?_⟩;refine gH (gD (pieces ls) (vv ls (-1) 1 false) bv aa aa af) (by kernel_rfl:S.lone 3840960448=false) (.inr (eu (eT _))) fun c1 aW v1 g1 aQ iB=>?_;obtain⟨r1,iA,de⟩:=g1.dD;have q0:=aQ 3840000000 ae;have q1:=aQ 3840640704 ae;have q2:=aQ 3840704832 ae;simp only[go_sem] at q0 q1 q2;simp only[go_sem,cT,q0,q1,iA,s86];refine gH (gD (cZ (pieces ls) (vv ls (-1) 1 false) bv) (vv ls (-1) 1 true) av (by rw[fW];omega) (by rw[fW];simp;omega) af) (by kernel_rfl:S.lone 3840960704=false) (.inr (eu (eT _))) fun c2 aN v2 g2 aS iC=>?_
      simp only[go_sem];refine⟨?_,gY g2⟩;rcases de with rfl|rfl<;>rcases iB with rfl|rfl<;>rcases iC with rfl|rfl<;>kernel_rfl
     have au:¬((av:Int)<(bv:Int)):=aa;have eZ:fN ls av bv true true false true=some (cZ (cZ (pieces ls) (vv ls (-1) 1 true) av) (vv ls (-1) 1 false) bv):=by simp[fN,lJ,j7,kz,vv]
     rw[eZ];simp only[go_sem,cT,hs,s90,fp (xC _) (ft _ _ _ _ _ _ _ _ _),fp (xD _) (ft _ _ _ _ _ _ _ _ _),zC,au,s86];refine⟨ay,ay,?_⟩;refine gH (gD (pieces ls) (vv ls (-1) 1 true) av aa aa af) (by kernel_rfl:S.lone 3841024448=false) (.inr (eu (eT _))) fun c1 aW v1 g1 aQ iB=>?_;obtain⟨r1,iA,de⟩:=g1.dD;have q0:=aQ 3840000000 ae;have q1:=aQ 3840640704 ae;have q2:=aQ 3840704832 ae;simp only[go_sem] at q0 q1 q2;simp only[go_sem,cT,q0,q2,iA,s86];refine gH (gD (cZ (pieces ls) (vv ls (-1) 1 true) av) (vv ls (-1) 1 false) bv (by rw[fW];omega) (by rw[fW];simp;omega) af) (by kernel_rfl:S.lone 3841024704=false) (.inr (eu (eT _))) fun c2 aN v2 g2 aS iC=>?_
     simp only[go_sem];refine⟨?_,gY g2⟩;rcases de with rfl|rfl<;>rcases iB with rfl|rfl<;>rcases iC with rfl|rfl<;>kernel_rfl
  |false=>
   simp only[go_sem,i60,wz];refine⟨ay,ay,?_⟩;refine mY [0,3,4,5,6,7,8,9,40] fun e2 cK=>?_;simp only[go_sem] at cK;cases hs:((b0:Int)==(a0:Int)) with
   |true=>
    simp only[go_sem,cK,hs];refine⟨ay,?_⟩;by_cases kz:av<bv
    .have au:((av:Int)<(bv:Int)):=aa;have eZ:fN ls av bv true false true ((b1:Int)==(a0:Int))=some (cZ (cZ (pieces ls) (ww ls (-1) 1 true) bv) (vv ls (-1) 1 false) av):=by simp[fN,lJ,j7,kz,vv,ww]
     rw[eZ];simp only[go_sem,cK,hs,s90,fp (xC _) (ft _ _ _ _ _ _ _ _ _),fp (xD _) (ft _ _ _ _ _ _ _ _ _),zC,dY];refine⟨ay,ay,?_⟩;refine yp (f:=92) (es:=aX (vv ls (-1) 1 true)) (id:=3840704832) (ty:=fZ) (z:=7) (fun o h=>zq o af (zk _) h) (.inr ⟨af,_,rfl,by simp only[aP,Nat.reduceEqDiff,if_true,if_false];rfl⟩) fun blkr gr kA=>?_;have iw:=kA 3840000000 ae;have jl:=kA 3840640704 ae;simp only[go_sem] at iw jl;rcases gr with ⟨e,_⟩|⟨_,gg,e,fq⟩
     .simp at e
     cases e;rw[show(aX (vv ls (-1) 1 true)).reverse=aX (ww ls (-1) 1 true) from rfl] at fq;simp only[Pc.ps,dE,jj] at fq;simp only[go_sem,cK,iw,fq,au,s86];refine gH (gD (pieces ls) (ww ls (-1) 1 true) bv aa aa af) (by kernel_rfl:S.lone 3840960448=false) (.inr (eu (eT _))) fun c1 aW v1 g1 aQ iB=>?_;obtain⟨r1,iA,de⟩:=g1.dD;have q0:=aQ 3840000000 ae;have q1:=aQ 3840640704 ae;have q2:=aQ 3840704832 ae;simp only[go_sem,iw,jl,fq] at q0 q1 q2;simp only[go_sem,cK,q0,q1,iA,s86];refine gH (gD (cZ (pieces ls) (ww ls (-1) 1 true) bv) (vv ls (-1) 1 false) av (by rw[fW];omega) (by rw[fW];simp;omega) af) (by kernel_rfl:S.lone 3840960704=false) (.inr (eu (eT _))) fun c2 aN v2 g2 aS iC=>?_
     simp only[go_sem];refine⟨?_,gY g2⟩;rcases de with rfl|rfl<;>rcases iB with rfl|rfl<;>rcases iC with rfl|rfl<;>kernel_rfl
    have au:¬((av:Int)<(bv:Int)):=aa;have eZ:fN ls av bv true false true ((b1:Int)==(a0:Int))=some (cZ (cZ (pieces ls) (vv ls (-1) 1 false) av) (ww ls (-1) 1 true) bv):=by simp[fN,lJ,j7,kz,vv,ww]
    rw[eZ];simp only[go_sem,cK,hs,s90,fp (xC _) (ft _ _ _ _ _ _ _ _ _),fp (xD _) (ft _ _ _ _ _ _ _ _ _),zC,dY];refine⟨ay,ay,?_⟩;refine yp (f:=92) (es:=aX (vv ls (-1) 1 true)) (id:=3840704832) (ty:=fZ) (z:=7) (fun o h=>zq o af (zk _) h) (.inr ⟨af,_,rfl,by simp only[aP,Nat.reduceEqDiff,if_true,if_false];rfl⟩) fun blkr gr kA=>?_;have iw:=kA 3840000000 ae;have jl:=kA 3840640704 ae;simp only[go_sem] at iw jl;rcases gr with ⟨e,_⟩|⟨_,gg,e,fq⟩
    .simp at e
    cases e;rw[show(aX (vv ls (-1) 1 true)).reverse=aX (ww ls (-1) 1 true) from rfl] at fq;simp only[Pc.ps,dE,jj] at fq;simp only[go_sem,cK,iw,jl,au,s86];refine gH (gD (pieces ls) (vv ls (-1) 1 false) av aa aa af) (by kernel_rfl:S.lone 3841024448=false) (.inr (eu (eT _))) fun c1 aW v1 g1 aQ iB=>?_;obtain⟨r1,iA,de⟩:=g1.dD;have q0:=aQ 3840000000 ae;have q1:=aQ 3840640704 ae;have q2:=aQ 3840704832 ae;simp only[go_sem,iw,jl,fq] at q0 q1 q2;simp only[go_sem,cK,q0,q2,iA,s86];refine gH (gD (cZ (pieces ls) (vv ls (-1) 1 false) av) (ww ls (-1) 1 true) bv (by rw[fW];omega) (by rw[fW];simp;omega) af) (by kernel_rfl:S.lone 3841024704=false) (.inr (eu (eT _))) fun c2 aN v2 g2 aS iC=>?_
    simp only[go_sem];refine⟨?_,gY g2⟩;rcases de with rfl|rfl<;>rcases iB with rfl|rfl<;>rcases iC with rfl|rfl<;>kernel_rfl
   |false=>
    cases ho:((b1:Int)==(a0:Int)) with
    |false=>
     have hn:((b1:Int)!=(a0:Int))=true:=by simp only[bne,ho];rfl
     simp only[go_sem,wz,cK,hs,hn];first|rfl|exact ay|exact⟨ay,rfl⟩|exact⟨ay,ay,rfl⟩
    |true=>
     have hn:((b1:Int)!=(a0:Int))=false:=by simp only[bne,ho];rfl
     simp only[go_sem,wz,cK,hs,hn];refine⟨ay,?_⟩;by_cases kz:av<bv
     .have au:((av:Int)<(bv:Int)):=aa;have eZ:fN ls av bv true false false true=some (cZ (cZ (pieces ls) (vv ls 1 (-1) true) bv) (vv ls 1 (-1) false) av):=by simp[fN,lJ,j7,kz,vv]
      rw[eZ];simp only[go_sem,cK,hs,s90,fp (tI _) (ft _ _ _ _ _ _ _ _ _),fp (tJ _) (ft _ _ _ _ _ _ _ _ _),zB,au,s86];refine⟨ay,ay,?_⟩;refine gH (gD (pieces ls) (vv ls 1 (-1) true) bv aa aa af) (by kernel_rfl:S.lone 3840960448=false) (.inr (eu (eT _))) fun c1 aW v1 g1 aQ iB=>?_;obtain⟨r1,iA,de⟩:=g1.dD;have q0:=aQ 3840000000 ae;have q1:=aQ 3840640704 ae;have q2:=aQ 3840704832 ae;simp only[go_sem] at q0 q1 q2;simp only[go_sem,cK,q0,q1,iA,s86];refine gH (gD (cZ (pieces ls) (vv ls 1 (-1) true) bv) (vv ls 1 (-1) false) av (by rw[fW];omega) (by rw[fW];simp;omega) af) (by kernel_rfl:S.lone 3840960704=false) (.inr (eu (eT _))) fun c2 aN v2 g2 aS iC=>?_
      simp only[go_sem];refine⟨?_,gY g2⟩;rcases de with rfl|rfl<;>rcases iB with rfl|rfl<;>rcases iC with rfl|rfl<;>kernel_rfl
     have au:¬((av:Int)<(bv:Int)):=aa;have eZ:fN ls av bv true false false true=some (cZ (cZ (pieces ls) (vv ls 1 (-1) false) av) (vv ls 1 (-1) true) bv):=by simp[fN,lJ,j7,kz,vv]
     rw[eZ];simp only[go_sem,cK,hs,s90,fp (tI _) (ft _ _ _ _ _ _ _ _ _),fp (tJ _) (ft _ _ _ _ _ _ _ _ _),zB,au,s86];refine⟨ay,ay,?_⟩;refine gH (gD (pieces ls) (vv ls 1 (-1) false) av aa aa af) (by kernel_rfl:S.lone 3841024448=false) (.inr (eu (eT _))) fun c1 aW v1 g1 aQ iB=>?_;obtain⟨r1,iA,de⟩:=g1.dD;have q0:=aQ 3840000000 ae;have q1:=aQ 3840640704 ae;have q2:=aQ 3840704832 ae;simp only[go_sem] at q0 q1 q2;simp only[go_sem,cK,q0,q2,iA,s86];refine gH (gD (cZ (pieces ls) (vv ls 1 (-1) false) av) (vv ls 1 (-1) true) bv (by rw[fW];omega) (by rw[fW];simp;omega) af) (by kernel_rfl:S.lone 3841024704=false) (.inr (eu (eT _))) fun c2 aN v2 g2 aS iC=>?_
     simp only[go_sem];refine⟨?_,gY g2⟩;rcases de with rfl|rfl<;>rcases iB with rfl|rfl<;>rcases iC with rfl|rfl<;>kernel_rfl
 |false=>
  rw[if_neg ae];cases o with
  |true=>
   simp only[go_sem,i60,wz];refine⟨ay,ay,?_⟩;refine mY [0,3,4,5,6,7,8,9,40] fun e3 cF=>?_;simp only[go_sem] at cF;cases hs:((b1:Int)==(a1:Int)) with
   |true=>
    simp only[go_sem,cF,hs];refine⟨ay,?_⟩;by_cases kz:av<bv
    .have au:((av:Int)<(bv:Int)):=aa;have eZ:fN ls av bv false true true ((b0:Int)==(a1:Int))=some (cZ (cZ (pieces ls) (ww ls (-1) 1 false) bv) (vv ls (-1) 1 true) av):=by simp[fN,lJ,j7,kz,vv,ww]
     rw[eZ];simp only[go_sem,cF,hs,s90,fp (xC _) (ft _ _ _ _ _ _ _ _ _),fp (xD _) (ft _ _ _ _ _ _ _ _ _),zC,dY];refine⟨ay,ay,?_⟩;refine yp (f:=92) (es:=aX (vv ls (-1) 1 false)) (id:=3840704832) (ty:=fZ) (z:=7) (fun o h=>zq o af (zk _) h) (.inr ⟨af,_,rfl,by simp only[aP,Nat.reduceEqDiff,if_true,if_false];rfl⟩) fun blkr gr kA=>?_;have iw:=kA 3840000000 ae;have jl:=kA 3840640704 ae;simp only[go_sem] at iw jl;rcases gr with ⟨e,_⟩|⟨_,gg,e,fq⟩
     .simp at e
     cases e;rw[show(aX (vv ls (-1) 1 false)).reverse=aX (ww ls (-1) 1 false) from rfl] at fq;simp only[Pc.ps,dE,jj] at fq;simp only[go_sem,cF,iw,fq,au,s86];refine gH (gD (pieces ls) (ww ls (-1) 1 false) bv aa aa af) (by kernel_rfl:S.lone 3840960448=false) (.inr (eu (eT _))) fun c1 aW v1 g1 aQ iB=>?_;obtain⟨r1,iA,de⟩:=g1.dD;have q0:=aQ 3840000000 ae;have q1:=aQ 3840640704 ae;have q2:=aQ 3840704832 ae;simp only[go_sem,iw,jl,fq] at q0 q1 q2;simp only[go_sem,cF,q0,q1,iA,s86];refine gH (gD (cZ (pieces ls) (ww ls (-1) 1 false) bv) (vv ls (-1) 1 true) av (by rw[fW];omega) (by rw[fW];simp;omega) af) (by kernel_rfl:S.lone 3840960704=false) (.inr (eu (eT _))) fun c2 aN v2 g2 aS iC=>?_
     simp only[go_sem];refine⟨?_,gY g2⟩;rcases de with rfl|rfl<;>rcases iB with rfl|rfl<;>rcases iC with rfl|rfl<;>kernel_rfl
    have au:¬((av:Int)<(bv:Int)):=aa;have eZ:fN ls av bv false true true ((b0:Int)==(a1:Int))=some (cZ (cZ (pieces ls) (vv ls (-1) 1 true) av) (ww ls (-1) 1 false) bv):=by simp[fN,lJ,j7,kz,vv,ww]
    rw[eZ];simp only[go_sem,cF,hs,s90,fp (xC _) (ft _ _ _ _ _ _ _ _ _),fp (xD _) (ft _ _ _ _ _ _ _ _ _),zC,dY];refine⟨ay,ay,?_⟩;refine yp (f:=92) (es:=aX (vv ls (-1) 1 false)) (id:=3840704832) (ty:=fZ) (z:=7) (fun o h=>zq o af (zk _) h) (.inr ⟨af,_,rfl,by simp only[aP,Nat.reduceEqDiff,if_true,if_false];rfl⟩) fun blkr gr kA=>?_;have iw:=kA 3840000000 ae;have jl:=kA 3840640704 ae;simp only[go_sem] at iw jl;rcases gr with ⟨e,_⟩|⟨_,gg,e,fq⟩
    .simp at e
    cases e;rw[show(aX (vv ls (-1) 1 false)).reverse=aX (ww ls (-1) 1 false) from rfl] at fq;simp only[Pc.ps,dE,jj] at fq;simp only[go_sem,cF,iw,jl,au,s86];refine gH (gD (pieces ls) (vv ls (-1) 1 true) av aa aa af) (by kernel_rfl:S.lone 3841024448=false) (.inr (eu (eT _))) fun c1 aW v1 g1 aQ iB=>?_;obtain⟨r1,iA,de⟩:=g1.dD;have q0:=aQ 3840000000 ae;have q1:=aQ 3840640704 ae;have q2:=aQ 3840704832 ae;simp only[go_sem,iw,jl,fq] at q0 q1 q2;simp only[go_sem,cF,q0,q2,iA,s86];refine gH (gD (cZ (pieces ls) (vv ls (-1) 1 true) av) (ww ls (-1) 1 false) bv (by rw[fW];omega) (by rw[fW];simp;omega) af) (by kernel_rfl:S.lone 3841024704=false) (.inr (eu (eT _))) fun c2 aN v2 g2 aS iC=>?_
    simp only[go_sem];refine⟨?_,gY g2⟩;rcases de with rfl|rfl<;>rcases iB with rfl|rfl<;>rcases iC with rfl|rfl<;>kernel_rfl
   |false=>
    cases ho:((b0:Int)==(a1:Int)) with
    |false=>
     have hn:((b0:Int)!=(a1:Int))=true:=by simp only[bne,ho];rfl
     simp only[go_sem,wz,cF,hs,hn];first|rfl|exact ay|exact⟨ay,rfl⟩|exact⟨ay,ay,rfl⟩
    |true=>
     have hn:((b0:Int)!=(a1:Int))=false:=by simp only[bne,ho];rfl
     simp only[go_sem,wz,cF,hs,hn];refine⟨ay,?_⟩;by_cases kz:av<bv
     .have au:((av:Int)<(bv:Int)):=aa;have eZ:fN ls av bv false true false true=some (cZ (cZ (pieces ls) (vv ls 1 (-1) false) bv) (vv ls 1 (-1) true) av):=by simp[fN,lJ,j7,kz,vv]
      rw[eZ];simp only[go_sem,cF,hs,s90,fp (tI _) (ft _ _ _ _ _ _ _ _ _),fp (tJ _) (ft _ _ _ _ _ _ _ _ _),zB,au,s86];refine⟨ay,ay,?_⟩;refine gH (gD (pieces ls) (vv ls 1 (-1) false) bv aa aa af) (by kernel_rfl:S.lone 3840960448=false) (.inr (eu (eT _))) fun c1 aW v1 g1 aQ iB=>?_;obtain⟨r1,iA,de⟩:=g1.dD;have q0:=aQ 3840000000 ae;have q1:=aQ 3840640704 ae;have q2:=aQ 3840704832 ae;simp only[go_sem] at q0 q1 q2;simp only[go_sem,cF,q0,q1,iA,s86];refine gH (gD (cZ (pieces ls) (vv ls 1 (-1) false) bv) (vv ls 1 (-1) true) av (by rw[fW];omega) (by rw[fW];simp;omega) af) (by kernel_rfl:S.lone 3840960704=false) (.inr (eu (eT _))) fun c2 aN v2 g2 aS iC=>?_
      simp only[go_sem];refine⟨?_,gY g2⟩;rcases de with rfl|rfl<;>rcases iB with rfl|rfl<;>rcases iC with rfl|rfl<;>kernel_rfl
     have au:¬((av:Int)<(bv:Int)):=aa;have eZ:fN ls av bv false true false true=some (cZ (cZ (pieces ls) (vv ls 1 (-1) true) av) (vv ls 1 (-1) false) bv):=by simp[fN,lJ,j7,kz,vv]
     rw[eZ];simp only[go_sem,cF,hs,s90,fp (tI _) (ft _ _ _ _ _ _ _ _ _),fp (tJ _) (ft _ _ _ _ _ _ _ _ _),zB,au,s86];refine⟨ay,ay,?_⟩;refine gH (gD (pieces ls) (vv ls 1 (-1) true) av aa aa af) (by kernel_rfl:S.lone 3841024448=false) (.inr (eu (eT _))) fun c1 aW v1 g1 aQ iB=>?_;obtain⟨r1,iA,de⟩:=g1.dD;have q0:=aQ 3840000000 ae;have q1:=aQ 3840640704 ae;have q2:=aQ 3840704832 ae;simp only[go_sem] at q0 q1 q2;simp only[go_sem,cF,q0,q2,iA,s86];refine gH (gD (cZ (pieces ls) (vv ls 1 (-1) true) av) (vv ls 1 (-1) false) bv (by rw[fW];omega) (by rw[fW];simp;omega) af) (by kernel_rfl:S.lone 3841024704=false) (.inr (eu (eT _))) fun c2 aN v2 g2 aS iC=>?_
     simp only[go_sem];refine⟨?_,gY g2⟩;rcases de with rfl|rfl<;>rcases iB with rfl|rfl<;>rcases iC with rfl|rfl<;>kernel_rfl
  |false=>
   simp only[go_sem,i60,wz];refine⟨ay,ay,?_⟩;refine mY [0,3,4,5,6,7,8,9,40] fun e4 dk=>?_;simp only[go_sem] at dk;cases hs:((b1:Int)==(a1:Int)) with
   |true=>
    simp only[go_sem,dk,hs];refine⟨ay,?_⟩;by_cases kz:av<bv
    .have au:((av:Int)<(bv:Int)):=aa;have eZ:fN ls av bv false false true ((b0:Int)==(a1:Int))=some (cZ (cZ (pieces ls) (ww ls 1 (-1) true) bv) (vv ls 1 (-1) false) av):=by simp[fN,lJ,j7,kz,vv,ww]
     rw[eZ];simp only[go_sem,dk,hs,s90,fp (tI _) (ft _ _ _ _ _ _ _ _ _),fp (tJ _) (ft _ _ _ _ _ _ _ _ _),zB,dY];refine⟨ay,ay,?_⟩;refine yp (f:=92) (es:=aX (vv ls 1 (-1) true)) (id:=3840704832) (ty:=fZ) (z:=7) (fun o h=>zq o af (zk _) h) (.inr ⟨af,_,rfl,by simp only[aP,Nat.reduceEqDiff,if_true,if_false];rfl⟩) fun blkr gr kA=>?_;have iw:=kA 3840000000 ae;have jl:=kA 3840640704 ae;simp only[go_sem] at iw jl;rcases gr with ⟨e,_⟩|⟨_,gg,e,fq⟩
     .simp at e
     cases e;rw[show(aX (vv ls 1 (-1) true)).reverse=aX (ww ls 1 (-1) true) from rfl] at fq;simp only[Pc.ps,dE,jj] at fq;simp only[go_sem,dk,iw,fq,au,s86];refine gH (gD (pieces ls) (ww ls 1 (-1) true) bv aa aa af) (by kernel_rfl:S.lone 3840960448=false) (.inr (eu (eT _))) fun c1 aW v1 g1 aQ iB=>?_;obtain⟨r1,iA,de⟩:=g1.dD;have q0:=aQ 3840000000 ae;have q1:=aQ 3840640704 ae;have q2:=aQ 3840704832 ae;simp only[go_sem,iw,jl,fq] at q0 q1 q2;simp only[go_sem,dk,q0,q1,iA,s86];refine gH (gD (cZ (pieces ls) (ww ls 1 (-1) true) bv) (vv ls 1 (-1) false) av (by rw[fW];omega) (by rw[fW];simp;omega) af) (by kernel_rfl:S.lone 3840960704=false) (.inr (eu (eT _))) fun c2 aN v2 g2 aS iC=>?_
     simp only[go_sem];refine⟨?_,gY g2⟩;rcases de with rfl|rfl<;>rcases iB with rfl|rfl<;>rcases iC with rfl|rfl<;>kernel_rfl
    have au:¬((av:Int)<(bv:Int)):=aa;have eZ:fN ls av bv false false true ((b0:Int)==(a1:Int))=some (cZ (cZ (pieces ls) (vv ls 1 (-1) false) av) (ww ls 1 (-1) true) bv):=by simp[fN,lJ,j7,kz,vv,ww]
    rw[eZ];simp only[go_sem,dk,hs,s90,fp (tI _) (ft _ _ _ _ _ _ _ _ _),fp (tJ _) (ft _ _ _ _ _ _ _ _ _),zB,dY];refine⟨ay,ay,?_⟩;refine yp (f:=92) (es:=aX (vv ls 1 (-1) true)) (id:=3840704832) (ty:=fZ) (z:=7) (fun o h=>zq o af (zk _) h) (.inr ⟨af,_,rfl,by simp only[aP,Nat.reduceEqDiff,if_true,if_false];rfl⟩) fun blkr gr kA=>?_;have iw:=kA 3840000000 ae;have jl:=kA 3840640704 ae;simp only[go_sem] at iw jl;rcases gr with ⟨e,_⟩|⟨_,gg,e,fq⟩
    .simp at e
    cases e;rw[show(aX (vv ls 1 (-1) true)).reverse=aX (ww ls 1 (-1) true) from rfl] at fq;simp only[Pc.ps,dE,jj] at fq;simp only[go_sem,dk,iw,jl,au,s86];refine gH (gD (pieces ls) (vv ls 1 (-1) false) av aa aa af) (by kernel_rfl:S.lone 3841024448=false) (.inr (eu (eT _))) fun c1 aW v1 g1 aQ iB=>?_;obtain⟨r1,iA,de⟩:=g1.dD;have q0:=aQ 3840000000 ae;have q1:=aQ 3840640704 ae;have q2:=aQ 3840704832 ae;simp only[go_sem,iw,jl,fq] at q0 q1 q2;simp only[go_sem,dk,q0,q2,iA,s86];refine gH (gD (cZ (pieces ls) (vv ls 1 (-1) false) av) (ww ls 1 (-1) true) bv (by rw[fW];omega) (by rw[fW];simp;omega) af) (by kernel_rfl:S.lone 3841024704=false) (.inr (eu (eT _))) fun c2 aN v2 g2 aS iC=>?_
    simp only[go_sem];refine⟨?_,gY g2⟩;rcases de with rfl|rfl<;>rcases iB with rfl|rfl<;>rcases iC with rfl|rfl<;>kernel_rfl
   |false=>
    cases ho:((b0:Int)==(a1:Int)) with
    |false=>
     have hn:((b0:Int)!=(a1:Int))=true:=by simp only[bne,ho];rfl
     simp only[go_sem,wz,dk,hs,hn];first|rfl|exact ay|exact⟨ay,rfl⟩|exact⟨ay,ay,rfl⟩
    |true=>
     have hn:((b0:Int)!=(a1:Int))=false:=by simp only[bne,ho];rfl
     simp only[go_sem,wz,dk,hs,hn];refine⟨ay,?_⟩;by_cases kz:av<bv
     .have au:((av:Int)<(bv:Int)):=aa;have eZ:fN ls av bv false false false true=some (cZ (cZ (pieces ls) (vv ls (-1) 1 true) bv) (vv ls (-1) 1 false) av):=by simp[fN,lJ,j7,kz,vv]
      rw[eZ];simp only[go_sem,dk,hs,s90,fp (xC _) (ft _ _ _ _ _ _ _ _ _),fp (xD _) (ft _ _ _ _ _ _ _ _ _),zC,au,s86];refine⟨ay,ay,?_⟩;refine gH (gD (pieces ls) (vv ls (-1) 1 true) bv aa aa af) (by kernel_rfl:S.lone 3840960448=false) (.inr (eu (eT _))) fun c1 aW v1 g1 aQ iB=>?_;obtain⟨r1,iA,de⟩:=g1.dD;have q0:=aQ 3840000000 ae;have q1:=aQ 3840640704 ae;have q2:=aQ 3840704832 ae;simp only[go_sem] at q0 q1 q2;simp only[go_sem,dk,q0,q1,iA,s86];refine gH (gD (cZ (pieces ls) (vv ls (-1) 1 true) bv) (vv ls (-1) 1 false) av (by rw[fW];omega) (by rw[fW];simp;omega) af) (by kernel_rfl:S.lone 3840960704=false) (.inr (eu (eT _))) fun c2 aN v2 g2 aS iC=>?_
      simp only[go_sem];refine⟨?_,gY g2⟩;rcases de with rfl|rfl<;>rcases iB with rfl|rfl<;>rcases iC with rfl|rfl<;>kernel_rfl
     have au:¬((av:Int)<(bv:Int)):=aa;have eZ:fN ls av bv false false false true=some (cZ (cZ (pieces ls) (vv ls (-1) 1 false) av) (vv ls (-1) 1 true) bv):=by simp[fN,lJ,j7,kz,vv]
     rw[eZ];simp only[go_sem,dk,hs,s90,fp (xC _) (ft _ _ _ _ _ _ _ _ _),fp (xD _) (ft _ _ _ _ _ _ _ _ _),zC,au,s86];refine⟨ay,ay,?_⟩;refine gH (gD (pieces ls) (vv ls (-1) 1 false) av aa aa af) (by kernel_rfl:S.lone 3841024448=false) (.inr (eu (eT _))) fun c1 aW v1 g1 aQ iB=>?_;obtain⟨r1,iA,de⟩:=g1.dD;have q0:=aQ 3840000000 ae;have q1:=aQ 3840640704 ae;have q2:=aQ 3840704832 ae;simp only[go_sem] at q0 q1 q2;simp only[go_sem,dk,q0,q2,iA,s86];refine gH (gD (cZ (pieces ls) (vv ls (-1) 1 false) av) (vv ls (-1) 1 true) bv (by rw[fW];omega) (by rw[fW];simp;omega) af) (by kernel_rfl:S.lone 3841024704=false) (.inr (eu (eT _))) fun c2 aN v2 g2 aS iC=>?_
     simp only[go_sem];refine⟨?_,gY g2⟩;rcases de with rfl|rfl<;>rcases iB with rfl|rfl<;>rcases iC with rfl|rfl<;>kernel_rfl
end
end Go.Abs
