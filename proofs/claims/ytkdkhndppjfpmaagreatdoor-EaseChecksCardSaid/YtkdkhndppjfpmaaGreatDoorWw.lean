/- A part. -/
import Derived.Test.YtkdkhndppjfpmaaGreatDoorWs
set_option linter.all false
open List renaming length->I
set_option maxRecDepth 100000
set_option maxHeartbeats 16000000
namespace Go.Abs
variable{F g h m:Nat}{f:ai}{j:q_}
section
attribute [local go_sem ↓] Qo Nq
def Ig(a b:Nat):(a==b)=((a:Int)==(b:Int)):=by
 by_cases h:a=b
 .simp[h]
 have:(a==b)=false:=by simpa using h
 rw[this];symm;simp;omega
def Ct(F:Nat)(f:ai)(g h:Nat):Option cX:=
 if((kR f g true&&kR f h false)||(kR f g false&&kR f h true))&&(!((aV f g).l.id==(aV f (aJ f g)).l.id)&&
  (((((aV f h).l.id==(aV f g).l.id)&&((aV f (aJ f h)).l.id==(aV f (aJ f g)).l.id))||(((aV f h).l.id==(aV f (aJ f g)).l.id)&&((aV f (aJ f h)).l.id==(aV f g).l.id)))&&
  (!((g+2)%I f==h)&&(!((h+2)%I f==g)&&r4 F f 0 [g,h] g))))
 then some (FV (aQ f) [(aV f g).l.id,(aV f (aJ f g)).l.id])else none
def axZ(ad:cE F f)(ha:g<I f)(hb:h<I f){k c:Int}{l o:Bool}{sg:Int}:
  aK S 151 [.one (.p (kh F f)),ep k g h c l o sg] (uN (Ct F f g h)):=by
 have az:=ad.len;have bk:=cW f;have u:=ED ad ha;have j:=ED ad hb;have lR:=fk (g+1) (show 0<I f by omega);have sx:=fk (h+1) (show 0<I f by omega);have pc:=ack ad [g,h] aP (h:=g) rfl ha 0;simp only[eJ,lr]at pc;have c0:((0:Nat):Int)=0:=rfl;rw[c0]at pc;have m:=LO ad ha true;have v:=LO ad hb false;have B:=LO ad ha false;have y:=LO ad hb true;obtain⟨P,hP⟩:=aT (L:=aQ f) (k:=g) J;obtain⟨M,ac⟩:=aT (L:=aQ f) (k:=(g+1)%I f) J;obtain⟨Q,hQ⟩:=aT (L:=aQ f) (k:=h) J;obtain⟨Q2,R⟩:=aT (L:=aQ f) (k:=(h+1)%I f) J;have jt:=kI hP;have aw:=kI ac;have ng:=kI hQ;have ap:=kI R;have hz:¬((I f:Int)=0):=J
 have am:IntKind.i64.wrap ((g:Int)+2)=((g+2:Nat):Int):=(kA (x:=(g:Int)+2) J J).trans J;have ak:=tB (g+2) (I f);have aq:IntKind.i64.wrap ((h:Int)+2)=((h+2:Nat):Int):=(kA (x:=(h:Int)+2) J J).trans J;have ag:=tB (h+2) (I f);have lo:S.lone 9664704448=false:=ah;have pd:=ae4 (aQ f) [P.l.id,M.l.id] J aP (acK ad);simp only[eJ,lr]at pd;have x3:kR f g true->kR f g false=false:=λX=>by
  unfold kR at X |-;rw[mu hP]at X |-;simp only[c6]at X;have:P.l.over:=by simpa using X.2.2.1
  simp[this]
 unfold Ct;rw[mu hP,mu hQ,mu ac,mu R,Ig,Ig];have n:=And.intro jt (And.intro ng (And.intro aw (And.intro ap (And.intro ha (And.intro hb (And.intro lR (And.intro sx (And.intro bk (And.intro am (And.intro ak (And.intro hz (And.intro aq ag))))))))))));refine bj atf ?_;simp only[go_sem,amB,iC,au m,au v,au B,au y,eN,aU u cM,aU j cM,n,aR.ps,hU,dq pc,iJ];refine ll [0,3,4,5,6,7,22] λe1 O=>?_;try simp only[go_sem]at O
 obtain⟨SY,S1,S2,S3,S4,S5,SZ⟩:=O;cases X:kR f g true with
 |true=>
  simp only[go_sem,iC,au m,au v,au B,au y,eN,aU u cM,aU j cM,n,aR.ps,hU,dq pc,iJ,SY,S1,S2,S3,S4,S5,SZ,X];refine ll [0,3,4,5,6,7,28] λe2 h2=>?_;try simp only[go_sem,SY,S1,S2,S3,S4,S5,SZ,X]at h2
  obtain⟨YR,YT,YU,YV,YW,YX,YS⟩:=h2;cases x2:kR f h false with
  |false=>have ar:=x3 X;simp only[go_sem,iC,au m,au v,au B,au y,eN,aU u cM,aU j cM,n,aR.ps,hU,dq pc,iJ,YR,YT,YU,YV,YW,YX,YS,x2,ar];first|rfl|exact aA|exact⟨aA,rfl⟩|exact⟨aA,aA,rfl⟩
  |true=>
  simp only[go_sem,iC,au m,au v,au B,au y,eN,aU u cM,aU j cM,n,aR.ps,hU,dq pc,iJ,YR,YT,YU,YV,YW,YX,YS,x2];refine⟨aA,?_⟩;refine ll [0,3,4,5,6,9,10,11,12,76] λe3 h3=>?_;try simp only[go_sem,YR,YT,YU,YV,YW,YX,YS,x2]at h3
  obtain⟨YY,Zb,Zc,Zd,Ze,Zg,YZ,Y0,Za,Zf⟩:=h3;cases L:(P.l.id==M.l.id)with
  |true=>simp only[go_sem,iC,au m,au v,au B,au y,eN,aU u cM,aU j cM,n,aR.ps,hU,dq pc,iJ,YY,Zb,Zc,Zd,Ze,Zg,YZ,Y0,Za,Zf,L];first|rfl|exact aA|exact⟨aA,rfl⟩|exact⟨aA,aA,rfl⟩
  |false=>
  simp only[go_sem,iC,au m,au v,au B,au y,eN,aU u cM,aU j cM,n,aR.ps,hU,dq pc,iJ,YY,Zb,Zc,Zd,Ze,Zg,YZ,Y0,Za,Zf,L];refine ll [0,3,4,5,6,9,10,11,12,76,88] λe4 h4=>?_;try simp only[go_sem,YY,Zb,Zc,Zd,Ze,Zg,YZ,Y0,Za,Zf,L]at h4
  obtain⟨S6,Ta,Tb,Tc,Td,Tg,S7,S8,S9,Te,Tf⟩:=h4;cases A:(Q.l.id==P.l.id)with
  |true=>
   have H:(Q.l.id==M.l.id)=false:=by
    have O:Q.l.id=P.l.id:=by simpa using A
    rw[O];exact L
   simp only[go_sem,iC,au m,au v,au B,au y,eN,aU u cM,aU j cM,n,aR.ps,hU,dq pc,iJ,S6,Ta,Tb,Tc,Td,Tg,S7,S8,S9,Te,Tf,A];refine ll [0,3,4,5,6,9,10,11,12,76,101] λe5 h5=>?_;try simp only[go_sem,S6,Ta,Tb,Tc,Td,Tg,S7,S8,S9,Te,Tf,A]at h5
   obtain⟨Zh,Zm,Zn,Zo,Zp,Zr,Zi,Zk,Zl,Zq,Zj⟩:=h5;cases c9:(Q2.l.id==M.l.id)with
   |false=>simp only[go_sem,iC,au m,au v,au B,au y,eN,aU u cM,aU j cM,n,aR.ps,hU,dq pc,iJ,Zh,Zm,Zn,Zo,Zp,Zr,Zi,Zk,Zl,Zq,Zj,c9,H];first|rfl|exact aA|exact⟨aA,rfl⟩|exact⟨aA,aA,rfl⟩
   |true=>
   simp only[go_sem,iC,au m,au v,au B,au y,eN,aU u cM,aU j cM,n,aR.ps,hU,dq pc,iJ,Zh,Zm,Zn,Zo,Zp,Zr,Zi,Zk,Zl,Zq,Zj,c9];refine tR [0,3,4,5,6,11,12,137] λe6 h6=>?_;try simp only[go_sem,Zh,Zm,Zn,Zo,Zp,Zr,Zi,Zk,Zl,Zq,Zj,c9]at h6
   obtain⟨Zs,Zw,Zx,Zy,Zz,Zt,Zu,Zv⟩:=h6;cases z:((((g+2)%I f:Nat):Int)==(h:Int))with
   |true=>simp only[go_sem,iC,au m,au v,au B,au y,eN,aU u cM,aU j cM,n,aR.ps,hU,dq pc,iJ,Zs,Zw,Zx,Zy,Zz,Zt,Zu,Zv,z];first|rfl|exact aA|exact⟨aA,rfl⟩|exact⟨aA,aA,rfl⟩
   |false=>
   simp only[go_sem,iC,au m,au v,au B,au y,eN,aU u cM,aU j cM,n,aR.ps,hU,dq pc,iJ,Zs,Zw,Zx,Zy,Zz,Zt,Zu,Zv,z];refine tR [0,3,4,5,11,12,147] λe7 h7=>?_;try simp only[go_sem,Zs,Zw,Zx,Zy,Zz,Zt,Zu,Zv,z]at h7
   obtain⟨ZA,ZE,ZF,ZG,ZB,ZC,ZD⟩:=h7;cases D:((((h+2)%I f:Nat):Int)==(g:Int))with
   |true=>simp only[go_sem,iC,au m,au v,au B,au y,eN,aU u cM,aU j cM,n,aR.ps,hU,dq pc,iJ,ZA,ZE,ZF,ZG,ZB,ZC,ZD,D];first|rfl|exact aA|exact⟨aA,rfl⟩|exact⟨aA,aA,rfl⟩
   |false=>
   cases E:r4 F f 0 [g,h] g with
   |false=>rw[E]at pc;simp only[go_sem,iC,au m,au v,au B,au y,eN,aU u cM,aU j cM,n,aR.ps,hU,dq pc,iJ,ZA,ZE,ZF,ZG,ZB,ZC,ZD,D];first|rfl|exact aA|exact⟨aA,rfl⟩|exact⟨aA,aA,rfl⟩
   |true=>rw[E]at pc;simp only[go_sem,iC,au m,au v,au B,au y,eN,aU u cM,aU j cM,n,aR.ps,hU,dq pc,iJ,ZA,ZE,ZF,ZG,ZB,ZC,ZD,D];refine⟨aA,?_⟩;refine mX pd lo (.inr (fN (jw _))) λcc bG N nI=>?_;simp only[go_sem];exact nA N
  |false=>
   simp only[go_sem,iC,au m,au v,au B,au y,eN,aU u cM,aU j cM,n,aR.ps,hU,dq pc,iJ,S6,Ta,Tb,Tc,Td,Tg,S7,S8,S9,Te,Tf,A];refine ll [0,3,4,5,6,10,11,12,76,101,113] λe8 h8=>?_;try simp only[go_sem,S6,Ta,Tb,Tc,Td,Tg,S7,S8,S9,Te,Tf,A]at h8
   obtain⟨ZH,ZN,ZO,ZP,ZQ,ZI,ZK,ZM,ZR,ZJ,ZL⟩:=h8;cases H:(Q.l.id==M.l.id)with
   |false=>simp only[go_sem,iC,au m,au v,au B,au y,eN,aU u cM,aU j cM,n,aR.ps,hU,dq pc,iJ,ZH,ZN,ZO,ZP,ZQ,ZI,ZK,ZM,ZR,ZJ,ZL,H];first|rfl|exact aA|exact⟨aA,rfl⟩|exact⟨aA,aA,rfl⟩
   |true=>
   simp only[go_sem,iC,au m,au v,au B,au y,eN,aU u cM,aU j cM,n,aR.ps,hU,dq pc,iJ,ZH,ZN,ZO,ZP,ZQ,ZI,ZK,ZM,ZR,ZJ,ZL,H];refine aj1 [0,3,4,5,6,11,12] λe9 h9=>?_;try simp only[go_sem,ZH,ZN,ZO,ZP,ZQ,ZI,ZK,ZM,ZR,ZJ,ZL,H]at h9
   obtain⟨ZS,ZV,ZW,ZX,ZY,ZT,ZU⟩:=h9;cases eT:(Q2.l.id==P.l.id)with
   |false=>simp only[go_sem,iC,au m,au v,au B,au y,eN,aU u cM,aU j cM,n,aR.ps,hU,dq pc,iJ,ZS,ZV,ZW,ZX,ZY,ZT,ZU,eT];first|rfl|exact aA|exact⟨aA,rfl⟩|exact⟨aA,aA,rfl⟩
   |true=>
   simp only[go_sem,iC,au m,au v,au B,au y,eN,aU u cM,aU j cM,n,aR.ps,hU,dq pc,iJ,ZS,ZV,ZW,ZX,ZY,ZT,ZU,eT];refine tR [0,3,4,5,6,11,12,137] λJq cQ=>?_;try simp only[go_sem,ZS,ZV,ZW,ZX,ZY,ZT,ZU,eT]at cQ
   obtain⟨Xu,Xy,Xz,XA,XB,Xv,Xw,Xx⟩:=cQ;cases z:((((g+2)%I f:Nat):Int)==(h:Int))with
   |true=>simp only[go_sem,iC,au m,au v,au B,au y,eN,aU u cM,aU j cM,n,aR.ps,hU,dq pc,iJ,Xu,Xy,Xz,XA,XB,Xv,Xw,Xx,z];first|rfl|exact aA|exact⟨aA,rfl⟩|exact⟨aA,aA,rfl⟩
   |false=>
   simp only[go_sem,iC,au m,au v,au B,au y,eN,aU u cM,aU j cM,n,aR.ps,hU,dq pc,iJ,Xu,Xy,Xz,XA,XB,Xv,Xw,Xx,z];refine tR [0,3,4,5,11,12,147] λLD fO=>?_;try simp only[go_sem,Xu,Xy,Xz,XA,XB,Xv,Xw,Xx,z]at fO
   obtain⟨XC,XG,XH,XI,XD,XE,XF⟩:=fO;cases D:((((h+2)%I f:Nat):Int)==(g:Int))with
   |true=>simp only[go_sem,iC,au m,au v,au B,au y,eN,aU u cM,aU j cM,n,aR.ps,hU,dq pc,iJ,XC,XG,XH,XI,XD,XE,XF,D];first|rfl|exact aA|exact⟨aA,rfl⟩|exact⟨aA,aA,rfl⟩
   |false=>
   cases E:r4 F f 0 [g,h] g with
   |false=>rw[E]at pc;simp only[go_sem,iC,au m,au v,au B,au y,eN,aU u cM,aU j cM,n,aR.ps,hU,dq pc,iJ,XC,XG,XH,XI,XD,XE,XF,D];first|rfl|exact aA|exact⟨aA,rfl⟩|exact⟨aA,aA,rfl⟩
   |true=>rw[E]at pc;simp only[go_sem,iC,au m,au v,au B,au y,eN,aU u cM,aU j cM,n,aR.ps,hU,dq pc,iJ,XC,XG,XH,XI,XD,XE,XF,D];refine⟨aA,?_⟩;refine mX pd lo (.inr (fN (jw _))) λcc bG N nI=>?_;simp only[go_sem];exact nA N
 |false=>
  simp only[go_sem,iC,au m,au v,au B,au y,eN,aU u cM,aU j cM,n,aR.ps,hU,dq pc,iJ,SY,S1,S2,S3,S4,S5,SZ,X];refine ll [0,3,4,5,6,7,28,33] λa2 iT=>?_;try simp only[go_sem,SY,S1,S2,S3,S4,S5,SZ,X]at iT
  obtain⟨Y,OP,T,OS,Z,OU,OO,OQ⟩:=iT;cases x4:kR f g false with
  |false=>simp only[go_sem,iC,au m,au v,au B,au y,eN,aU u cM,aU j cM,n,aR.ps,hU,dq pc,iJ,Y,OP,T,OS,Z,OU,OO,OQ,x4];first|rfl|exact aA|exact⟨aA,rfl⟩|exact⟨aA,aA,rfl⟩
  |true=>
  simp only[go_sem,iC,au m,au v,au B,au y,eN,aU u cM,aU j cM,n,aR.ps,hU,dq pc,iJ,Y,OP,T,OS,Z,OU,OO,OQ,x4];cases x5:kR f h true with
  |false=>simp only[go_sem,iC,au m,au v,au B,au y,eN,aU u cM,aU j cM,n,aR.ps,hU,dq pc,iJ,Y,OP,T,OS,Z,OU,OO,OQ,x4,x5];first|rfl|exact aA|exact⟨aA,rfl⟩|exact⟨aA,aA,rfl⟩
  |true=>
  simp only[go_sem,iC,au m,au v,au B,au y,eN,aU u cM,aU j cM,n,aR.ps,hU,dq pc,iJ,Y,OP,T,OS,Z,OU,OO,OQ,x4,x5];refine⟨aA,?_⟩;refine ll [0,3,4,5,6,9,10,11,12,76] λaL mJ=>?_;try simp only[go_sem,Y,OP,T,OS,Z,OU,OO,OQ,x4,x5]at mJ
  obtain⟨XJ,XN,XO,XP,XQ,XS,XK,XL,XM,XR⟩:=mJ;cases L:(P.l.id==M.l.id)with
  |true=>simp only[go_sem,iC,au m,au v,au B,au y,eN,aU u cM,aU j cM,n,aR.ps,hU,dq pc,iJ,XJ,XN,XO,XP,XQ,XS,XK,XL,XM,XR,L];first|rfl|exact aA|exact⟨aA,rfl⟩|exact⟨aA,aA,rfl⟩
  |false=>
  simp only[go_sem,iC,au m,au v,au B,au y,eN,aU u cM,aU j cM,n,aR.ps,hU,dq pc,iJ,XJ,XN,XO,XP,XQ,XS,XK,XL,XM,XR,L];refine ll [0,3,4,5,6,9,10,11,12,76,88] λa0 A7=>?_;try simp only[go_sem,XJ,XN,XO,XP,XQ,XS,XK,XL,XM,XR,L]at A7
  obtain⟨SM,SQ,SR,SS,SU,SX,SN,SO,SP,SV,SW⟩:=A7;cases A:(Q.l.id==P.l.id)with
  |true=>
   have H:(Q.l.id==M.l.id)=false:=by
    have O:Q.l.id=P.l.id:=by simpa using A
    rw[O];exact L
   simp only[go_sem,iC,au m,au v,au B,au y,eN,aU u cM,aU j cM,n,aR.ps,hU,dq pc,iJ,SM,SQ,SR,SS,SU,SX,SN,SO,SP,SV,SW,A];refine ll [0,3,4,5,6,9,10,11,12,76,101] λaG qw=>?_;try simp only[go_sem,SM,SQ,SR,SS,SU,SX,SN,SO,SP,SV,SW,A]at qw
   obtain⟨XT,XY,XZ,X0,X1,X3,XU,XW,XX,X2,XV⟩:=qw;cases c9:(Q2.l.id==M.l.id)with
   |false=>simp only[go_sem,iC,au m,au v,au B,au y,eN,aU u cM,aU j cM,n,aR.ps,hU,dq pc,iJ,XT,XY,XZ,X0,X1,X3,XU,XW,XX,X2,XV,c9,H];first|rfl|exact aA|exact⟨aA,rfl⟩|exact⟨aA,aA,rfl⟩
   |true=>
   simp only[go_sem,iC,au m,au v,au B,au y,eN,aU u cM,aU j cM,n,aR.ps,hU,dq pc,iJ,XT,XY,XZ,X0,X1,X3,XU,XW,XX,X2,XV,c9];refine tR [0,3,4,5,6,11,12,137] λaO uV=>?_;try simp only[go_sem,XT,XY,XZ,X0,X1,X3,XU,XW,XX,X2,XV,c9]at uV
   obtain⟨X5,X9,Ya,Yb,Yc,X6,X7,X8⟩:=uV;cases z:((((g+2)%I f:Nat):Int)==(h:Int))with
   |true=>simp only[go_sem,iC,au m,au v,au B,au y,eN,aU u cM,aU j cM,n,aR.ps,hU,dq pc,iJ,X5,X9,Ya,Yb,Yc,X6,X7,X8,z];first|rfl|exact aA|exact⟨aA,rfl⟩|exact⟨aA,aA,rfl⟩
   |false=>
   simp only[go_sem,iC,au m,au v,au B,au y,eN,aU u cM,aU j cM,n,aR.ps,hU,dq pc,iJ,X5,X9,Ya,Yb,Yc,X6,X7,X8,z];refine tR [0,3,4,5,11,12,147] λLF fq=>?_;try simp only[go_sem,X5,X9,Ya,Yb,Yc,X6,X7,X8,z]at fq
   obtain⟨Yd,Yh,Yi,Yj,Ye,Yf,Yg⟩:=fq;cases D:((((h+2)%I f:Nat):Int)==(g:Int))with
   |true=>simp only[go_sem,iC,au m,au v,au B,au y,eN,aU u cM,aU j cM,n,aR.ps,hU,dq pc,iJ,Yd,Yh,Yi,Yj,Ye,Yf,Yg,D];first|rfl|exact aA|exact⟨aA,rfl⟩|exact⟨aA,aA,rfl⟩
   |false=>
   cases E:r4 F f 0 [g,h] g with
   |false=>rw[E]at pc;simp only[go_sem,iC,au m,au v,au B,au y,eN,aU u cM,aU j cM,n,aR.ps,hU,dq pc,iJ,Yd,Yh,Yi,Yj,Ye,Yf,Yg,D];first|rfl|exact aA|exact⟨aA,rfl⟩|exact⟨aA,aA,rfl⟩
   |true=>rw[E]at pc;simp only[go_sem,iC,au m,au v,au B,au y,eN,aU u cM,aU j cM,n,aR.ps,hU,dq pc,iJ,Yd,Yh,Yi,Yj,Ye,Yf,Yg,D];refine⟨aA,?_⟩;refine mX pd lo (.inr (fN (jw _))) λcc bG N nI=>?_;simp only[go_sem];exact nA N
  |false=>
   simp only[go_sem,iC,au m,au v,au B,au y,eN,aU u cM,aU j cM,n,aR.ps,hU,dq pc,iJ,SM,SQ,SR,SS,SU,SX,SN,SO,SP,SV,SW,A];refine ll [0,3,4,5,6,10,11,12,76,101,113] λLG fh=>?_;try simp only[go_sem,SM,SQ,SR,SS,SU,SX,SN,SO,SP,SV,SW,A]at fh
   obtain⟨Yk,Yq,Yr,Ys,Yt,Yl,Yn,Yp,Yu,Ym,Yo⟩:=fh;cases H:(Q.l.id==M.l.id)with
   |false=>simp only[go_sem,iC,au m,au v,au B,au y,eN,aU u cM,aU j cM,n,aR.ps,hU,dq pc,iJ,Yk,Yq,Yr,Ys,Yt,Yl,Yn,Yp,Yu,Ym,Yo,H];first|rfl|exact aA|exact⟨aA,rfl⟩|exact⟨aA,aA,rfl⟩
   |true=>
   simp only[go_sem,iC,au m,au v,au B,au y,eN,aU u cM,aU j cM,n,aR.ps,hU,dq pc,iJ,Yk,Yq,Yr,Ys,Yt,Yl,Yn,Yp,Yu,Ym,Yo,H];refine aj1 [0,3,4,5,6,11,12] λa1 fK=>?_;try simp only[go_sem,Yk,Yq,Yr,Ys,Yt,Yl,Yn,Yp,Yu,Ym,Yo,H]at fK
   obtain⟨Yv,Yy,Yz,YA,YB,Yw,Yx⟩:=fK;cases eT:(Q2.l.id==P.l.id)with
   |false=>simp only[go_sem,iC,au m,au v,au B,au y,eN,aU u cM,aU j cM,n,aR.ps,hU,dq pc,iJ,Yv,Yy,Yz,YA,YB,Yw,Yx,eT];first|rfl|exact aA|exact⟨aA,rfl⟩|exact⟨aA,aA,rfl⟩
   |true=>
   simp only[go_sem,iC,au m,au v,au B,au y,eN,aU u cM,aU j cM,n,aR.ps,hU,dq pc,iJ,Yv,Yy,Yz,YA,YB,Yw,Yx,eT];refine tR [0,3,4,5,6,11,12,137] λaM L4=>?_;try simp only[go_sem,Yv,Yy,Yz,YA,YB,Yw,Yx,eT]at L4
   obtain⟨YC,YG,YH,YI,YJ,YD,YE,YF⟩:=L4;cases z:((((g+2)%I f:Nat):Int)==(h:Int))with
   |true=>simp only[go_sem,iC,au m,au v,au B,au y,eN,aU u cM,aU j cM,n,aR.ps,hU,dq pc,iJ,YC,YG,YH,YI,YJ,YD,YE,YF,z];first|rfl|exact aA|exact⟨aA,rfl⟩|exact⟨aA,aA,rfl⟩
   |false=>
   simp only[go_sem,iC,au m,au v,au B,au y,eN,aU u cM,aU j cM,n,aR.ps,hU,dq pc,iJ,YC,YG,YH,YI,YJ,YD,YE,YF,z];refine tR [0,3,4,5,11,12,147] λaW ab=>?_;try simp only[go_sem,YC,YG,YH,YI,YJ,YD,YE,YF,z]at ab
   obtain⟨YK,YO,YP,YQ,YL,YM,YN⟩:=ab;cases D:((((h+2)%I f:Nat):Int)==(g:Int))with
   |true=>simp only[go_sem,iC,au m,au v,au B,au y,eN,aU u cM,aU j cM,n,aR.ps,hU,dq pc,iJ,YK,YO,YP,YQ,YL,YM,YN,D];first|rfl|exact aA|exact⟨aA,rfl⟩|exact⟨aA,aA,rfl⟩
   |false=>
   cases E:r4 F f 0 [g,h] g with
   |false=>rw[E]at pc;simp only[go_sem,iC,au m,au v,au B,au y,eN,aU u cM,aU j cM,n,aR.ps,hU,dq pc,iJ,YK,YO,YP,YQ,YL,YM,YN,D];first|rfl|exact aA|exact⟨aA,rfl⟩|exact⟨aA,aA,rfl⟩
   |true=>rw[E]at pc;simp only[go_sem,iC,au m,au v,au B,au y,eN,aU u cM,aU j cM,n,aR.ps,hU,dq pc,iJ,YK,YO,YP,YQ,YL,YM,YN,D];refine⟨aA,?_⟩;refine mX pd lo (.inr (fN (jw _))) λcc bG N nI=>?_;simp only[go_sem];exact nA N
end
section
attribute [local go_sem ↓] Qo Nq
def Hb{al:cT}{aj:aN}{id:Nat}{c:dI}(o:j=[]\/al.ok id)(hl:I j<=1000000)(mv:∀e∈j,I e=7/\ ∀v∈e,v.norm=v)(h:cg id m 7 j (.one c) aj):
  ∃v A,lK S 184 [.one c] al aj v A/\IT id m 7 j c aj v A:=by
 refine qK awr (jc rfl) ?_;rcases h with⟨rfl,H⟩|⟨aO,g,H,hC⟩
 .cases H;have X:IntKind.i64.wrap (((0:Nat):Int)-1)= -1:=U;have hz:¬((0:Int)< -1):=U;simp only[go_sem,Y1,X,af,ao];refine dy (λk f A=>k=0/\f 2=aH 0/\f 3=aH (-1)/\A=aj) 0 0 (c3 _) ?_ ?_
  .simp only[go_sem]
  rintro k f A _ ⟨rfl,H,x,rfl⟩
  simp only[go_sem,RM,H,x,hz,af,ao];exact⟨rfl,.inl ⟨rfl,rfl⟩,λ_ _=>rfl⟩
 cases H;have o:=o.resolve_left aO;have X:=ud (a:=I j) J;simp only[go_sem,Y1,X,af,ao];refine dy (λk f A=>f 0=.one (.hsl id g 7 0 (I j))/\f 2=aH k/\f 3=aH ((I j:Int)-1-(k:Int))/\ ∃fs,A id=(g,some (.arr m 7 fs))/\vH j fs k/\dE (· =id) aj A) 0 (I j) (cG _) ?_ ?_
 .simp only[go_sem];refine⟨rfl,aP,j,hC,vH.start j,dE.refl _ _⟩
 rintro k f A hk ⟨h0,H,x,fs,Q,R,dz⟩
 by_cases aw:k<I j-1-k
 .have e1:((I j:Int)-1-(k:Int))=((I j-1-k:Nat):Int):=J;rw[e1]at x;have z:((k:Int)<((I j-1-k:Nat):Int)):=J;have w1:=cN (n:=k) J;have w2:IntKind.i64.wrap (((I j-1-k:Nat):Int)-1)=((I j:Int)-1-((k+1:Nat):Int)):=by
   rw[ud J];omega
  obtain⟨a,ha⟩:=aT (show k<I j by omega);obtain⟨b,Z⟩:=aT (show I j-1-k<I j by omega);obtain⟨fa,fb,zS⟩:=R.step aw ha Z;obtain⟨la,u⟩:=mv a (bR ha);obtain⟨lb,N⟩:=mv b (bR Z);obtain⟨x0,x1,x2,x3,x4,x5,x6,rfl⟩:=am6 la;obtain⟨y0,y1,y2,y3,y4,y5,y6,rfl⟩:=am6 lb;have JO:=u x0 aP;have PU:=u x1 aP;have y:=u x2 aP;have O:=u x3 aP;have B:=u x4 aP;have D:=u x5 aP;have Y:=u x6 aP;have JP:=N y0 aP;have PW:=N y1 aP;have E:=N y2 aP;have M:=N y3 aP;have L:=N y4 aP;have F:=N y5 aP;have T:=N y6 aP;have xK:=R.len;have Et:¬(k=I j-1-k):=J;have JJ:¬(I j-1-k=k):=J;have l1:k<I fs:=J;have l2:I j-1-k<I fs:=J;have l3:k<I j:=J
  have l4:I j-1-k<I j:=J;simp only[go_sem,RM,h0,H,x,Q,z,fa,fb,w1,w2,o,l1,l2,l3,l4,Et,JJ,JO,PU,y,O,B,D,Y,JP,PW,E,M,L,F,T,mT,jo,af,ao];refine⟨aA,_,rfl,zS,?_⟩;exact(dz.dx rfl _).dx rfl _
 have z:¬((k:Int)<(I j:Int)-1-(k:Int)):=J;simp only[go_sem,RM,h0,H,x,z,af,ao];refine⟨rfl,?_,dz⟩;rw[R.done aw]at Q;exact .inr ⟨by simpa using aO,g,by rw[jl],Q⟩
def Cd{Q:hs}{n:ct}{aj:aN}{os:fI}{d:eC}{f id z:Nat}{c:dI}(g:∀ {al:cT}{aj:aN},j=[]\/al.ok id->cg id m z j (.one c) aj->∃v A,lK S f [.one c] al aj v A/\IT id m z j c aj v A)(H:cg id m z j (.one c) aj)
  (y:∀A,cg id m z j.reverse (.one c) A->(∀i,i≠id->A i=aj i)->jI S .all os Q (dP n d (.tup [])) A):kn S .all (.sc f [.one c]) d os Q n aj:=by
 refine sG (P:=IT id m z j c aj) t_ (g ?_ H) ?_
 .rcases UL H with⟨h,_⟩|h
  .exact .inl h
  exact .inr (tu (by simp[h]))
 rintro v A ⟨rfl,x,u⟩
 exact y A x u
abbrev mI(x k:Nat)(sg:Int)(ov:Bool):aR:=⟨⟨2,0,0,((x+k:Nat):Int),sg,ov⟩,false⟩
abbrev dN(ls:ai)(s t:Int)(o:Bool):cX:=[mI (an aa.aB ls/2) 1 s o,mI (an aa.aB ls/2) 2 t o]
abbrev jy(ls:ai)(s t:Int)(o:Bool):cX:=[mI (an aa.aB ls/2) 2 t o,mI (an aa.aB ls/2) 1 s o]
abbrev ob(F:Nat)(ls:ai)(d:Nat):Nat:=(kO F ls).getD d 0
abbrev sV(x:Nat)(sg:Int)(o:Bool):cX:=[mI x 1 sg o,mI x 2 (-sg) o]
abbrev qu(x:Nat)(sg:Int)(o same:Bool):cX:=if same then [mI x 2 (-sg) (!o),mI x 1 sg (!o)]else [mI x 1 sg (!o),mI x 2 (-sg) (!o)]
def jm(f:ai)(g h:Nat)(l o m O:Bool):Option cX:=
 if !m&& !O then none
 else
  let sg:Int:=if o==(m==l)then 1 else -1
  let first:=sV (an aa.aB f/2) sg o
  let j:=qu (an aa.aB f/2) sg o m
  some (if g<h then fF (fF (aQ f) j h) first g else fF (fF (aQ f) first g) j h)
def Ch(F:Nat)(f:ai)(g h:Nat)(l o:Bool):Option cX:=
 if l then jm f g h l o ((ob F f (2*h):Int)==(ob F f (2*g):Int)) ((ob F f (2*h+1):Int)==(ob F f (2*g):Int))
 else jm f g h l o ((ob F f (2*h+1):Int)==(ob F f (2*g+1):Int)) ((ob F f (2*h):Int)==(ob F f (2*g+1):Int))
def RS{d:Nat}(h:d<2*I f):(kO F f)[d]?=some (ob F f d):=by obtain⟨j,H⟩:=aT (L:=kO F f) (k:=d) (by rw[N7];exact h);rw[ob,dC,H];rfl
def ase(a6:cE F f)(ha:g<I f)(hb:h<I f)(fV:g≠h){k c:Int}{l o:Bool}{sg:Int}:
  aK S 152 [.one (.p (kh F f)),ep k g h c l o sg] (uN (Ch F f g h l o)):=by
 have a5:=a6.len;have fi:=a6.cr;have bk:=cW f;have Ab:=N7 F f;have aq:=rB (a:=g) J;have a3:=rB (a:=h) J;have aL:IntKind.i64.wrap (((2*g:Nat):Int)+0)=((2*g:Nat):Int):=(kA (x:=((2*g:Nat):Int)+0) J J).trans J;have aM:=cN (n:=2*g) J;have am:IntKind.i64.wrap (((2*h:Nat):Int)+0)=((2*h:Nat):Int):=(kA (x:=((2*h:Nat):Int)+0) J J).trans J;have a4:=cN (n:=2*h) J;have aG:IntKind.i64.wrap (((2*h+1:Nat):Int)-0)=((2*h+1:Nat):Int):=(kA (x:=((2*h+1:Nat):Int)-0) J J).trans J;have ak:IntKind.i64.wrap (((2*h+1:Nat):Int)-1)=((2*h:Nat):Int):=(kA (x:=((2*h+1:Nat):Int)-1) J J).trans J;have ad:2*g<I (kO F f):=J;have aO:2*g+1<I (kO F f):=J
 have ag:2*h<I (kO F f):=J;have ap:2*h+1<I (kO F f):=J;have ar:=jG (RS (F:=F) (f:=f) (d:=2*g) J);have a2:=jG (RS (F:=F) (f:=f) (d:=2*g+1) J);have ac:=jG (RS (F:=F) (f:=f) (d:=2*h) J);have az:=jG (RS (F:=F) (f:=f) (d:=2*h+1) J);have eX:S.shared 184:=ah;have k1:((1:Nat):Int)=1:=rfl;have k2:((2:Nat):Int)=2:=rfl;have BH:=λov=>Me F (an aa.aB f/2) 1 ov (.sl (di (aQ f))) (.sl (kz (dG F f))) (.sl (a_ (kO F f))) (.int .i64 (an aa.aI f:Nat)) (.sl (a_ (gy f F))) 1 J J;have BI:=λov=>Me F (an aa.aB f/2) (-1) ov (.sl (di (aQ f))) (.sl (kz (dG F f))) (.sl (a_ (kO F f))) (.int .i64 (an aa.aI f:Nat)) (.sl (a_ (gy f F))) 2 J J
 have GC:=λov=>Me F (an aa.aB f/2) (-1) ov (.sl (di (aQ f))) (.sl (kz (dG F f))) (.sl (a_ (kO F f))) (.int .i64 (an aa.aI f:Nat)) (.sl (a_ (gy f F))) 1 J J;have GD:=λov=>Me F (an aa.aB f/2) 1 ov (.sl (di (aQ f))) (.sl (kz (dG F f))) (.sl (a_ (kO F f))) (.int .i64 (an aa.aI f:Nat)) (.sl (a_ (gy f F))) 2 J J;simp only[k1,k2]at BH BI GC GD;have xj:IntKind.i64.wrap (0-1)= -1:=U;have xm:IntKind.i64.wrap (0 - -1)=1:=U;have E:∀aj:aN,∀s,∀x1 x2 x3 x4 x5 x6 x7:PV,fg aj [] s ((RV.agg [.p x1,.p x2,.p x3,.p x4,.p x5,.p x6,.p x7]).fR (S.lone s))=some (.agg [.p x1,.p x2,.p x3,.p x4,.p x5,.p x6,.p x7],[]):=λaj s x1 x2 x3 x4 x5 x6 x7=>by cases S.lone s<;>rfl
 have u:=And.intro aL (And.intro aM (And.intro am (And.intro a4 (And.intro aG (And.intro ak (And.intro aq (And.intro a3 (And.intro ad (And.intro aO (And.intro ag (And.intro ap (And.intro ar (And.intro a2 (And.intro ac az))))))))))))));unfold Ch;generalize ob F f (2*g)=a0 at*;generalize ob F f (2*g+1)=a1 at*;generalize ob F f (2*h)=b0 at*;generalize ob F f (2*h+1)=b1 at*;refine bj aB6 ?_;cases l with
 |true=>
  rw[aD rfl];cases o with
  |true=>
   simp only[go_sem,NS,u];refine⟨aA,aA,?_⟩;refine tR [0,3,4,5,6,7,8,9,40] λe1 gM=>?_;simp only[go_sem]at gM;cases ae:((b0:Int)==(a0:Int))with
   |true=>
    simp only[go_sem,u,gM,ae];refine⟨aA,?_⟩;by_cases mZ:g<h
    .have A:((g:Int)<(h:Int)):=J;have N:jm f g h true true true ((b1:Int)==(a0:Int))=some (fF (fF (aQ f) (jy f 1 (-1) false) h) (dN f 1 (-1) true) g):=by simp[jm,sV,qu,mZ,dN,jy]
     rw[N];simp only[go_sem,u,gM,ae,uz,fp (BH _) (E _ _ _ _ _ _ _ _ _),fp (BI _) (E _ _ _ _ _ _ _ _ _),xj,xm,A,eX,jz];refine⟨aA,aA,?_⟩;refine Cd (f:=184) (j:=di (dN f 1 (-1) false)) (id:=9728704832) (m:=lg) (z:=7) (λo ab=>Hb o aP (GM _) ab) (.inr ⟨aP,_,rfl,by simp only[cD,Nat.reduceEqDiff,if_true,if_false];rfl⟩) λZ eM pY=>?_;have X:=pY 9728000000 U;have M:=pY 9728640704 U;simp only[go_sem,gM,ae]at X M;rcases eM with⟨e,_⟩|⟨_,gg,e,D⟩
     .simp at e
     cases e;rw[show(di (dN f 1 (-1) false)).reverse=di (jy f 1 (-1) false)from rfl]at D;simp only[aR.ps,eJ,lr]at D;simp only[go_sem,u,gM,ae,X,M,D,A,jz,jl];refine lU (lW (aQ f) (jy f 1 (-1) false) h J J aP) (by kernel_rfl:S.lone 9728960448=false) (.inr (fN (jw _))) λc1 bG v1 g1 B R=>?_
     obtain⟨r1,O,L⟩:=g1.fA;have v:=B 9728000000 U;have y:=B 9728640704 U;have Q:=B 9728704832 U;simp only[go_sem,gM,ae,X,M,D]at v y Q;simp only[go_sem,u,gM,ae,v,y,Q,O,A,jz];refine lU (lW (fF (aQ f) (jy f 1 (-1) false) h) (dN f 1 (-1) true) g (by rw[lf];omega) (by rw[lf];simp;omega) aP) (by kernel_rfl:S.lone 9728960704=false) (.inr (fN (jw _))) λc2 bh v2 T aW Y=>?_;simp only[go_sem];refine⟨?_,nA T⟩;rcases L with rfl|rfl<;>rcases R with rfl|rfl<;>rcases Y with rfl|rfl<;>kernel_rfl
    have A:¬((g:Int)<(h:Int)):=J;have N:jm f g h true true true ((b1:Int)==(a0:Int))=some (fF (fF (aQ f) (dN f 1 (-1) true) g) (jy f 1 (-1) false) h):=by simp[jm,sV,qu,mZ,dN,jy]
    rw[N];simp only[go_sem,u,gM,ae,uz,fp (BH _) (E _ _ _ _ _ _ _ _ _),fp (BI _) (E _ _ _ _ _ _ _ _ _),xj,xm,A,eX,jz];refine⟨aA,aA,?_⟩;refine Cd (f:=184) (j:=di (dN f 1 (-1) false)) (id:=9728704832) (m:=lg) (z:=7) (λo ab=>Hb o aP (GM _) ab) (.inr ⟨aP,_,rfl,by simp only[cD,Nat.reduceEqDiff,if_true,if_false];rfl⟩) λZ eM pY=>?_;have X:=pY 9728000000 U;have M:=pY 9728640704 U;simp only[go_sem,gM,ae]at X M;rcases eM with⟨e,_⟩|⟨_,gg,e,D⟩
    .simp at e
    cases e;rw[show(di (dN f 1 (-1) false)).reverse=di (jy f 1 (-1) false)from rfl]at D;simp only[aR.ps,eJ,lr]at D;simp only[go_sem,u,gM,ae,X,M,D,A,jz,jl];refine lU (lW (aQ f) (dN f 1 (-1) true) g J J aP) (by kernel_rfl:S.lone 9729024448=false) (.inr (fN (jw _))) λc1 bG v1 g1 B R=>?_
    obtain⟨r1,O,L⟩:=g1.fA;have v:=B 9728000000 U;have y:=B 9728640704 U;have Q:=B 9728704832 U;simp only[go_sem,gM,ae,X,M,D]at v y Q;simp only[go_sem,u,gM,ae,v,y,Q,O,A,jz];refine lU (lW (fF (aQ f) (dN f 1 (-1) true) g) (jy f 1 (-1) false) h (by rw[lf];omega) (by rw[lf];simp;omega) aP) (by kernel_rfl:S.lone 9729024704=false) (.inr (fN (jw _))) λc2 bh v2 T aW Y=>?_;simp only[go_sem];refine⟨?_,nA T⟩;rcases L with rfl|rfl<;>rcases R with rfl|rfl<;>rcases Y with rfl|rfl<;>kernel_rfl
   |false=>
    cases ho:((b1:Int)==(a0:Int))with
    |false=>
     have H:((b1:Int)!=(a0:Int)):=by simp only[bne,ho];rfl
     simp only[go_sem,u,gM,ae,H];first|rfl|exact aA|exact⟨aA,rfl⟩|exact⟨aA,aA,rfl⟩
    |true=>
     have H:((b1:Int)!=(a0:Int))=false:=by simp only[bne,ho];rfl
     simp only[go_sem,u,gM,ae,H];refine⟨aA,?_⟩;by_cases mZ:g<h
     .have A:((g:Int)<(h:Int)):=J;have N:jm f g h true true false true=some (fF (fF (aQ f) (dN f (-1) 1 false) h) (dN f (-1) 1 true) g):=by simp[jm,sV,qu,mZ,dN,jy]
      rw[N];simp only[go_sem,u,gM,ae,H,uz,fp (GC _) (E _ _ _ _ _ _ _ _ _),fp (GD _) (E _ _ _ _ _ _ _ _ _),xj,xm,A,eX,jz];refine⟨aA,aA,?_⟩;refine lU (lW (aQ f) (dN f (-1) 1 false) h J J aP) (by kernel_rfl:S.lone 9728960448=false) (.inr (fN (jw _))) λc1 bG v1 g1 B R=>?_;obtain⟨r1,O,L⟩:=g1.fA;have v:=B 9728000000 U;have y:=B 9728640704 U;have Q:=B 9728704832 U;simp only[go_sem,gM,ae,H]at v y Q;simp only[go_sem,u,gM,ae,H,v,y,Q,O,A,jz];refine lU (lW (fF (aQ f) (dN f (-1) 1 false) h) (dN f (-1) 1 true) g (by rw[lf];omega) (by rw[lf];simp;omega) aP) (by kernel_rfl:S.lone 9728960704=false) (.inr (fN (jw _))) λc2 bh v2 T aW Y=>?_
      simp only[go_sem];refine⟨?_,nA T⟩;rcases L with rfl|rfl<;>rcases R with rfl|rfl<;>rcases Y with rfl|rfl<;>kernel_rfl
     have A:¬((g:Int)<(h:Int)):=J;have N:jm f g h true true false true=some (fF (fF (aQ f) (dN f (-1) 1 true) g) (dN f (-1) 1 false) h):=by simp[jm,sV,qu,mZ,dN,jy]
     rw[N];simp only[go_sem,u,gM,ae,H,uz,fp (GC _) (E _ _ _ _ _ _ _ _ _),fp (GD _) (E _ _ _ _ _ _ _ _ _),xj,xm,A,eX,jz];refine⟨aA,aA,?_⟩;refine lU (lW (aQ f) (dN f (-1) 1 true) g J J aP) (by kernel_rfl:S.lone 9729024448=false) (.inr (fN (jw _))) λc1 bG v1 g1 B R=>?_;obtain⟨r1,O,L⟩:=g1.fA;have v:=B 9728000000 U;have y:=B 9728640704 U;have Q:=B 9728704832 U;simp only[go_sem,gM,ae,H]at v y Q;simp only[go_sem,u,gM,ae,H,v,y,Q,O,A,jz];refine lU (lW (fF (aQ f) (dN f (-1) 1 true) g) (dN f (-1) 1 false) h (by rw[lf];omega) (by rw[lf];simp;omega) aP) (by kernel_rfl:S.lone 9729024704=false) (.inr (fN (jw _))) λc2 bh v2 T aW Y=>?_
     simp only[go_sem];refine⟨?_,nA T⟩;rcases L with rfl|rfl<;>rcases R with rfl|rfl<;>rcases Y with rfl|rfl<;>kernel_rfl
  |false=>
   simp only[go_sem,NS,u];refine⟨aA,aA,?_⟩;refine tR [0,3,4,5,6,7,8,9,40] λe2 fH=>?_;simp only[go_sem]at fH;cases ae:((b0:Int)==(a0:Int))with
   |true=>
    simp only[go_sem,u,fH,ae];refine⟨aA,?_⟩;by_cases mZ:g<h
    .have A:((g:Int)<(h:Int)):=J;have N:jm f g h true false true ((b1:Int)==(a0:Int))=some (fF (fF (aQ f) (jy f (-1) 1 true) h) (dN f (-1) 1 false) g):=by simp[jm,sV,qu,mZ,dN,jy]
     rw[N];simp only[go_sem,u,fH,ae,uz,fp (GC _) (E _ _ _ _ _ _ _ _ _),fp (GD _) (E _ _ _ _ _ _ _ _ _),xj,xm,A,eX,jz];refine⟨aA,aA,?_⟩;refine Cd (f:=184) (j:=di (dN f (-1) 1 true)) (id:=9728704832) (m:=lg) (z:=7) (λo ab=>Hb o aP (GM _) ab) (.inr ⟨aP,_,rfl,by simp only[cD,Nat.reduceEqDiff,if_true,if_false];rfl⟩) λZ eM pY=>?_;have X:=pY 9728000000 U;have M:=pY 9728640704 U;simp only[go_sem,fH,ae]at X M;rcases eM with⟨e,_⟩|⟨_,gg,e,D⟩
     .simp at e
     cases e;rw[show(di (dN f (-1) 1 true)).reverse=di (jy f (-1) 1 true)from rfl]at D;simp only[aR.ps,eJ,lr]at D;simp only[go_sem,u,fH,ae,X,M,D,A,jz,jl];refine lU (lW (aQ f) (jy f (-1) 1 true) h J J aP) (by kernel_rfl:S.lone 9728960448=false) (.inr (fN (jw _))) λc1 bG v1 g1 B R=>?_
     obtain⟨r1,O,L⟩:=g1.fA;have v:=B 9728000000 U;have y:=B 9728640704 U;have Q:=B 9728704832 U;simp only[go_sem,fH,ae,X,M,D]at v y Q;simp only[go_sem,u,fH,ae,v,y,Q,O,A,jz];refine lU (lW (fF (aQ f) (jy f (-1) 1 true) h) (dN f (-1) 1 false) g (by rw[lf];omega) (by rw[lf];simp;omega) aP) (by kernel_rfl:S.lone 9728960704=false) (.inr (fN (jw _))) λc2 bh v2 T aW Y=>?_;simp only[go_sem];refine⟨?_,nA T⟩;rcases L with rfl|rfl<;>rcases R with rfl|rfl<;>rcases Y with rfl|rfl<;>kernel_rfl
    have A:¬((g:Int)<(h:Int)):=J;have N:jm f g h true false true ((b1:Int)==(a0:Int))=some (fF (fF (aQ f) (dN f (-1) 1 false) g) (jy f (-1) 1 true) h):=by simp[jm,sV,qu,mZ,dN,jy]
    rw[N];simp only[go_sem,u,fH,ae,uz,fp (GC _) (E _ _ _ _ _ _ _ _ _),fp (GD _) (E _ _ _ _ _ _ _ _ _),xj,xm,A,eX,jz];refine⟨aA,aA,?_⟩;refine Cd (f:=184) (j:=di (dN f (-1) 1 true)) (id:=9728704832) (m:=lg) (z:=7) (λo ab=>Hb o aP (GM _) ab) (.inr ⟨aP,_,rfl,by simp only[cD,Nat.reduceEqDiff,if_true,if_false];rfl⟩) λZ eM pY=>?_;have X:=pY 9728000000 U;have M:=pY 9728640704 U;simp only[go_sem,fH,ae]at X M;rcases eM with⟨e,_⟩|⟨_,gg,e,D⟩
    .simp at e
    cases e;rw[show(di (dN f (-1) 1 true)).reverse=di (jy f (-1) 1 true)from rfl]at D;simp only[aR.ps,eJ,lr]at D;simp only[go_sem,u,fH,ae,X,M,D,A,jz,jl];refine lU (lW (aQ f) (dN f (-1) 1 false) g J J aP) (by kernel_rfl:S.lone 9729024448=false) (.inr (fN (jw _))) λc1 bG v1 g1 B R=>?_
    obtain⟨r1,O,L⟩:=g1.fA;have v:=B 9728000000 U;have y:=B 9728640704 U;have Q:=B 9728704832 U;simp only[go_sem,fH,ae,X,M,D]at v y Q;simp only[go_sem,u,fH,ae,v,y,Q,O,A,jz];refine lU (lW (fF (aQ f) (dN f (-1) 1 false) g) (jy f (-1) 1 true) h (by rw[lf];omega) (by rw[lf];simp;omega) aP) (by kernel_rfl:S.lone 9729024704=false) (.inr (fN (jw _))) λc2 bh v2 T aW Y=>?_;simp only[go_sem];refine⟨?_,nA T⟩;rcases L with rfl|rfl<;>rcases R with rfl|rfl<;>rcases Y with rfl|rfl<;>kernel_rfl
   |false=>
    cases ho:((b1:Int)==(a0:Int))with
    |false=>
     have H:((b1:Int)!=(a0:Int)):=by simp only[bne,ho];rfl
     simp only[go_sem,u,fH,ae,H];first|rfl|exact aA|exact⟨aA,rfl⟩|exact⟨aA,aA,rfl⟩
    |true=>
     have H:((b1:Int)!=(a0:Int))=false:=by simp only[bne,ho];rfl
     simp only[go_sem,u,fH,ae,H];refine⟨aA,?_⟩;by_cases mZ:g<h
     .have A:((g:Int)<(h:Int)):=J;have N:jm f g h true false false true=some (fF (fF (aQ f) (dN f 1 (-1) true) h) (dN f 1 (-1) false) g):=by simp[jm,sV,qu,mZ,dN,jy]
      rw[N];simp only[go_sem,u,fH,ae,H,uz,fp (BH _) (E _ _ _ _ _ _ _ _ _),fp (BI _) (E _ _ _ _ _ _ _ _ _),xj,xm,A,eX,jz];refine⟨aA,aA,?_⟩;refine lU (lW (aQ f) (dN f 1 (-1) true) h J J aP) (by kernel_rfl:S.lone 9728960448=false) (.inr (fN (jw _))) λc1 bG v1 g1 B R=>?_;obtain⟨r1,O,L⟩:=g1.fA;have v:=B 9728000000 U;have y:=B 9728640704 U;have Q:=B 9728704832 U;simp only[go_sem,fH,ae,H]at v y Q;simp only[go_sem,u,fH,ae,H,v,y,Q,O,A,jz];refine lU (lW (fF (aQ f) (dN f 1 (-1) true) h) (dN f 1 (-1) false) g (by rw[lf];omega) (by rw[lf];simp;omega) aP) (by kernel_rfl:S.lone 9728960704=false) (.inr (fN (jw _))) λc2 bh v2 T aW Y=>?_
      simp only[go_sem];refine⟨?_,nA T⟩;rcases L with rfl|rfl<;>rcases R with rfl|rfl<;>rcases Y with rfl|rfl<;>kernel_rfl
     have A:¬((g:Int)<(h:Int)):=J;have N:jm f g h true false false true=some (fF (fF (aQ f) (dN f 1 (-1) false) g) (dN f 1 (-1) true) h):=by simp[jm,sV,qu,mZ,dN,jy]
     rw[N];simp only[go_sem,u,fH,ae,H,uz,fp (BH _) (E _ _ _ _ _ _ _ _ _),fp (BI _) (E _ _ _ _ _ _ _ _ _),xj,xm,A,eX,jz];refine⟨aA,aA,?_⟩;refine lU (lW (aQ f) (dN f 1 (-1) false) g J J aP) (by kernel_rfl:S.lone 9729024448=false) (.inr (fN (jw _))) λc1 bG v1 g1 B R=>?_;obtain⟨r1,O,L⟩:=g1.fA;have v:=B 9728000000 U;have y:=B 9728640704 U;have Q:=B 9728704832 U;simp only[go_sem,fH,ae,H]at v y Q;simp only[go_sem,u,fH,ae,H,v,y,Q,O,A,jz];refine lU (lW (fF (aQ f) (dN f 1 (-1) false) g) (dN f 1 (-1) true) h (by rw[lf];omega) (by rw[lf];simp;omega) aP) (by kernel_rfl:S.lone 9729024704=false) (.inr (fN (jw _))) λc2 bh v2 T aW Y=>?_
     simp only[go_sem];refine⟨?_,nA T⟩;rcases L with rfl|rfl<;>rcases R with rfl|rfl<;>rcases Y with rfl|rfl<;>kernel_rfl
 |false=>
  rw[aC U];cases o with
  |true=>
   simp only[go_sem,NS,u];refine⟨aA,aA,?_⟩;refine tR [0,3,4,5,6,7,8,9,40] λe3 fP=>?_;simp only[go_sem]at fP;cases ae:((b1:Int)==(a1:Int))with
   |true=>
    simp only[go_sem,u,fP,ae];refine⟨aA,?_⟩;by_cases mZ:g<h
    .have A:((g:Int)<(h:Int)):=J;have N:jm f g h false true true ((b0:Int)==(a1:Int))=some (fF (fF (aQ f) (jy f (-1) 1 false) h) (dN f (-1) 1 true) g):=by simp[jm,sV,qu,mZ,dN,jy]
     rw[N];simp only[go_sem,u,fP,ae,uz,fp (GC _) (E _ _ _ _ _ _ _ _ _),fp (GD _) (E _ _ _ _ _ _ _ _ _),xj,xm,A,eX,jz];refine⟨aA,aA,?_⟩;refine Cd (f:=184) (j:=di (dN f (-1) 1 false)) (id:=9728704832) (m:=lg) (z:=7) (λo ab=>Hb o aP (GM _) ab) (.inr ⟨aP,_,rfl,by simp only[cD,Nat.reduceEqDiff,if_true,if_false];rfl⟩) λZ eM pY=>?_;have X:=pY 9728000000 U;have M:=pY 9728640704 U;simp only[go_sem,fP,ae]at X M;rcases eM with⟨e,_⟩|⟨_,gg,e,D⟩
     .simp at e
     cases e;rw[show(di (dN f (-1) 1 false)).reverse=di (jy f (-1) 1 false)from rfl]at D;simp only[aR.ps,eJ,lr]at D;simp only[go_sem,u,fP,ae,X,M,D,A,jz,jl];refine lU (lW (aQ f) (jy f (-1) 1 false) h J J aP) (by kernel_rfl:S.lone 9728960448=false) (.inr (fN (jw _))) λc1 bG v1 g1 B R=>?_
     obtain⟨r1,O,L⟩:=g1.fA;have v:=B 9728000000 U;have y:=B 9728640704 U;have Q:=B 9728704832 U;simp only[go_sem,fP,ae,X,M,D]at v y Q;simp only[go_sem,u,fP,ae,v,y,Q,O,A,jz];refine lU (lW (fF (aQ f) (jy f (-1) 1 false) h) (dN f (-1) 1 true) g (by rw[lf];omega) (by rw[lf];simp;omega) aP) (by kernel_rfl:S.lone 9728960704=false) (.inr (fN (jw _))) λc2 bh v2 T aW Y=>?_;simp only[go_sem];refine⟨?_,nA T⟩;rcases L with rfl|rfl<;>rcases R with rfl|rfl<;>rcases Y with rfl|rfl<;>kernel_rfl
    have A:¬((g:Int)<(h:Int)):=J;have N:jm f g h false true true ((b0:Int)==(a1:Int))=some (fF (fF (aQ f) (dN f (-1) 1 true) g) (jy f (-1) 1 false) h):=by simp[jm,sV,qu,mZ,dN,jy]
    rw[N];simp only[go_sem,u,fP,ae,uz,fp (GC _) (E _ _ _ _ _ _ _ _ _),fp (GD _) (E _ _ _ _ _ _ _ _ _),xj,xm,A,eX,jz];refine⟨aA,aA,?_⟩;refine Cd (f:=184) (j:=di (dN f (-1) 1 false)) (id:=9728704832) (m:=lg) (z:=7) (λo ab=>Hb o aP (GM _) ab) (.inr ⟨aP,_,rfl,by simp only[cD,Nat.reduceEqDiff,if_true,if_false];rfl⟩) λZ eM pY=>?_;have X:=pY 9728000000 U;have M:=pY 9728640704 U;simp only[go_sem,fP,ae]at X M;rcases eM with⟨e,_⟩|⟨_,gg,e,D⟩
    .simp at e
    cases e;rw[show(di (dN f (-1) 1 false)).reverse=di (jy f (-1) 1 false)from rfl]at D;simp only[aR.ps,eJ,lr]at D;simp only[go_sem,u,fP,ae,X,M,D,A,jz,jl];refine lU (lW (aQ f) (dN f (-1) 1 true) g J J aP) (by kernel_rfl:S.lone 9729024448=false) (.inr (fN (jw _))) λc1 bG v1 g1 B R=>?_
    obtain⟨r1,O,L⟩:=g1.fA;have v:=B 9728000000 U;have y:=B 9728640704 U;have Q:=B 9728704832 U;simp only[go_sem,fP,ae,X,M,D]at v y Q;simp only[go_sem,u,fP,ae,v,y,Q,O,A,jz];refine lU (lW (fF (aQ f) (dN f (-1) 1 true) g) (jy f (-1) 1 false) h (by rw[lf];omega) (by rw[lf];simp;omega) aP) (by kernel_rfl:S.lone 9729024704=false) (.inr (fN (jw _))) λc2 bh v2 T aW Y=>?_;simp only[go_sem];refine⟨?_,nA T⟩;rcases L with rfl|rfl<;>rcases R with rfl|rfl<;>rcases Y with rfl|rfl<;>kernel_rfl
   |false=>
    cases ho:((b0:Int)==(a1:Int))with
    |false=>
     have H:((b0:Int)!=(a1:Int)):=by simp only[bne,ho];rfl
     simp only[go_sem,u,fP,ae,H];first|rfl|exact aA|exact⟨aA,rfl⟩|exact⟨aA,aA,rfl⟩
    |true=>
     have H:((b0:Int)!=(a1:Int))=false:=by simp only[bne,ho];rfl
     simp only[go_sem,u,fP,ae,H];refine⟨aA,?_⟩;by_cases mZ:g<h
     .have A:((g:Int)<(h:Int)):=J;have N:jm f g h false true false true=some (fF (fF (aQ f) (dN f 1 (-1) false) h) (dN f 1 (-1) true) g):=by simp[jm,sV,qu,mZ,dN,jy]
      rw[N];simp only[go_sem,u,fP,ae,H,uz,fp (BH _) (E _ _ _ _ _ _ _ _ _),fp (BI _) (E _ _ _ _ _ _ _ _ _),xj,xm,A,eX,jz];refine⟨aA,aA,?_⟩;refine lU (lW (aQ f) (dN f 1 (-1) false) h J J aP) (by kernel_rfl:S.lone 9728960448=false) (.inr (fN (jw _))) λc1 bG v1 g1 B R=>?_;obtain⟨r1,O,L⟩:=g1.fA;have v:=B 9728000000 U;have y:=B 9728640704 U;have Q:=B 9728704832 U;simp only[go_sem,fP,ae,H]at v y Q;simp only[go_sem,u,fP,ae,H,v,y,Q,O,A,jz];refine lU (lW (fF (aQ f) (dN f 1 (-1) false) h) (dN f 1 (-1) true) g (by rw[lf];omega) (by rw[lf];simp;omega) aP) (by kernel_rfl:S.lone 9728960704=false) (.inr (fN (jw _))) λc2 bh v2 T aW Y=>?_
      simp only[go_sem];refine⟨?_,nA T⟩;rcases L with rfl|rfl<;>rcases R with rfl|rfl<;>rcases Y with rfl|rfl<;>kernel_rfl
     have A:¬((g:Int)<(h:Int)):=J;have N:jm f g h false true false true=some (fF (fF (aQ f) (dN f 1 (-1) true) g) (dN f 1 (-1) false) h):=by simp[jm,sV,qu,mZ,dN,jy]
     rw[N];simp only[go_sem,u,fP,ae,H,uz,fp (BH _) (E _ _ _ _ _ _ _ _ _),fp (BI _) (E _ _ _ _ _ _ _ _ _),xj,xm,A,eX,jz];refine⟨aA,aA,?_⟩;refine lU (lW (aQ f) (dN f 1 (-1) true) g J J aP) (by kernel_rfl:S.lone 9729024448=false) (.inr (fN (jw _))) λc1 bG v1 g1 B R=>?_;obtain⟨r1,O,L⟩:=g1.fA;have v:=B 9728000000 U;have y:=B 9728640704 U;have Q:=B 9728704832 U;simp only[go_sem,fP,ae,H]at v y Q;simp only[go_sem,u,fP,ae,H,v,y,Q,O,A,jz];refine lU (lW (fF (aQ f) (dN f 1 (-1) true) g) (dN f 1 (-1) false) h (by rw[lf];omega) (by rw[lf];simp;omega) aP) (by kernel_rfl:S.lone 9729024704=false) (.inr (fN (jw _))) λc2 bh v2 T aW Y=>?_
     simp only[go_sem];refine⟨?_,nA T⟩;rcases L with rfl|rfl<;>rcases R with rfl|rfl<;>rcases Y with rfl|rfl<;>kernel_rfl
  |false=>
   simp only[go_sem,NS,u];refine⟨aA,aA,?_⟩;refine tR [0,3,4,5,6,7,8,9,40] λe4 iM=>?_;simp only[go_sem]at iM;cases ae:((b1:Int)==(a1:Int))with
   |true=>
    simp only[go_sem,u,iM,ae];refine⟨aA,?_⟩;by_cases mZ:g<h
    .have A:((g:Int)<(h:Int)):=J;have N:jm f g h false false true ((b0:Int)==(a1:Int))=some (fF (fF (aQ f) (jy f 1 (-1) true) h) (dN f 1 (-1) false) g):=by simp[jm,sV,qu,mZ,dN,jy]
     rw[N];simp only[go_sem,u,iM,ae,uz,fp (BH _) (E _ _ _ _ _ _ _ _ _),fp (BI _) (E _ _ _ _ _ _ _ _ _),xj,xm,A,eX,jz];refine⟨aA,aA,?_⟩;refine Cd (f:=184) (j:=di (dN f 1 (-1) true)) (id:=9728704832) (m:=lg) (z:=7) (λo ab=>Hb o aP (GM _) ab) (.inr ⟨aP,_,rfl,by simp only[cD,Nat.reduceEqDiff,if_true,if_false];rfl⟩) λZ eM pY=>?_;have X:=pY 9728000000 U;have M:=pY 9728640704 U;simp only[go_sem,iM,ae]at X M;rcases eM with⟨e,_⟩|⟨_,gg,e,D⟩
     .simp at e
     cases e;rw[show(di (dN f 1 (-1) true)).reverse=di (jy f 1 (-1) true)from rfl]at D;simp only[aR.ps,eJ,lr]at D;simp only[go_sem,u,iM,ae,X,M,D,A,jz,jl];refine lU (lW (aQ f) (jy f 1 (-1) true) h J J aP) (by kernel_rfl:S.lone 9728960448=false) (.inr (fN (jw _))) λc1 bG v1 g1 B R=>?_
     obtain⟨r1,O,L⟩:=g1.fA;have v:=B 9728000000 U;have y:=B 9728640704 U;have Q:=B 9728704832 U;simp only[go_sem,iM,ae,X,M,D]at v y Q;simp only[go_sem,u,iM,ae,v,y,Q,O,A,jz];refine lU (lW (fF (aQ f) (jy f 1 (-1) true) h) (dN f 1 (-1) false) g (by rw[lf];omega) (by rw[lf];simp;omega) aP) (by kernel_rfl:S.lone 9728960704=false) (.inr (fN (jw _))) λc2 bh v2 T aW Y=>?_;simp only[go_sem];refine⟨?_,nA T⟩;rcases L with rfl|rfl<;>rcases R with rfl|rfl<;>rcases Y with rfl|rfl<;>kernel_rfl
    have A:¬((g:Int)<(h:Int)):=J;have N:jm f g h false false true ((b0:Int)==(a1:Int))=some (fF (fF (aQ f) (dN f 1 (-1) false) g) (jy f 1 (-1) true) h):=by simp[jm,sV,qu,mZ,dN,jy]
    rw[N];simp only[go_sem,u,iM,ae,uz,fp (BH _) (E _ _ _ _ _ _ _ _ _),fp (BI _) (E _ _ _ _ _ _ _ _ _),xj,xm,A,eX,jz];refine⟨aA,aA,?_⟩;refine Cd (f:=184) (j:=di (dN f 1 (-1) true)) (id:=9728704832) (m:=lg) (z:=7) (λo ab=>Hb o aP (GM _) ab) (.inr ⟨aP,_,rfl,by simp only[cD,Nat.reduceEqDiff,if_true,if_false];rfl⟩) λZ eM pY=>?_;have X:=pY 9728000000 U;have M:=pY 9728640704 U;simp only[go_sem,iM,ae]at X M;rcases eM with⟨e,_⟩|⟨_,gg,e,D⟩
    .simp at e
    cases e;rw[show(di (dN f 1 (-1) true)).reverse=di (jy f 1 (-1) true)from rfl]at D;simp only[aR.ps,eJ,lr]at D;simp only[go_sem,u,iM,ae,X,M,D,A,jz,jl];refine lU (lW (aQ f) (dN f 1 (-1) false) g J J aP) (by kernel_rfl:S.lone 9729024448=false) (.inr (fN (jw _))) λc1 bG v1 g1 B R=>?_
    obtain⟨r1,O,L⟩:=g1.fA;have v:=B 9728000000 U;have y:=B 9728640704 U;have Q:=B 9728704832 U;simp only[go_sem,iM,ae,X,M,D]at v y Q;simp only[go_sem,u,iM,ae,v,y,Q,O,A,jz];refine lU (lW (fF (aQ f) (dN f 1 (-1) false) g) (jy f 1 (-1) true) h (by rw[lf];omega) (by rw[lf];simp;omega) aP) (by kernel_rfl:S.lone 9729024704=false) (.inr (fN (jw _))) λc2 bh v2 T aW Y=>?_;simp only[go_sem];refine⟨?_,nA T⟩;rcases L with rfl|rfl<;>rcases R with rfl|rfl<;>rcases Y with rfl|rfl<;>kernel_rfl
   |false=>
    cases ho:((b0:Int)==(a1:Int))with
    |false=>
     have H:((b0:Int)!=(a1:Int)):=by simp only[bne,ho];rfl
     simp only[go_sem,u,iM,ae,H];first|rfl|exact aA|exact⟨aA,rfl⟩|exact⟨aA,aA,rfl⟩
    |true=>
     have H:((b0:Int)!=(a1:Int))=false:=by simp only[bne,ho];rfl
     simp only[go_sem,u,iM,ae,H];refine⟨aA,?_⟩;by_cases mZ:g<h
     .have A:((g:Int)<(h:Int)):=J;have N:jm f g h false false false true=some (fF (fF (aQ f) (dN f (-1) 1 true) h) (dN f (-1) 1 false) g):=by simp[jm,sV,qu,mZ,dN,jy]
      rw[N];simp only[go_sem,u,iM,ae,H,uz,fp (GC _) (E _ _ _ _ _ _ _ _ _),fp (GD _) (E _ _ _ _ _ _ _ _ _),xj,xm,A,eX,jz];refine⟨aA,aA,?_⟩;refine lU (lW (aQ f) (dN f (-1) 1 true) h J J aP) (by kernel_rfl:S.lone 9728960448=false) (.inr (fN (jw _))) λc1 bG v1 g1 B R=>?_;obtain⟨r1,O,L⟩:=g1.fA;have v:=B 9728000000 U;have y:=B 9728640704 U;have Q:=B 9728704832 U;simp only[go_sem,iM,ae,H]at v y Q;simp only[go_sem,u,iM,ae,H,v,y,Q,O,A,jz];refine lU (lW (fF (aQ f) (dN f (-1) 1 true) h) (dN f (-1) 1 false) g (by rw[lf];omega) (by rw[lf];simp;omega) aP) (by kernel_rfl:S.lone 9728960704=false) (.inr (fN (jw _))) λc2 bh v2 T aW Y=>?_
      simp only[go_sem];refine⟨?_,nA T⟩;rcases L with rfl|rfl<;>rcases R with rfl|rfl<;>rcases Y with rfl|rfl<;>kernel_rfl
     have A:¬((g:Int)<(h:Int)):=J;have N:jm f g h false false false true=some (fF (fF (aQ f) (dN f (-1) 1 false) g) (dN f (-1) 1 true) h):=by simp[jm,sV,qu,mZ,dN,jy]
     rw[N];simp only[go_sem,u,iM,ae,H,uz,fp (GC _) (E _ _ _ _ _ _ _ _ _),fp (GD _) (E _ _ _ _ _ _ _ _ _),xj,xm,A,eX,jz];refine⟨aA,aA,?_⟩;refine lU (lW (aQ f) (dN f (-1) 1 false) g J J aP) (by kernel_rfl:S.lone 9729024448=false) (.inr (fN (jw _))) λc1 bG v1 g1 B R=>?_;obtain⟨r1,O,L⟩:=g1.fA;have v:=B 9728000000 U;have y:=B 9728640704 U;have Q:=B 9728704832 U;simp only[go_sem,iM,ae,H]at v y Q;simp only[go_sem,u,iM,ae,H,v,y,Q,O,A,jz];refine lU (lW (fF (aQ f) (dN f (-1) 1 false) g) (dN f (-1) 1 true) h (by rw[lf];omega) (by rw[lf];simp;omega) aP) (by kernel_rfl:S.lone 9729024704=false) (.inr (fN (jw _))) λc2 bh v2 T aW Y=>?_
     simp only[go_sem];refine⟨?_,nA T⟩;rcases L with rfl|rfl<;>rcases R with rfl|rfl<;>rcases Y with rfl|rfl<;>kernel_rfl
end
abbrev H6(F:Nat):V:=.agg [.p (.int .i64 F),.p (.sl [])]
def NW:¬(((0:Int))<((0:Nat):Int)):=U
def agk:IntKind.i64.wrap (2*((0:Nat):Int))=((0:Nat):Int):=U
def aeW:(0:Nat)<=140737488355328:=U
def avw:(0:Nat)*8<=140737488355328:=U
section
variable {F:Nat}
def aqP(h:F<=40):de (F:Int) []=0:=by unfold de;rw[aC (by simp[an]),aC J,aD rfl]
def asT(h:F<=40):aK S 51 [H6 F] (uD (wv F) (.int .i64 0)):=by have pr:=MG F [] (cG _);rw[Kp (aqP h),aD rfl]at pr;exact pr
def ao8:aK S 143 [.one (.p (wv F))] (.one (.own 4 1 [])):=by refine bj amd ?_;simp only[go_sem,Xr,af,ao];refine sZ ?_;simp only[go_sem,QK,Wg,NW,af,ao];rfl
def axW(H:F<=40):aK S 116 [H6 F] (.tup [.one (cF sq 5 []),.one (.p (.int .i64 0))]):=by
 have pr:=asT H;have h:∀aj:aN,fg aj [] 7424384064 ((RV.one (.own 4 1 [])).fR (S.lone 7424384064))=some (.one (.hsl 7424384064 ((aj 7424384064).1+1) 1 0 0),[(7424384064,((aj 7424384064).1+1,some (.arr 4 1 [])))]):=by intro aj;rw[show S.lone 7424384064=false by kernel_rfl];rfl
 refine bj adr ?_;simp only[go_sem,UO,Ft,aU pr cM,ag6,aU ao8 (h _),agk,aeW];refine sZ ?_;simp only[go_sem,P2,aaK,NW];rfl
def agb(u:F<=40):aK S 91 [H6 F] (uD (kh F []) (.int .i64 0)):=by
 have j:=axW u;have g:aK S 117 [H6 F] (ja ((0:Nat):Int)):=acs F [] (cG _);have f:aK S 118 [H6 F] (ja ((0:Nat):Int)):=ahr F [] (cG _);have lo:S.lone 5824064064=false:=ah;have v:=cN (n:=F) J;have R:(F+1)*8<=140737488355328:=J;have E:List.replicate (F+1) [PV.int .i64 0]=a_ (gy [] F):=by rw[<-abp,fU,WA];simp
 refine bj abq ?_;simp only[go_sem,SD,V7];refine adL j lo λx L y m=>?_;have O:=m 5824000000 U;simp only[go_sem]at O;obtain⟨_,H⟩|⟨h,_⟩:=y
 .cases H;simp only[go_sem,O,v,R,agk,aeW,avw,ac7,alu,dp g,dp f,E];refine⟨aA,?_⟩;refine sZ ?_;simp only[go_sem,MS,Up,NW];refine sZ ?_;simp only[go_sem,Vb,Tt,NW];have T:List.take (F+1) (a_ (gy [] F))=a_ (gy [] F):=fx (by simp[gy]);have N:F+1<=I (gy [] F):=by simp[gy]
  simp only[go_sem,iR,n_,vE,lX,kS,ij,T,N];rfl
 exact absurd rfl h
end
section
variable {F:Nat}
def asL:IntKind.i64.wrap (1:Int)=1:=U
def aBQ:IntKind.i64.wrap (2:Int)=2:=U
abbrev V4(F:Nat):V:=.one (.p (.box [.int .i64 F,.sl [],.sl [],.sl [],.int .i64 ((0:Nat):Int),.int .i64 ((0:Nat):Int),.sl (a_ (gy [] F))]))
def aDy{b:Nat}(v:b<=F):aK S 119 [V4 F,ep 2 0 b 0 false false 0] (cO true):=by
 have L:aK S 145 [aH 0,.one (.p (.box [.int .i64 ((0:Nat):Int)]))] (cO false):=af8 0 0;have j:=jG (I7 (L:=[]) v);have m:(0:Int)<=(b:Int):=J;have H:(b:Int)<=(F:Int):=J;have g:(0:Int)<=(bU [] b:Int):=J;have u:b<F+1:=J;have h:I (gy [] F)=F+1:=by simp[gy]
 have n:(((0:Nat):Int)==0):=U;refine bj Fy ?_;simp only[go_sem,DM,dO,dq L,au L,j,m,H,g,u,h,n,af,ao];exact aA
abbrev ME(b:Nat):cX:=[⟨⟨1,b,1,0,0,false⟩,true⟩,⟨⟨1,b,2,0,0,false⟩,false⟩]
def ayV{b:Nat}{l o:Bool}{sg:Int}:aK S 147 [V4 F,ep 2 0 b 0 l o sg] (uN (some (ME b))):=by have h:(((0:Nat):Int)==0):=U;refine bj akv ?_;simp only[go_sem,ads,h,asL,aBQ,af,ao];rfl
end
def apV(A:I f<=400)(fi:an aa.aB f<=200){a b c:Int}{l o:Bool}{sg:Int}{R:Option cX}(Q:aK S 119 [.one (.p (kh F f)),ep 2 a b c l o sg] (cO true))(E:aK S 147 [.one (.p (kh F f)),ep 2 a b c l o sg] (uN R))(M:∀L,R=some L->I L<=1000000):
  aK S 92 [.one (.p (kh F f)),ep 2 a b c l o sg] (tW F f 2 R):=by
 have Z:=am7 F;have x:=ai5 2;have T:S.lone 5888192384=false:=ah;have jE:S.lone 5888576128=false:=ah;have N:∀(aj:aN),fg aj [] 5888192000 ((RV.agg [.p .yZ,.p (.fn 146 [] []),.p (.fn 147 [] []),.p (.fn 148 [] []),.p (.fn 149 [] []),.p (.fn 150 [] []),.p (.fn 151 [] []),.p (.fn 152 [] []),.p (.fn 153 [] []),.p (.fn 154 [] []),.p (.fn 154 [] [])]).fR (S.lone 5888192000))=some (.agg [.p .yZ,.p (.fn 146 [] []),.p (.fn 147 [] []),.p (.fn 148 [] []),.p (.fn 149 [] []),.p (.fn 150 [] []),.p (.fn 151 [] []),.p (.fn 152 [] []),.p (.fn 153 [] []),.p (.fn 154 [] []),.p (.fn 154 [] [])],[]):=λaj=>by cases S.lone 5888192000<;>rfl
 have bk:=cW f;have n:IntKind.i64.wrap ((I (aQ f):Int)+(iK 2).1)=(I f:Int)+(iK 2).1:=by rw[bk];exact kA (by simp only[iK];simp;omega) (by simp only[iK];simp;omega)
 have y:IntKind.i64.wrap (((an aa.aB f/2:Nat):Int)+(iK 2).2)=((an aa.aB f/2:Nat):Int)+(iK 2).2:=kA (by simp only[iK];simp;omega) (by simp only[iK];simp;omega);have u:∀aj:aN,fg aj [] 5888384128 ((RV.tup [.one (.p (.int .i64 (iK 2).1)),.one (.p (.int .i64 (iK 2).2))]).fR (S.lone 5888384128))=some (.tup [.one (.p (.int .i64 (iK 2).1)),.one (.p (.int .i64 (iK 2).2))],[]):=λaj=>cM;unfold uN at E;refine bj Z3 ?_;simp only[go_sem,Vl,abj,au Q,anb,fp akd (N _),aqy];refine aed E T λcc bG w D z m=>?_;have b0:=z 5888000000 U;have B:=z 5888000064 U;simp only[go_sem]at b0 B;cases R with
 |none=>simp only[go_sem,b0,B];refine⟨?_,rfl⟩;rcases m with rfl|rfl<;>kernel_rfl
 |some L=>
  simp only[kZ]at D;have g:=Z L (M L rfl) (.sl (di (aQ f))) (.sl (kz (dG F f))) (.sl (a_ (kO F f))) (.int .i64 (an aa.aI f:Nat)) (.int .i64 ((an aa.aB f/2:Nat):Int)) (.sl (a_ (gy f F)));obtain⟨rs,O,_⟩:=D.fA;by_cases H:(400:Int)<(I f:Int)+(iK 2).1
  .rw[show tW F f 2 (some L)=qi 7 from aD (.inl H)];simp only[go_sem,b0,B,Jr,aU x (u _),n,y,H];refine⟨?_,rfl⟩;rcases m with rfl|rfl<;>kernel_rfl
  by_cases j:(100:Int)<((an aa.aB f/2:Nat):Int)+(iK 2).2
  .rw[show tW F f 2 (some L)=qi 7 from aD (.inr j)];simp only[go_sem,b0,B,Jr,aU x (u _),n,y,H,j];refine⟨?_,rfl⟩;rcases m with rfl|rfl<;>kernel_rfl
  rw[show tW F f 2 (some L)=tV F (oF L)from aC (by rintro(h|h);exact H h;exact j h)];simp only[go_sem,b0,B,Jr,aU x (u _),n,y,H,j,O,amJ];refine⟨?_,?_⟩
  .rcases m with rfl|rfl<;>kernel_rfl
  refine LQ g jE rfl (AK _) λc2 bh X Y=>?_;have v:=(Y 5888000064 U).trans B;simp only[go_sem,v];exact LP (X.of_eq (bK U))
abbrev CY(b:Nat):ai:=[⟨1,b,1,0,0,false⟩,⟨1,b,2,0,0,false⟩]
def aoP(b:Nat):oF (ME b)=CY b:=by unfold oF;rw[show uo (ME b)=some 0 from rfl];rfl
def azI(F b:Nat):tW F [] 2 (some (ME b))=tV F (CY b):=by rw[<-aoP];rfl
def atJ{b:Nat}(H:b<=F):aK S 92 [V4 F,ep 2 0 b 0 false false 0] (tV F (CY b)):=by have:=apV (F:=F) (f:=[]) U U (a:=0) (b:=b) (c:=0) (l:=false) (o:=false) (sg:=0) (R:=some (ME b)) (aDy H) ayV (λL h=>by cases h;exact(by simp:I (ME b)<=1000000));rw[azI]at this;exact this
def apg{b:Nat}(j:F<=40)(h:b<=F):aK S 52 [H6 F,ep 2 0 b 0 false false 0] (tV F (CY b)):=by have f:aK S 91 [H6 F] (uD (.box [.int .i64 F,.sl [],.sl [],.sl [],.int .i64 ((0:Nat):Int),.int .i64 ((0:Nat):Int),.sl (a_ (gy [] F))]) (.int .i64 0)):=agb j;have H:=atJ h;have lo:S.lone 3328256128=false:=ah;refine bj Y4 ?_;simp only[go_sem,OV,VB,aU f cM,Wj];refine aa2 H lo λm n g h=>?_;have B:=h 3328000128 U;simp only[go_sem]at B;simp only[go_sem,B];exact LP (g.of_eq (bK U))
end Go.Abs
