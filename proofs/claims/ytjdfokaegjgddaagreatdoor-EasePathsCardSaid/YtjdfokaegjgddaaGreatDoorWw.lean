/- A part. -/
import Derived.Test.YtjdfokaegjgddaaGreatDoorWs
set_option linter.all false
set_option maxRecDepth 100000
set_option maxHeartbeats 16000000
namespace Go.Abs
theorem xr(a b:Nat):(a==b)=((a:Int)==(b:Int)):=by
 by_cases h:a=b
 .simp[h]
 have:(a==b)=false:=by simpa using h
 rw[this];symm;simp;omega
def Vt(F:Nat)(ls:List Let)(av bv:Nat):Option (List Pc):=
 if ((vE ls av true&&vE ls bv false)||(vE ls av false&&vE ls bv true))&&(!((pA ls av).l.id==(pA ls (nx ls av)).l.id)&&
  (((((pA ls bv).l.id==(pA ls av).l.id)&&((pA ls (nx ls bv)).l.id==(pA ls (nx ls av)).l.id))||(((pA ls bv).l.id==(pA ls (nx ls av)).l.id)&&((pA ls (nx ls bv)).l.id==(pA ls av).l.id)))&&
  (!((av+2)%ls.length==bv)&&(!((bv+2)%ls.length==av)&&kQ F ls 0 [av,bv] av))))
 then some (Ch (pieces ls) [(pA ls av).l.id,(pA ls (nx ls av)).l.id]) else none
theorem LT{F:Nat}{ls:List Let}(g:cD F ls){av bv:Nat}(ha:av<ls.length)(hb:bv<ls.length){k c:Int}{l o:Bool}{sg:Int}:
  bz S 99 [.one (.p (fp F ls)),oG k av bv c l o sg] (kR (Vt F ls av bv)):=by
 have hlen:=g.len;have Yu:=aB ls;have pe1:=o0 g ha;have pe2:=o0 g hb;have hm1:=aat (av+1) (show 0<ls.length by omega);have hm2:=aat (bv+1) (show 0<ls.length by omega);have pc:=zV g [av,bv] (by simp) (e0:=av) rfl ha 0;simp only[aar,abb] at pc;have c0:((0:Nat):Int)=0:=rfl;rw[c0] at pc;have b1:=vD g ha true;have b2:=vD g hb false;have b3:=vD g ha false;have b4:=vD g hb true;obtain⟨P,hP⟩:=ai (ls:=pieces ls) (k:=av) (by omega);obtain⟨P2,hP2⟩:=ai (ls:=pieces ls) (k:=(av+1)%ls.length) (by omega)
 obtain⟨Q,hQ⟩:=ai (ls:=pieces ls) (k:=bv) (by omega);obtain⟨Q2,hQ2⟩:=ai (ls:=pieces ls) (k:=(bv+1)%ls.length) (by omega);have hap:=cN hP;have aoZ:=cN hP2;have hbp:=cN hQ;have aoV:=cN hQ2;have hz:¬((ls.length:Int)=0):=by omega
 have e2w:IntKind.i64.wrap ((av:Int)+2)=((av+2:Nat):Int):=(jT (x:=(av:Int)+2) (by omega) (by omega)).trans (by omega);have e2m:=fA (av+2) ls.length;have e3w:IntKind.i64.wrap ((bv:Int)+2)=((bv+2:Nat):Int):=(jT (x:=(bv:Int)+2) (by omega) (by omega)).trans (by omega);have e3m:=fA (bv+2) ls.length;have lo:S.lone 6336704448=false:=by kernel_rfl
 have pd:=Cg (pieces ls) [P.l.id,P2.l.id] (by omega) (by simp) (FU g);simp only[aar,abb] at pd;have x3:vE ls av true=true->vE ls av false=false:=fun x1=>by
  unfold vE at x1 ⊢;rw[eO hP] at x1 ⊢;simp only[aaf] at x1;have:P.l.over=true:=by simpa using x1.2.2.1
  simp[this]
 unfold Vt;rw[eO hP,eO hQ,eO hP2,eO hQ2,xr,xr];have wz:=And.intro hap (And.intro hbp (And.intro aoZ (And.intro aoV (And.intro ha (And.intro hb (And.intro hm1 (And.intro hm2 (And.intro Yu (And.intro e2w (And.intro e2m (And.intro hz (And.intro e3w e3m))))))))))));refine aP c99 ?_;simp only[go_sem,i99,s125,az b1,wz];refine bd [0,3,4,5,6,7,22] fun e1 h1=>?_;have afs:=h1 0 (by decide);have afq:=h1 3 (by decide);have ajS:=h1 4 (by decide);have ajR:=h1 5 (by decide);have ajQ:=h1 6 (by decide);have ajP:=h1 7 (by decide);have afr:=h1 22 (by decide);simp only[go_sem] at afs afq ajS ajR ajQ ajP afr;cases x1:vE ls av true with
 |true=>
  simp only[go_sem,s125,az b2,afs,afq,afr,x1];refine bd [0,3,4,5,6,7,28] fun e2 h2=>?_;have ahi:=h2 0 (by decide);have ahh:=h2 3 (by decide);have ajO:=h2 4 (by decide);have ajN:=h2 5 (by decide);have al5:=h2 6 (by decide);have al4:=h2 7 (by decide);have afe:=h2 28 (by decide);simp only[go_sem,afs,afq,ajS,ajR,ajQ,ajP] at ahi ahh ajO ajN al5 al4 afe;cases x2:vE ls bv false with
  |false=>have x3':=x3 x1;simp only[go_sem,s125,az b3,ahi,ahh,ajO,ajN,afe,x2,x3'];first|rfl|exact aH|exact⟨aH,rfl⟩|exact⟨aH,aH,rfl⟩
  |true=>
  simp only[go_sem,s114,au pe1 aU,au pe2 aU,wz,Pc.ps,ahi,ahh,al4,afe,x2];refine⟨aH,?_⟩;refine bd [0,3,4,5,6,9,10,11,12,76] fun e3 h3=>?_;have ajM:=h3 0 (by decide);have al3:=h3 3 (by decide);have ajL:=h3 4 (by decide);have ajK:=h3 5 (by decide);have al1:=h3 6 (by decide);have ajJ:=h3 9 (by decide);have aia:=h3 10 (by decide);have afd:=h3 11 (by decide);have ah9:=h3 12 (by decide);have adr:=h3 76 (by decide);simp only[go_sem,ahi,ahh,ajO,ajN,al5] at ajM al3 ajL ajK al1 ajJ aia afd ah9 adr;cases c1:(P.l.id==P2.l.id) with
  |true=>simp only[go_sem,ajL,ajK,adr,c1];first|rfl|exact aH|exact⟨aH,rfl⟩|exact⟨aH,aH,rfl⟩
  |false=>
  simp only[go_sem,wz,Pc.ps,ajM,ajJ,afd,adr,c1];refine bd [0,3,4,5,6,9,10,11,12,76,88] fun e4 h4=>?_;have afc:=h4 0 (by decide);have ajI:=h4 3 (by decide);have ajH:=h4 4 (by decide);have ajG:=h4 5 (by decide);have ajF:=h4 6 (by decide);have ajE:=h4 9 (by decide);have adq:=h4 10 (by decide);have afb:=h4 11 (by decide);have acp:=h4 12 (by decide);have aco:=h4 76 (by decide);have afa:=h4 88 (by decide);simp only[go_sem,ajM,al3,ajL,ajK,al1,ajJ,aia,afd,ah9,adr,c1] at afc ajI ajH ajG ajF ajE adq afb acp aco afa;cases c2:(Q.l.id==P.l.id) with
  |true=>
   have c4:(Q.l.id==P2.l.id)=false:=by
    have h1:Q.l.id=P.l.id:=by simpa using c2
    rw[h1];exact c1
   simp only[go_sem,wz,Pc.ps,afc,adq,acp,aco,afa,c2];refine bd [0,3,4,5,6,9,10,11,12,76,101] fun e5 h5=>?_;have ajD:=h5 0 (by decide);have ajC:=h5 3 (by decide);have ajB:=h5 4 (by decide);have ajA:=h5 5 (by decide);have ajz:=h5 6 (by decide);have alZ:=h5 9 (by decide);have al0:=h5 10 (by decide);have ah8:=h5 11 (by decide);have ae9:=h5 12 (by decide);have ae8:=h5 76 (by decide);have acS:=h5 101 (by decide);simp only[go_sem,afc,ajI,ajH,ajG,ajF,ajE,adq,afb,acp,aco] at ajD ajC ajB ajA ajz alZ al0 ah8 ae9 ae8 acS;cases c3:(Q2.l.id==P2.l.id) with
   |false=>simp only[go_sem,wz,Pc.ps,ajD,ajB,ajA,alZ,ae9,ae8,acS,c3,c4];first|rfl|exact aH|exact⟨aH,rfl⟩|exact⟨aH,aH,rfl⟩
   |true=>
   simp only[go_sem,wz,ajC,ajz,ae8,acS,c3];refine gi [0,3,4,5,6,11,12,137] fun e6 h6=>?_;have alY:=h6 0 (by decide);have ajy:=h6 3 (by decide);have ajx:=h6 4 (by decide);have ajw:=h6 5 (by decide);have alX:=h6 6 (by decide);have ah7:=h6 11 (by decide);have ah6:=h6 12 (by decide);have acQ:=h6 137 (by decide);simp only[go_sem,ajD,ajC,ajB,ajA,ajz,ah8,ae9] at alY ajy ajx ajw alX ah7 ah6 acQ;cases d1:((((av+2)%ls.length:Nat):Int)==(bv:Int)) with
   |true=>simp only[go_sem,ajx,ajw,acQ,d1];first|rfl|exact aH|exact⟨aH,rfl⟩|exact⟨aH,aH,rfl⟩
   |false=>
   simp only[go_sem,wz,ajy,alX,acQ,d1];refine gi [0,3,4,5,11,12,147] fun e7 h7=>?_;have ajv:=h7 0 (by decide);have aju:=h7 3 (by decide);have ajt:=h7 4 (by decide);have ajs:=h7 5 (by decide);have ah5:=h7 11 (by decide);have ah4:=h7 12 (by decide);have abN:=h7 147 (by decide);simp only[go_sem,alY,ajy,ajx,ajw,ah7,ah6] at ajv aju ajt ajs ah5 ah4 abN;cases d2:((((bv+2)%ls.length:Nat):Int)==(av:Int)) with
   |true=>simp only[go_sem,ajt,ajs,abN,d2];first|rfl|exact aH|exact⟨aH,rfl⟩|exact⟨aH,aH,rfl⟩
   |false=>
   cases d3:kQ F ls 0 [av,bv] av with
   |false=>rw[d3] at pc;simp only[go_sem,s122,dF pc,ajv,aju,ajt,ajs,abN,d2];first|rfl|exact aH|exact⟨aH,rfl⟩|exact⟨aH,aH,rfl⟩
   |true=>rw[d3] at pc;simp only[go_sem,s122,dF pc,s123,ajv,aju,ah5,ah4,abN,d2];refine⟨aH,?_⟩;refine gA pd lo (.inr (ay (dp _))) fun cc Yi gc hbk=>?_;simp only[go_sem];exact aS gc
  |false=>
   simp only[go_sem,wz,Pc.ps,afc,ajE,acp,aco,afa,c2];refine bd [0,3,4,5,6,10,11,12,76,101,113] fun e8 h8=>?_;have ajr:=h8 0 (by decide);have alW:=h8 3 (by decide);have ajq:=h8 4 (by decide);have ajp:=h8 5 (by decide);have alV:=h8 6 (by decide);have ah3:=h8 10 (by decide);have ae7:=h8 11 (by decide);have ah2:=h8 12 (by decide);have ae6:=h8 76 (by decide);have acP:=h8 101 (by decide);have acO:=h8 113 (by decide);simp only[go_sem,afc,ajI,ajH,ajG,ajF,adq,afb,acp,aco] at ajr alW ajq ajp alV ah3 ae7 ah2 ae6 acP acO;cases c4:(Q.l.id==P2.l.id) with
   |false=>simp only[go_sem,ajq,ajp,ae6,acP,acO,c4];first|rfl|exact aH|exact⟨aH,rfl⟩|exact⟨aH,aH,rfl⟩
   |true=>
   simp only[go_sem,wz,Pc.ps,ajr,ah3,ae7,ae6,acP,acO,c4];refine Qo [0,3,4,5,6,11,12] fun e9 h9=>?_;have alU:=h9 0 (by decide);have ajo:=h9 3 (by decide);have ajn:=h9 4 (by decide);have ajm:=h9 5 (by decide);have ajl:=h9 6 (by decide);have ah1:=h9 11 (by decide);have ah0:=h9 12 (by decide);simp only[go_sem,ajr,alW,ajq,ajp,alV,ae7,ah2] at alU ajo ajn ajm ajl ah1 ah0;cases c5:(Q2.l.id==P.l.id) with
   |false=>simp only[go_sem,ajn,ajm];first|rfl|exact aH|exact⟨aH,rfl⟩|exact⟨aH,aH,rfl⟩
   |true=>
   simp only[go_sem,wz,ajo,ajl];refine gi [0,3,4,5,6,11,12,137] fun e10 YN=>?_;have aio:=YN 0 (by decide);have age:=YN 3 (by decide);have agd:=YN 4 (by decide);have agc:=YN 5 (by decide);have ain:=YN 6 (by decide);have agh:=YN 11 (by decide);have agf:=YN 12 (by decide);have abV:=YN 137 (by decide);simp only[go_sem,alU,ajo,ajn,ajm,ajl,ah1,ah0] at aio age agd agc ain agh agf abV;cases d1:((((av+2)%ls.length:Nat):Int)==(bv:Int)) with
   |true=>simp only[go_sem,agd,agc,abV,d1];first|rfl|exact aH|exact⟨aH,rfl⟩|exact⟨aH,aH,rfl⟩
   |false=>
   simp only[go_sem,wz,age,ain,abV,d1];refine gi [0,3,4,5,11,12,147] fun e11 Zn=>?_;have agb:=Zn 0 (by decide);have af8:=Zn 3 (by decide);have af7:=Zn 4 (by decide);have af6:=Zn 5 (by decide);have aga:=Zn 11 (by decide);have af9:=Zn 12 (by decide);have aaY:=Zn 147 (by decide);simp only[go_sem,aio,age,agd,agc,agh,agf] at agb af8 af7 af6 aga af9 aaY;cases d2:((((bv+2)%ls.length:Nat):Int)==(av:Int)) with
   |true=>simp only[go_sem,af7,af6,aaY,d2];first|rfl|exact aH|exact⟨aH,rfl⟩|exact⟨aH,aH,rfl⟩
   |false=>
   cases d3:kQ F ls 0 [av,bv] av with
   |false=>rw[d3] at pc;simp only[go_sem,s122,dF pc,agb,af8,af7,af6,aaY,d2];first|rfl|exact aH|exact⟨aH,rfl⟩|exact⟨aH,aH,rfl⟩
   |true=>rw[d3] at pc;simp only[go_sem,s122,dF pc,s123,agb,af8,aga,af9,aaY,d2];refine⟨aH,?_⟩;refine gA pd lo (.inr (ay (dp _))) fun cc Yi gc hbk=>?_;simp only[go_sem];exact aS gc
 |false=>
  simp only[go_sem,s125,az b3,afs,afq,afr,x1];refine bd [0,3,4,5,6,7,28,33] fun e12 h12=>?_;have adv:=h12 0 (by decide);have adu:=h12 3 (by decide);have adt:=h12 4 (by decide);have ads:=h12 5 (by decide);have aim:=h12 6 (by decide);have ail:=h12 7 (by decide);have ac1:=h12 28 (by decide);have ac0:=h12 33 (by decide);simp only[go_sem,afs,afq,ajS,ajR,ajQ,ajP] at adv adu adt ads aim ail ac1 ac0;cases x4:vE ls av false with
  |false=>simp only[go_sem,adt,ads,ac1,ac0,x4];first|rfl|exact aH|exact⟨aH,rfl⟩|exact⟨aH,aH,rfl⟩
  |true=>
  simp only[go_sem,s125,az b4,adv,adu,ac1,ac0,x4];cases x5:vE ls bv true with
  |false=>simp only[go_sem,adt,ads];first|rfl|exact aH|exact⟨aH,rfl⟩|exact⟨aH,aH,rfl⟩
  |true=>
  simp only[go_sem,s114,au pe1 aU,au pe2 aU,wz,Pc.ps,adv,adu,ail];refine⟨aH,?_⟩;refine bd [0,3,4,5,6,9,10,11,12,76] fun e13 h13=>?_;have af5:=h13 0 (by decide);have aik:=h13 3 (by decide);have af2:=h13 4 (by decide);have af1:=h13 5 (by decide);have aij:=h13 6 (by decide);have af0:=h13 9 (by decide);have af4:=h13 10 (by decide);have acZ:=h13 11 (by decide);have af3:=h13 12 (by decide);have abU:=h13 76 (by decide);simp only[go_sem,adv,adu,adt,ads,aim] at af5 aik af2 af1 aij af0 af4 acZ af3 abU;cases c1:(P.l.id==P2.l.id) with
  |true=>simp only[go_sem,af2,af1,abU,c1];first|rfl|exact aH|exact⟨aH,rfl⟩|exact⟨aH,aH,rfl⟩
  |false=>
  simp only[go_sem,wz,Pc.ps,af5,af0,acZ,abU,c1];refine bd [0,3,4,5,6,9,10,11,12,76,88] fun e14 h14=>?_;have acq:=h14 0 (by decide);have afZ:=h14 3 (by decide);have afY:=h14 4 (by decide);have afX:=h14 5 (by decide);have afW:=h14 6 (by decide);have afV:=h14 9 (by decide);have abT:=h14 10 (by decide);have acY:=h14 11 (by decide);have aa9:=h14 12 (by decide);have aa8:=h14 76 (by decide);have acX:=h14 88 (by decide);simp only[go_sem,af5,aik,af2,af1,aij,af0,af4,acZ,af3,abU,c1] at acq afZ afY afX afW afV abT acY aa9 aa8 acX;cases c2:(Q.l.id==P.l.id) with
  |true=>
   have c4:(Q.l.id==P2.l.id)=false:=by
    have h1:Q.l.id=P.l.id:=by simpa using c2
    rw[h1];exact c1
   simp only[go_sem,wz,Pc.ps,acq,abT,aa9,aa8,acX,c2];refine bd [0,3,4,5,6,9,10,11,12,76,101] fun e15 h15=>?_;have afU:=h15 0 (by decide);have afS:=h15 3 (by decide);have afR:=h15 4 (by decide);have afQ:=h15 5 (by decide);have afP:=h15 6 (by decide);have aii:=h15 9 (by decide);have ajT:=h15 10 (by decide);have afT:=h15 11 (by decide);have acW:=h15 12 (by decide);have acV:=h15 76 (by decide);have abS:=h15 101 (by decide);simp only[go_sem,acq,afZ,afY,afX,afW,afV,abT,acY,aa9,aa8] at afU afS afR afQ afP aii ajT afT acW acV abS;cases c3:(Q2.l.id==P2.l.id) with
   |false=>simp only[go_sem,wz,Pc.ps,afU,afR,afQ,aii,acW,acV,abS,c3,c4];first|rfl|exact aH|exact⟨aH,rfl⟩|exact⟨aH,aH,rfl⟩
   |true=>
   simp only[go_sem,wz,afS,afP,acV,abS,c3];refine gi [0,3,4,5,6,11,12,137] fun e16 h16=>?_;have aih:=h16 0 (by decide);have afM:=h16 3 (by decide);have afL:=h16 4 (by decide);have afK:=h16 5 (by decide);have aig:=h16 6 (by decide);have afO:=h16 11 (by decide);have afN:=h16 12 (by decide);have abR:=h16 137 (by decide);simp only[go_sem,afU,afS,afR,afQ,afP,afT,acW] at aih afM afL afK aig afO afN abR;cases d1:((((av+2)%ls.length:Nat):Int)==(bv:Int)) with
   |true=>simp only[go_sem,afL,afK,abR,d1];first|rfl|exact aH|exact⟨aH,rfl⟩|exact⟨aH,aH,rfl⟩
   |false=>
   simp only[go_sem,wz,afM,aig,abR,d1];refine gi [0,3,4,5,11,12,147] fun e17 ZR=>?_;have afJ:=ZR 0 (by decide);have afG:=ZR 3 (by decide);have afF:=ZR 4 (by decide);have afE:=ZR 5 (by decide);have afI:=ZR 11 (by decide);have afH:=ZR 12 (by decide);have aaX:=ZR 147 (by decide);simp only[go_sem,aih,afM,afL,afK,afO,afN] at afJ afG afF afE afI afH aaX;cases d2:((((bv+2)%ls.length:Nat):Int)==(av:Int)) with
   |true=>simp only[go_sem,afF,afE,aaX,d2];first|rfl|exact aH|exact⟨aH,rfl⟩|exact⟨aH,aH,rfl⟩
   |false=>
   cases d3:kQ F ls 0 [av,bv] av with
   |false=>rw[d3] at pc;simp only[go_sem,s122,dF pc,afJ,afG,afF,afE,aaX,d2];first|rfl|exact aH|exact⟨aH,rfl⟩|exact⟨aH,aH,rfl⟩
   |true=>rw[d3] at pc;simp only[go_sem,s122,dF pc,s123,afJ,afG,afI,afH,aaX,d2];refine⟨aH,?_⟩;refine gA pd lo (.inr (ay (dp _))) fun cc Yi gc hbk=>?_;simp only[go_sem];exact aS gc
  |false=>
   simp only[go_sem,wz,Pc.ps,acq,afV,aa9,aa8,acX,c2];refine bd [0,3,4,5,6,10,11,12,76,101,113] fun e18 Zw=>?_;have afD:=Zw 0 (by decide);have aif:=Zw 3 (by decide);have afA:=Zw 4 (by decide);have afz:=Zw 5 (by decide);have aie:=Zw 6 (by decide);have afC:=Zw 10 (by decide);have acU:=Zw 11 (by decide);have afB:=Zw 12 (by decide);have acT:=Zw 76 (by decide);have abQ:=Zw 101 (by decide);have abP:=Zw 113 (by decide);simp only[go_sem,acq,afZ,afY,afX,afW,abT,acY,aa9,aa8] at afD aif afA afz aie afC acU afB acT abQ abP;cases c4:(Q.l.id==P2.l.id) with
   |false=>simp only[go_sem,afA,afz,acT,abQ,abP,c4];first|rfl|exact aH|exact⟨aH,rfl⟩|exact⟨aH,aH,rfl⟩
   |true=>
   simp only[go_sem,wz,Pc.ps,afD,afC,acU,acT,abQ,abP,c4];refine Qo [0,3,4,5,6,11,12] fun e19 ZW=>?_;have aid:=ZW 0 (by decide);have afw:=ZW 3 (by decide);have afv:=ZW 4 (by decide);have afu:=ZW 5 (by decide);have aft:=ZW 6 (by decide);have afy:=ZW 11 (by decide);have afx:=ZW 12 (by decide);simp only[go_sem,afD,aif,afA,afz,aie,acU,afB] at aid afw afv afu aft afy afx;cases c5:(Q2.l.id==P.l.id) with
   |false=>simp only[go_sem,afv,afu];first|rfl|exact aH|exact⟨aH,rfl⟩|exact⟨aH,aH,rfl⟩
   |true=>
   simp only[go_sem,wz,afw,aft];refine gi [0,3,4,5,6,11,12,137] fun e20 h20=>?_;have aic:=h20 0 (by decide);have afn:=h20 3 (by decide);have afm:=h20 4 (by decide);have afl:=h20 5 (by decide);have aib:=h20 6 (by decide);have afp:=h20 11 (by decide);have afo:=h20 12 (by decide);have abO:=h20 137 (by decide);simp only[go_sem,aid,afw,afv,afu,aft,afy,afx] at aic afn afm afl aib afp afo abO;cases d1:((((av+2)%ls.length:Nat):Int)==(bv:Int)) with
   |true=>simp only[go_sem,afm,afl,abO,d1];first|rfl|exact aH|exact⟨aH,rfl⟩|exact⟨aH,aH,rfl⟩
   |false=>
   simp only[go_sem,wz,afn,aib,abO,d1];refine gi [0,3,4,5,11,12,147] fun e21 h21=>?_;have afk:=h21 0 (by decide);have afh:=h21 3 (by decide);have afg:=h21 4 (by decide);have aff:=h21 5 (by decide);have afj:=h21 11 (by decide);have afi:=h21 12 (by decide);have aaW:=h21 147 (by decide);simp only[go_sem,aic,afn,afm,afl,afp,afo] at afk afh afg aff afj afi aaW;cases d2:((((bv+2)%ls.length:Nat):Int)==(av:Int)) with
   |true=>simp only[go_sem,afg,aff,aaW,d2];first|rfl|exact aH|exact⟨aH,rfl⟩|exact⟨aH,aH,rfl⟩
   |false=>
   cases d3:kQ F ls 0 [av,bv] av with
   |false=>rw[d3] at pc;simp only[go_sem,s122,dF pc,afk,afh,afg,aff,aaW,d2];first|rfl|exact aH|exact⟨aH,rfl⟩|exact⟨aH,aH,rfl⟩
   |true=>rw[d3] at pc;simp only[go_sem,s122,dF pc,s123,afk,afh,afj,afi,aaW,d2];refine⟨aH,?_⟩;refine gA pd lo (.inr (ay (dp _))) fun cc Yi gc hbk=>?_;simp only[go_sem];exact aS gc
section
attribute [local go_sem ↓] fm1 fm2
theorem gJ{al:Al}{X9:aE}{id ty:Nat}{es:List (List PV)}{c:C}(o:es=[]\/al.ok id=true)(hl:es.length<=1000000)(hes:∀e∈es,e.length=7/\ ∀v∈e,v.norm=v)(h:grown id ty 7 es (.one c) X9):
  ∃v Ya,vN S 126 [.one c] al X9 v Ya/\qp id ty 7 es c X9 v Ya:=by
 refine iS c126 (aaU rfl) ?_;rcases h with ⟨rfl,h2⟩|⟨Yk,g,h2,hC⟩
 .cases h2;have w0:IntKind.i64.wrap (((0:Nat):Int)-1)= -1:=by decide
  have hz:¬((0:Int)< -1):=by decide
  simp only[go_sem,i126,w0];refine bm (fun k env Ya=>k=0/\env 2=vi 0/\env 3=vi (-1)/\Ya=X9) 0 0 (aad _) ?_ ?_
  .simp only[go_sem]
  rintro k env Ya _ ⟨rfl,h2,h3,rfl⟩
  simp only[go_sem,i126_l1,h2,h3,hz];exact⟨rfl,.inl ⟨rfl,rfl⟩,fun _ _=>rfl⟩
 cases h2;have o:=o.resolve_left Yk;have w0:=gV (a:=es.length) (by omega);simp only[go_sem,i126,w0];refine bm (fun k env Ya=>env 0=.one (.hsl id g 7 0 es.length)/\env 2=vi k/\env 3=vi ((es.length:Int)-1-(k:Int))/\ ∃fs,Ya id=(g,some (.arr ty 7 fs))/\Hz es fs k/\Kept (· =id) X9 Ya) 0 es.length (aae _) ?_ ?_
 .simp only[go_sem];refine⟨rfl,by simp,es,hC,Hz.start es,Kept.refl _ _⟩
 rintro k env Ya hk ⟨h0,h2,h3,fs,hF,hI,YB⟩
 by_cases Ye:k<es.length-1-k
 .have e1:((es.length:Int)-1-(k:Int))=((es.length-1-k:Nat):Int):=by omega
  rw[e1] at h3;have Yf:((k:Int)<((es.length-1-k:Nat):Int)):=by omega
  have w1:=ah (n:=k) (by omega);have w2:IntKind.i64.wrap (((es.length-1-k:Nat):Int)-1)=((es.length:Int)-1-((k+1:Nat):Int)):=by rw[gV (by omega)];omega
  obtain⟨a,ha⟩:=ai (show k<es.length by omega);obtain⟨b,hb⟩:=ai (show es.length-1-k<es.length by omega);obtain⟨fa,fb,hI2⟩:=hI.step Ye ha hb;obtain⟨la,na⟩:=hes a (aab ha);obtain⟨lb,nb⟩:=hes b (aab hb);obtain⟨x0,x1,x2,x3,x4,x5,x6,rfl⟩:=WZ la;obtain⟨y0,y1,y2,y3,y4,y5,y6,rfl⟩:=WZ lb;have acG:=na x0 (by simp);have aew:=na x1 (by simp);have aiV:=na x2 (by simp);have aiU:=na x3 (by simp);have aiT:=na x4 (by simp);have aiS:=na x5 (by simp);have aop:=na x6 (by simp);have acF:=nb y0 (by simp);have aev:=nb y1 (by simp);have aiR:=nb y2 (by simp);have aiQ:=nb y3 (by simp);have aiP:=nb y4 (by simp);have aiO:=nb y5 (by simp);have aoo:=nb y6 (by simp);have hfl:=hI.len;have hkj:¬(k=es.length-1-k):=by omega
  have ai2:¬(es.length-1-k=k):=by omega
  have l1:k<fs.length:=by omega
  have l2:es.length-1-k<fs.length:=by omega
  have l3:k<es.length:=by omega
  have l4:es.length-1-k<es.length:=by omega
  simp only[go_sem,i126_l1,h0,h2,h3,hF,Yf,fa,fb,w1,w2,o,l1,l3,l4,hkj,acG,aew,aiV,aiU,aiT,aiS,aop,acF,aev,aiR,aiQ,aiP,aiO,aoo,abj];refine⟨aH,_,rfl,hI2,?_⟩;exact(YB.ij rfl _).ij rfl _
 have Yf:¬((k:Int)<(es.length:Int)-1-(k:Int)):=by omega
 simp only[go_sem,i126_l1,h2,h3,Yf];refine⟨rfl,?_,YB⟩;rw[hI.done Ye] at hF;exact .inr ⟨by simpa using Yk,g,by rw[abp],hF⟩
theorem hU{Q:dO}{env:Env}{X9:aE}{os:List aj}{d:Option Nat}{f id ty z:Nat}{es:List (List PV)}{c:C}(aiE:∀ {al:Al} {X9:aE},es=[]\/al.ok id=true->grown id ty z es (.one c) X9->∃v Ya,vN S f [.one c] al X9 v Ya/\qp id ty z es c X9 v Ya)(hg:grown id ty z es (.one c) X9)
  (hK:∀Ya,grown id ty z es.reverse (.one c) Ya->(∀i,i≠id->Ya i=X9 i)->RN S .all os Q (put env d (.tup [])) Ya):gP S .all (.sc f [.one c]) d os Q env X9:=by
 refine jF (P:=qp id ty z es c X9) gb (aiE ?_ hg) ?_
 .rcases mt hg with ⟨h,_⟩|h
  .exact .inl h
  exact .inr (ie (by simp[h]))
 rintro v Ya ⟨rfl,h1,h2⟩
 exact hK Ya h1 h2
abbrev vV(x k:Nat)(sg:Int)(ov:Bool):Pc:=⟨⟨2,0,0,((x+k:Nat):Int),sg,ov⟩,false⟩
abbrev vv(ls:List Let)(s t:Int)(o:Bool):List Pc:=[vV (ao Let.aw ls/2) 1 s o,vV (ao Let.aw ls/2) 2 t o]
abbrev ww(ls:List Let)(s t:Int)(o:Bool):List Pc:=[vV (ao Let.aw ls/2) 2 t o,vV (ao Let.aw ls/2) 1 s o]
abbrev G0(F:Nat)(ls:List Let)(d:Nat):Nat:=(dX F ls).getD d 0
abbrev Eh(x:Nat)(sg:Int)(o:Bool):List Pc:=[vV x 1 sg o,vV x 2 (-sg) o]
abbrev AU(x:Nat)(sg:Int)(o same:Bool):List Pc:=if same then [vV x 2 (-sg) (!o),vV x 1 sg (!o)] else [vV x 1 sg (!o),vV x 2 (-sg) (!o)]
def nW(ls:List Let)(av bv:Nat)(l o same other:Bool):Option (List Pc):=
 if !same&& !other then none
 else
  let sg:Int:=if o==(same==l) then 1 else -1
  let first:=Eh (ao Let.aw ls/2) sg o
  let second:=AU (ao Let.aw ls/2) sg o same
  some (if av<bv then bN (bN (pieces ls) second bv) first av else bN (bN (pieces ls) first av) second bv)
def Vm(F:Nat)(ls:List Let)(av bv:Nat)(l o:Bool):Option (List Pc):=
 if l then nW ls av bv l o ((G0 F ls (2*bv):Int)==(G0 F ls (2*av):Int)) ((G0 F ls (2*bv+1):Int)==(G0 F ls (2*av):Int))
 else nW ls av bv l o ((G0 F ls (2*bv+1):Int)==(G0 F ls (2*av+1):Int)) ((G0 F ls (2*bv):Int)==(G0 F ls (2*av+1):Int))
theorem Ds{F:Nat}{ls:List Let}{d:Nat}(hd:d<2*ls.length):(dX F ls)[d]?=some (G0 F ls d):=by obtain⟨j,hj⟩:=ai (ls:=dX F ls) (k:=d) (by rw[nv];exact hd);rw[G0,aal,hj];rfl
theorem HM{F:Nat}{ls:List Let}(g:cD F ls){av bv:Nat}(ha:av<ls.length)(hb:bv<ls.length)(Zv:av≠bv){k c:Int}{l o:Bool}{sg:Int}:
  bz S 100 [.one (.p (fp F ls)),oG k av bv c l o sg] (kR (Vm F ls av bv l o)):=by
 have hlen:=g.len;have YV:=g.cr;have Yu:=aB ls;have hll:=nv F ls;have m2a:=dr (a:=av) (by omega);have m2b:=dr (a:=bv) (by omega);have wa0:IntKind.i64.wrap (((2*av:Nat):Int)+0)=((2*av:Nat):Int):=(jT (x:=((2*av:Nat):Int)+0) (by omega) (by omega)).trans (by omega);have wa1:=ah (n:=2*av) (by omega);have wb0:IntKind.i64.wrap (((2*bv:Nat):Int)+0)=((2*bv:Nat):Int):=(jT (x:=((2*bv:Nat):Int)+0) (by omega) (by omega)).trans (by omega);have wb1:=ah (n:=2*bv) (by omega)
 have wc0:IntKind.i64.wrap (((2*bv+1:Nat):Int)-0)=((2*bv+1:Nat):Int):=(jT (x:=((2*bv+1:Nat):Int)-0) (by omega) (by omega)).trans (by omega);have wc1:IntKind.i64.wrap (((2*bv+1:Nat):Int)-1)=((2*bv:Nat):Int):=(jT (x:=((2*bv+1:Nat):Int)-1) (by omega) (by omega)).trans (by omega);have la0:2*av<(dX F ls).length:=by omega
 have la1:2*av+1<(dX F ls).length:=by omega
 have lb0:2*bv<(dX F ls).length:=by omega
 have lb1:2*bv+1<(dX F ls).length:=by omega
 have ja0:=dQ (Ds (F:=F) (ls:=ls) (d:=2*av) (by omega));have ja1:=dQ (Ds (F:=F) (ls:=ls) (d:=2*av+1) (by omega));have jb0:=dQ (Ds (F:=F) (ls:=ls) (d:=2*bv) (by omega));have jb1:=dQ (Ds (F:=F) (ls:=ls) (d:=2*bv+1) (by omega));have Za:S.shared 126=true:=by kernel_rfl
 have k1:((1:Nat):Int)=1:=rfl;have k2:((2:Nat):Int)=2:=rfl;have pv1:=fun ov=>rc F (ao Let.aw ls/2) 1 ov (.sl (d5 (pieces ls))) (.sl (zE (aT F ls))) (.sl (nP (dX F ls))) (.int .i64 (ao Let.aA ls:Nat)) (.sl (nP (counts ls F))) 1 (by omega) (by omega);have pv2:=fun ov=>rc F (ao Let.aw ls/2) (-1) ov (.sl (d5 (pieces ls))) (.sl (zE (aT F ls))) (.sl (nP (dX F ls))) (.int .i64 (ao Let.aA ls:Nat)) (.sl (nP (counts ls F))) 2 (by omega) (by omega);have pv3:=fun ov=>rc F (ao Let.aw ls/2) (-1) ov (.sl (d5 (pieces ls))) (.sl (zE (aT F ls))) (.sl (nP (dX F ls))) (.int .i64 (ao Let.aA ls:Nat)) (.sl (nP (counts ls F))) 1 (by omega) (by omega)
 have pv4:=fun ov=>rc F (ao Let.aw ls/2) 1 ov (.sl (d5 (pieces ls))) (.sl (zE (aT F ls))) (.sl (nP (dX F ls))) (.int .i64 (ao Let.aA ls:Nat)) (.sl (nP (counts ls F))) 2 (by omega) (by omega);simp only[k1,k2] at pv1 pv2 pv3 pv4;have wn1:IntKind.i64.wrap (0-1)= -1:=by decide
 have wn2:IntKind.i64.wrap (0 - -1)=1:=by decide
 have Zy:∀X9:aE,∀s,∀x1 x2 x3 x4 x5 x6 x7:PV,land X9 [] s ((RV.agg [.p x1,.p x2,.p x3,.p x4,.p x5,.p x6,.p x7]).bZ (S.lone s))=some (.agg [.p x1,.p x2,.p x3,.p x4,.p x5,.p x6,.p x7],[]):=fun X9 s x1 x2 x3 x4 x5 x6 x7=>by cases S.lone s<;>rfl
 have wz:=And.intro wa0 (And.intro wa1 (And.intro wb0 (And.intro wb1 (And.intro wc0 (And.intro wc1 (And.intro m2a (And.intro m2b (And.intro la0 (And.intro la1 (And.intro lb0 (And.intro lb1 (And.intro ja0 (And.intro ja1 (And.intro jb0 jb1))))))))))))));unfold Vm;generalize G0 F ls (2*av)=a0 at*;generalize G0 F ls (2*av+1)=a1 at*;generalize G0 F ls (2*bv)=b0 at*;generalize G0 F ls (2*bv+1)=b1 at*;refine aP c100 ?_;cases l with
 |true=>
  rw[if_pos rfl];cases o with
  |true=>
   simp only[go_sem,i100,wz];refine⟨aH,aH,?_⟩;refine gi [0,3,4,5,6,7,8,9,40] fun e1 YS=>?_;simp only[go_sem] at YS;cases hs:((b0:Int)==(a0:Int)) with
   |true=>
    simp only[go_sem,YS,hs];refine⟨aH,?_⟩;by_cases hAB:av<bv
    .have Ye:((av:Int)<(bv:Int)):=by omega
     have Yy:nW ls av bv true true true ((b1:Int)==(a0:Int))=some (bN (bN (pieces ls) (ww ls 1 (-1) false) bv) (vv ls 1 (-1) true) av):=by simp[nW,Eh,AU,hAB,vv,ww]
     rw[Yy];simp only[go_sem,YS,hs,s124,bl (pv1 _) (Zy _ _ _ _ _ _ _ _ _),bl (pv2 _) (Zy _ _ _ _ _ _ _ _ _),wn1,Za];refine⟨aH,aH,?_⟩;refine hU (f:=126) (es:=d5 (vv ls 1 (-1) false)) (id:=6400704832) (ty:=gE) (z:=7) (fun o h=>gJ o (by simp) (mu _) h) (.inr ⟨by simp,_,rfl,by simp only[ae,Nat.reduceEqDiff,if_true,if_false];rfl⟩) fun blkr gr hbr=>?_;have br0:=hbr 6400000000 (by decide);have br1:=hbr 6400640704 (by decide);simp only[go_sem] at br0 br1;rcases gr with ⟨e,_⟩|⟨_,gg,e,ZA⟩
     .simp at e
     cases e;rw[show(d5 (vv ls 1 (-1) false)).reverse=d5 (ww ls 1 (-1) false) from rfl] at ZA;simp only[Pc.ps,aar,abb] at ZA;simp only[go_sem,YS,br0,ZA,Ye,s120];refine eI (aL (pieces ls) (ww ls 1 (-1) false) bv (by omega) (by omega) (by simp)) (by kernel_rfl:S.lone 6400960448=false) (.inr (ay (dp _))) fun c1 Yi v1 g1 Yo ZU=>?_
     obtain⟨r1,YT,Y0⟩:=g1.cn;have q0:=Yo 6400000000 (by decide);have q1:=Yo 6400640704 (by decide);have q2:=Yo 6400704832 (by decide);simp only[go_sem,br0,br1,ZA] at q0 q1 q2;simp only[go_sem,YS,q0,q1,YT,s120];refine eI (aL (bN (pieces ls) (ww ls 1 (-1) false) bv) (vv ls 1 (-1) true) av (by rw[aQ];omega) (by rw[aQ];simp;omega) (by simp)) (by kernel_rfl:S.lone 6400960704=false) (.inr (ay (dp _))) fun c2 Yg v2 g2 Yp ZE=>?_;simp only[go_sem];refine⟨?_,aS g2⟩;rcases Y0 with rfl|rfl<;>rcases ZU with rfl|rfl<;>rcases ZE with rfl|rfl<;>kernel_rfl
    have Ye:¬((av:Int)<(bv:Int)):=by omega
    have Yy:nW ls av bv true true true ((b1:Int)==(a0:Int))=some (bN (bN (pieces ls) (vv ls 1 (-1) true) av) (ww ls 1 (-1) false) bv):=by simp[nW,Eh,AU,hAB,vv,ww]
    rw[Yy];simp only[go_sem,YS,hs,s124,bl (pv1 _) (Zy _ _ _ _ _ _ _ _ _),bl (pv2 _) (Zy _ _ _ _ _ _ _ _ _),wn1,Za];refine⟨aH,aH,?_⟩;refine hU (f:=126) (es:=d5 (vv ls 1 (-1) false)) (id:=6400704832) (ty:=gE) (z:=7) (fun o h=>gJ o (by simp) (mu _) h) (.inr ⟨by simp,_,rfl,by simp only[ae,Nat.reduceEqDiff,if_true,if_false];rfl⟩) fun blkr gr hbr=>?_;have br0:=hbr 6400000000 (by decide);have br1:=hbr 6400640704 (by decide);simp only[go_sem] at br0 br1;rcases gr with ⟨e,_⟩|⟨_,gg,e,ZA⟩
    .simp at e
    cases e;rw[show(d5 (vv ls 1 (-1) false)).reverse=d5 (ww ls 1 (-1) false) from rfl] at ZA;simp only[Pc.ps,aar,abb] at ZA;simp only[go_sem,YS,br0,br1,Ye,s120];refine eI (aL (pieces ls) (vv ls 1 (-1) true) av (by omega) (by omega) (by simp)) (by kernel_rfl:S.lone 6401024448=false) (.inr (ay (dp _))) fun c1 Yi v1 g1 Yo ZU=>?_
    obtain⟨r1,YT,Y0⟩:=g1.cn;have q0:=Yo 6400000000 (by decide);have q1:=Yo 6400640704 (by decide);have q2:=Yo 6400704832 (by decide);simp only[go_sem,br0,br1,ZA] at q0 q1 q2;simp only[go_sem,YS,q0,q2,YT,s120];refine eI (aL (bN (pieces ls) (vv ls 1 (-1) true) av) (ww ls 1 (-1) false) bv (by rw[aQ];omega) (by rw[aQ];simp;omega) (by simp)) (by kernel_rfl:S.lone 6401024704=false) (.inr (ay (dp _))) fun c2 Yg v2 g2 Yp ZE=>?_;simp only[go_sem];refine⟨?_,aS g2⟩;rcases Y0 with rfl|rfl<;>rcases ZU with rfl|rfl<;>rcases ZE with rfl|rfl<;>kernel_rfl
   |false=>
    cases ho:((b1:Int)==(a0:Int)) with
    |false=>
     have hn:((b1:Int)!=(a0:Int))=true:=by simp only[bne,ho];rfl
     simp only[go_sem,wz,YS,hs,hn];first|rfl|exact aH|exact⟨aH,rfl⟩|exact⟨aH,aH,rfl⟩
    |true=>
     have hn:((b1:Int)!=(a0:Int))=false:=by simp only[bne,ho];rfl
     simp only[go_sem,wz,YS,hs,hn];refine⟨aH,?_⟩;by_cases hAB:av<bv
     .have Ye:((av:Int)<(bv:Int)):=by omega
      have Yy:nW ls av bv true true false true=some (bN (bN (pieces ls) (vv ls (-1) 1 false) bv) (vv ls (-1) 1 true) av):=by simp[nW,Eh,AU,hAB,vv]
      rw[Yy];simp only[go_sem,YS,hs,s124,bl (pv3 _) (Zy _ _ _ _ _ _ _ _ _),bl (pv4 _) (Zy _ _ _ _ _ _ _ _ _),wn2,Ye,s120];refine⟨aH,aH,?_⟩;refine eI (aL (pieces ls) (vv ls (-1) 1 false) bv (by omega) (by omega) (by simp)) (by kernel_rfl:S.lone 6400960448=false) (.inr (ay (dp _))) fun c1 Yi v1 g1 Yo ZU=>?_
      obtain⟨r1,YT,Y0⟩:=g1.cn;have q0:=Yo 6400000000 (by decide);have q1:=Yo 6400640704 (by decide);have q2:=Yo 6400704832 (by decide);simp only[go_sem] at q0 q1 q2;simp only[go_sem,YS,q0,q1,YT,s120];refine eI (aL (bN (pieces ls) (vv ls (-1) 1 false) bv) (vv ls (-1) 1 true) av (by rw[aQ];omega) (by rw[aQ];simp;omega) (by simp)) (by kernel_rfl:S.lone 6400960704=false) (.inr (ay (dp _))) fun c2 Yg v2 g2 Yp ZE=>?_;simp only[go_sem];refine⟨?_,aS g2⟩;rcases Y0 with rfl|rfl<;>rcases ZU with rfl|rfl<;>rcases ZE with rfl|rfl<;>kernel_rfl
     have Ye:¬((av:Int)<(bv:Int)):=by omega
     have Yy:nW ls av bv true true false true=some (bN (bN (pieces ls) (vv ls (-1) 1 true) av) (vv ls (-1) 1 false) bv):=by simp[nW,Eh,AU,hAB,vv]
     rw[Yy];simp only[go_sem,YS,hs,s124,bl (pv3 _) (Zy _ _ _ _ _ _ _ _ _),bl (pv4 _) (Zy _ _ _ _ _ _ _ _ _),wn2,Ye,s120];refine⟨aH,aH,?_⟩;refine eI (aL (pieces ls) (vv ls (-1) 1 true) av (by omega) (by omega) (by simp)) (by kernel_rfl:S.lone 6401024448=false) (.inr (ay (dp _))) fun c1 Yi v1 g1 Yo ZU=>?_
     obtain⟨r1,YT,Y0⟩:=g1.cn;have q0:=Yo 6400000000 (by decide);have q1:=Yo 6400640704 (by decide);have q2:=Yo 6400704832 (by decide);simp only[go_sem] at q0 q1 q2;simp only[go_sem,YS,q0,q2,YT,s120];refine eI (aL (bN (pieces ls) (vv ls (-1) 1 true) av) (vv ls (-1) 1 false) bv (by rw[aQ];omega) (by rw[aQ];simp;omega) (by simp)) (by kernel_rfl:S.lone 6401024704=false) (.inr (ay (dp _))) fun c2 Yg v2 g2 Yp ZE=>?_;simp only[go_sem];refine⟨?_,aS g2⟩;rcases Y0 with rfl|rfl<;>rcases ZU with rfl|rfl<;>rcases ZE with rfl|rfl<;>kernel_rfl
  |false=>
   simp only[go_sem,i100,wz];refine⟨aH,aH,?_⟩;refine gi [0,3,4,5,6,7,8,9,40] fun e2 YM=>?_;simp only[go_sem] at YM;cases hs:((b0:Int)==(a0:Int)) with
   |true=>
    simp only[go_sem,YM,hs];refine⟨aH,?_⟩;by_cases hAB:av<bv
    .have Ye:((av:Int)<(bv:Int)):=by omega
     have Yy:nW ls av bv true false true ((b1:Int)==(a0:Int))=some (bN (bN (pieces ls) (ww ls (-1) 1 true) bv) (vv ls (-1) 1 false) av):=by simp[nW,Eh,AU,hAB,vv,ww]
     rw[Yy];simp only[go_sem,YM,hs,s124,bl (pv3 _) (Zy _ _ _ _ _ _ _ _ _),bl (pv4 _) (Zy _ _ _ _ _ _ _ _ _),wn2,Za];refine⟨aH,aH,?_⟩;refine hU (f:=126) (es:=d5 (vv ls (-1) 1 true)) (id:=6400704832) (ty:=gE) (z:=7) (fun o h=>gJ o (by simp) (mu _) h) (.inr ⟨by simp,_,rfl,by simp only[ae,Nat.reduceEqDiff,if_true,if_false];rfl⟩) fun blkr gr hbr=>?_;have br0:=hbr 6400000000 (by decide);have br1:=hbr 6400640704 (by decide);simp only[go_sem] at br0 br1;rcases gr with ⟨e,_⟩|⟨_,gg,e,ZA⟩
     .simp at e
     cases e;rw[show(d5 (vv ls (-1) 1 true)).reverse=d5 (ww ls (-1) 1 true) from rfl] at ZA;simp only[Pc.ps,aar,abb] at ZA;simp only[go_sem,YM,br0,ZA,Ye,s120];refine eI (aL (pieces ls) (ww ls (-1) 1 true) bv (by omega) (by omega) (by simp)) (by kernel_rfl:S.lone 6400960448=false) (.inr (ay (dp _))) fun c1 Yi v1 g1 Yo ZU=>?_
     obtain⟨r1,YT,Y0⟩:=g1.cn;have q0:=Yo 6400000000 (by decide);have q1:=Yo 6400640704 (by decide);have q2:=Yo 6400704832 (by decide);simp only[go_sem,br0,br1,ZA] at q0 q1 q2;simp only[go_sem,YM,q0,q1,YT,s120];refine eI (aL (bN (pieces ls) (ww ls (-1) 1 true) bv) (vv ls (-1) 1 false) av (by rw[aQ];omega) (by rw[aQ];simp;omega) (by simp)) (by kernel_rfl:S.lone 6400960704=false) (.inr (ay (dp _))) fun c2 Yg v2 g2 Yp ZE=>?_;simp only[go_sem];refine⟨?_,aS g2⟩;rcases Y0 with rfl|rfl<;>rcases ZU with rfl|rfl<;>rcases ZE with rfl|rfl<;>kernel_rfl
    have Ye:¬((av:Int)<(bv:Int)):=by omega
    have Yy:nW ls av bv true false true ((b1:Int)==(a0:Int))=some (bN (bN (pieces ls) (vv ls (-1) 1 false) av) (ww ls (-1) 1 true) bv):=by simp[nW,Eh,AU,hAB,vv,ww]
    rw[Yy];simp only[go_sem,YM,hs,s124,bl (pv3 _) (Zy _ _ _ _ _ _ _ _ _),bl (pv4 _) (Zy _ _ _ _ _ _ _ _ _),wn2,Za];refine⟨aH,aH,?_⟩;refine hU (f:=126) (es:=d5 (vv ls (-1) 1 true)) (id:=6400704832) (ty:=gE) (z:=7) (fun o h=>gJ o (by simp) (mu _) h) (.inr ⟨by simp,_,rfl,by simp only[ae,Nat.reduceEqDiff,if_true,if_false];rfl⟩) fun blkr gr hbr=>?_;have br0:=hbr 6400000000 (by decide);have br1:=hbr 6400640704 (by decide);simp only[go_sem] at br0 br1;rcases gr with ⟨e,_⟩|⟨_,gg,e,ZA⟩
    .simp at e
    cases e;rw[show(d5 (vv ls (-1) 1 true)).reverse=d5 (ww ls (-1) 1 true) from rfl] at ZA;simp only[Pc.ps,aar,abb] at ZA;simp only[go_sem,YM,br0,br1,Ye,s120];refine eI (aL (pieces ls) (vv ls (-1) 1 false) av (by omega) (by omega) (by simp)) (by kernel_rfl:S.lone 6401024448=false) (.inr (ay (dp _))) fun c1 Yi v1 g1 Yo ZU=>?_
    obtain⟨r1,YT,Y0⟩:=g1.cn;have q0:=Yo 6400000000 (by decide);have q1:=Yo 6400640704 (by decide);have q2:=Yo 6400704832 (by decide);simp only[go_sem,br0,br1,ZA] at q0 q1 q2;simp only[go_sem,YM,q0,q2,YT,s120];refine eI (aL (bN (pieces ls) (vv ls (-1) 1 false) av) (ww ls (-1) 1 true) bv (by rw[aQ];omega) (by rw[aQ];simp;omega) (by simp)) (by kernel_rfl:S.lone 6401024704=false) (.inr (ay (dp _))) fun c2 Yg v2 g2 Yp ZE=>?_;simp only[go_sem];refine⟨?_,aS g2⟩;rcases Y0 with rfl|rfl<;>rcases ZU with rfl|rfl<;>rcases ZE with rfl|rfl<;>kernel_rfl
   |false=>
    cases ho:((b1:Int)==(a0:Int)) with
    |false=>
     have hn:((b1:Int)!=(a0:Int))=true:=by simp only[bne,ho];rfl
     simp only[go_sem,wz,YM,hs,hn];first|rfl|exact aH|exact⟨aH,rfl⟩|exact⟨aH,aH,rfl⟩
    |true=>
     have hn:((b1:Int)!=(a0:Int))=false:=by simp only[bne,ho];rfl
     simp only[go_sem,wz,YM,hs,hn];refine⟨aH,?_⟩;by_cases hAB:av<bv
     .have Ye:((av:Int)<(bv:Int)):=by omega
      have Yy:nW ls av bv true false false true=some (bN (bN (pieces ls) (vv ls 1 (-1) true) bv) (vv ls 1 (-1) false) av):=by simp[nW,Eh,AU,hAB,vv]
      rw[Yy];simp only[go_sem,YM,hs,s124,bl (pv1 _) (Zy _ _ _ _ _ _ _ _ _),bl (pv2 _) (Zy _ _ _ _ _ _ _ _ _),wn1,Ye,s120];refine⟨aH,aH,?_⟩;refine eI (aL (pieces ls) (vv ls 1 (-1) true) bv (by omega) (by omega) (by simp)) (by kernel_rfl:S.lone 6400960448=false) (.inr (ay (dp _))) fun c1 Yi v1 g1 Yo ZU=>?_
      obtain⟨r1,YT,Y0⟩:=g1.cn;have q0:=Yo 6400000000 (by decide);have q1:=Yo 6400640704 (by decide);have q2:=Yo 6400704832 (by decide);simp only[go_sem] at q0 q1 q2;simp only[go_sem,YM,q0,q1,YT,s120];refine eI (aL (bN (pieces ls) (vv ls 1 (-1) true) bv) (vv ls 1 (-1) false) av (by rw[aQ];omega) (by rw[aQ];simp;omega) (by simp)) (by kernel_rfl:S.lone 6400960704=false) (.inr (ay (dp _))) fun c2 Yg v2 g2 Yp ZE=>?_;simp only[go_sem];refine⟨?_,aS g2⟩;rcases Y0 with rfl|rfl<;>rcases ZU with rfl|rfl<;>rcases ZE with rfl|rfl<;>kernel_rfl
     have Ye:¬((av:Int)<(bv:Int)):=by omega
     have Yy:nW ls av bv true false false true=some (bN (bN (pieces ls) (vv ls 1 (-1) false) av) (vv ls 1 (-1) true) bv):=by simp[nW,Eh,AU,hAB,vv]
     rw[Yy];simp only[go_sem,YM,hs,s124,bl (pv1 _) (Zy _ _ _ _ _ _ _ _ _),bl (pv2 _) (Zy _ _ _ _ _ _ _ _ _),wn1,Ye,s120];refine⟨aH,aH,?_⟩;refine eI (aL (pieces ls) (vv ls 1 (-1) false) av (by omega) (by omega) (by simp)) (by kernel_rfl:S.lone 6401024448=false) (.inr (ay (dp _))) fun c1 Yi v1 g1 Yo ZU=>?_
     obtain⟨r1,YT,Y0⟩:=g1.cn;have q0:=Yo 6400000000 (by decide);have q1:=Yo 6400640704 (by decide);have q2:=Yo 6400704832 (by decide);simp only[go_sem] at q0 q1 q2;simp only[go_sem,YM,q0,q2,YT,s120];refine eI (aL (bN (pieces ls) (vv ls 1 (-1) false) av) (vv ls 1 (-1) true) bv (by rw[aQ];omega) (by rw[aQ];simp;omega) (by simp)) (by kernel_rfl:S.lone 6401024704=false) (.inr (ay (dp _))) fun c2 Yg v2 g2 Yp ZE=>?_;simp only[go_sem];refine⟨?_,aS g2⟩;rcases Y0 with rfl|rfl<;>rcases ZU with rfl|rfl<;>rcases ZE with rfl|rfl<;>kernel_rfl
 |false=>
  rw[if_neg (by decide)];cases o with
  |true=>
   simp only[go_sem,i100,wz];refine⟨aH,aH,?_⟩;refine gi [0,3,4,5,6,7,8,9,40] fun e3 YI=>?_;simp only[go_sem] at YI;cases hs:((b1:Int)==(a1:Int)) with
   |true=>
    simp only[go_sem,YI,hs];refine⟨aH,?_⟩;by_cases hAB:av<bv
    .have Ye:((av:Int)<(bv:Int)):=by omega
     have Yy:nW ls av bv false true true ((b0:Int)==(a1:Int))=some (bN (bN (pieces ls) (ww ls (-1) 1 false) bv) (vv ls (-1) 1 true) av):=by simp[nW,Eh,AU,hAB,vv,ww]
     rw[Yy];simp only[go_sem,YI,hs,s124,bl (pv3 _) (Zy _ _ _ _ _ _ _ _ _),bl (pv4 _) (Zy _ _ _ _ _ _ _ _ _),wn2,Za];refine⟨aH,aH,?_⟩;refine hU (f:=126) (es:=d5 (vv ls (-1) 1 false)) (id:=6400704832) (ty:=gE) (z:=7) (fun o h=>gJ o (by simp) (mu _) h) (.inr ⟨by simp,_,rfl,by simp only[ae,Nat.reduceEqDiff,if_true,if_false];rfl⟩) fun blkr gr hbr=>?_;have br0:=hbr 6400000000 (by decide);have br1:=hbr 6400640704 (by decide);simp only[go_sem] at br0 br1;rcases gr with ⟨e,_⟩|⟨_,gg,e,ZA⟩
     .simp at e
     cases e;rw[show(d5 (vv ls (-1) 1 false)).reverse=d5 (ww ls (-1) 1 false) from rfl] at ZA;simp only[Pc.ps,aar,abb] at ZA;simp only[go_sem,YI,br0,ZA,Ye,s120];refine eI (aL (pieces ls) (ww ls (-1) 1 false) bv (by omega) (by omega) (by simp)) (by kernel_rfl:S.lone 6400960448=false) (.inr (ay (dp _))) fun c1 Yi v1 g1 Yo ZU=>?_
     obtain⟨r1,YT,Y0⟩:=g1.cn;have q0:=Yo 6400000000 (by decide);have q1:=Yo 6400640704 (by decide);have q2:=Yo 6400704832 (by decide);simp only[go_sem,br0,br1,ZA] at q0 q1 q2;simp only[go_sem,YI,q0,q1,YT,s120];refine eI (aL (bN (pieces ls) (ww ls (-1) 1 false) bv) (vv ls (-1) 1 true) av (by rw[aQ];omega) (by rw[aQ];simp;omega) (by simp)) (by kernel_rfl:S.lone 6400960704=false) (.inr (ay (dp _))) fun c2 Yg v2 g2 Yp ZE=>?_;simp only[go_sem];refine⟨?_,aS g2⟩;rcases Y0 with rfl|rfl<;>rcases ZU with rfl|rfl<;>rcases ZE with rfl|rfl<;>kernel_rfl
    have Ye:¬((av:Int)<(bv:Int)):=by omega
    have Yy:nW ls av bv false true true ((b0:Int)==(a1:Int))=some (bN (bN (pieces ls) (vv ls (-1) 1 true) av) (ww ls (-1) 1 false) bv):=by simp[nW,Eh,AU,hAB,vv,ww]
    rw[Yy];simp only[go_sem,YI,hs,s124,bl (pv3 _) (Zy _ _ _ _ _ _ _ _ _),bl (pv4 _) (Zy _ _ _ _ _ _ _ _ _),wn2,Za];refine⟨aH,aH,?_⟩;refine hU (f:=126) (es:=d5 (vv ls (-1) 1 false)) (id:=6400704832) (ty:=gE) (z:=7) (fun o h=>gJ o (by simp) (mu _) h) (.inr ⟨by simp,_,rfl,by simp only[ae,Nat.reduceEqDiff,if_true,if_false];rfl⟩) fun blkr gr hbr=>?_;have br0:=hbr 6400000000 (by decide);have br1:=hbr 6400640704 (by decide);simp only[go_sem] at br0 br1;rcases gr with ⟨e,_⟩|⟨_,gg,e,ZA⟩
    .simp at e
    cases e;rw[show(d5 (vv ls (-1) 1 false)).reverse=d5 (ww ls (-1) 1 false) from rfl] at ZA;simp only[Pc.ps,aar,abb] at ZA;simp only[go_sem,YI,br0,br1,Ye,s120];refine eI (aL (pieces ls) (vv ls (-1) 1 true) av (by omega) (by omega) (by simp)) (by kernel_rfl:S.lone 6401024448=false) (.inr (ay (dp _))) fun c1 Yi v1 g1 Yo ZU=>?_
    obtain⟨r1,YT,Y0⟩:=g1.cn;have q0:=Yo 6400000000 (by decide);have q1:=Yo 6400640704 (by decide);have q2:=Yo 6400704832 (by decide);simp only[go_sem,br0,br1,ZA] at q0 q1 q2;simp only[go_sem,YI,q0,q2,YT,s120];refine eI (aL (bN (pieces ls) (vv ls (-1) 1 true) av) (ww ls (-1) 1 false) bv (by rw[aQ];omega) (by rw[aQ];simp;omega) (by simp)) (by kernel_rfl:S.lone 6401024704=false) (.inr (ay (dp _))) fun c2 Yg v2 g2 Yp ZE=>?_;simp only[go_sem];refine⟨?_,aS g2⟩;rcases Y0 with rfl|rfl<;>rcases ZU with rfl|rfl<;>rcases ZE with rfl|rfl<;>kernel_rfl
   |false=>
    cases ho:((b0:Int)==(a1:Int)) with
    |false=>
     have hn:((b0:Int)!=(a1:Int))=true:=by simp only[bne,ho];rfl
     simp only[go_sem,wz,YI,hs,hn];first|rfl|exact aH|exact⟨aH,rfl⟩|exact⟨aH,aH,rfl⟩
    |true=>
     have hn:((b0:Int)!=(a1:Int))=false:=by simp only[bne,ho];rfl
     simp only[go_sem,wz,YI,hs,hn];refine⟨aH,?_⟩;by_cases hAB:av<bv
     .have Ye:((av:Int)<(bv:Int)):=by omega
      have Yy:nW ls av bv false true false true=some (bN (bN (pieces ls) (vv ls 1 (-1) false) bv) (vv ls 1 (-1) true) av):=by simp[nW,Eh,AU,hAB,vv]
      rw[Yy];simp only[go_sem,YI,hs,s124,bl (pv1 _) (Zy _ _ _ _ _ _ _ _ _),bl (pv2 _) (Zy _ _ _ _ _ _ _ _ _),wn1,Ye,s120];refine⟨aH,aH,?_⟩;refine eI (aL (pieces ls) (vv ls 1 (-1) false) bv (by omega) (by omega) (by simp)) (by kernel_rfl:S.lone 6400960448=false) (.inr (ay (dp _))) fun c1 Yi v1 g1 Yo ZU=>?_
      obtain⟨r1,YT,Y0⟩:=g1.cn;have q0:=Yo 6400000000 (by decide);have q1:=Yo 6400640704 (by decide);have q2:=Yo 6400704832 (by decide);simp only[go_sem] at q0 q1 q2;simp only[go_sem,YI,q0,q1,YT,s120];refine eI (aL (bN (pieces ls) (vv ls 1 (-1) false) bv) (vv ls 1 (-1) true) av (by rw[aQ];omega) (by rw[aQ];simp;omega) (by simp)) (by kernel_rfl:S.lone 6400960704=false) (.inr (ay (dp _))) fun c2 Yg v2 g2 Yp ZE=>?_;simp only[go_sem];refine⟨?_,aS g2⟩;rcases Y0 with rfl|rfl<;>rcases ZU with rfl|rfl<;>rcases ZE with rfl|rfl<;>kernel_rfl
     have Ye:¬((av:Int)<(bv:Int)):=by omega
     have Yy:nW ls av bv false true false true=some (bN (bN (pieces ls) (vv ls 1 (-1) true) av) (vv ls 1 (-1) false) bv):=by simp[nW,Eh,AU,hAB,vv]
     rw[Yy];simp only[go_sem,YI,hs,s124,bl (pv1 _) (Zy _ _ _ _ _ _ _ _ _),bl (pv2 _) (Zy _ _ _ _ _ _ _ _ _),wn1,Ye,s120];refine⟨aH,aH,?_⟩;refine eI (aL (pieces ls) (vv ls 1 (-1) true) av (by omega) (by omega) (by simp)) (by kernel_rfl:S.lone 6401024448=false) (.inr (ay (dp _))) fun c1 Yi v1 g1 Yo ZU=>?_
     obtain⟨r1,YT,Y0⟩:=g1.cn;have q0:=Yo 6400000000 (by decide);have q1:=Yo 6400640704 (by decide);have q2:=Yo 6400704832 (by decide);simp only[go_sem] at q0 q1 q2;simp only[go_sem,YI,q0,q2,YT,s120];refine eI (aL (bN (pieces ls) (vv ls 1 (-1) true) av) (vv ls 1 (-1) false) bv (by rw[aQ];omega) (by rw[aQ];simp;omega) (by simp)) (by kernel_rfl:S.lone 6401024704=false) (.inr (ay (dp _))) fun c2 Yg v2 g2 Yp ZE=>?_;simp only[go_sem];refine⟨?_,aS g2⟩;rcases Y0 with rfl|rfl<;>rcases ZU with rfl|rfl<;>rcases ZE with rfl|rfl<;>kernel_rfl
  |false=>
   simp only[go_sem,i100,wz];refine⟨aH,aH,?_⟩;refine gi [0,3,4,5,6,7,8,9,40] fun e4 YX=>?_;simp only[go_sem] at YX;cases hs:((b1:Int)==(a1:Int)) with
   |true=>
    simp only[go_sem,YX,hs];refine⟨aH,?_⟩;by_cases hAB:av<bv
    .have Ye:((av:Int)<(bv:Int)):=by omega
     have Yy:nW ls av bv false false true ((b0:Int)==(a1:Int))=some (bN (bN (pieces ls) (ww ls 1 (-1) true) bv) (vv ls 1 (-1) false) av):=by simp[nW,Eh,AU,hAB,vv,ww]
     rw[Yy];simp only[go_sem,YX,hs,s124,bl (pv1 _) (Zy _ _ _ _ _ _ _ _ _),bl (pv2 _) (Zy _ _ _ _ _ _ _ _ _),wn1,Za];refine⟨aH,aH,?_⟩;refine hU (f:=126) (es:=d5 (vv ls 1 (-1) true)) (id:=6400704832) (ty:=gE) (z:=7) (fun o h=>gJ o (by simp) (mu _) h) (.inr ⟨by simp,_,rfl,by simp only[ae,Nat.reduceEqDiff,if_true,if_false];rfl⟩) fun blkr gr hbr=>?_;have br0:=hbr 6400000000 (by decide);have br1:=hbr 6400640704 (by decide);simp only[go_sem] at br0 br1;rcases gr with ⟨e,_⟩|⟨_,gg,e,ZA⟩
     .simp at e
     cases e;rw[show(d5 (vv ls 1 (-1) true)).reverse=d5 (ww ls 1 (-1) true) from rfl] at ZA;simp only[Pc.ps,aar,abb] at ZA;simp only[go_sem,YX,br0,ZA,Ye,s120];refine eI (aL (pieces ls) (ww ls 1 (-1) true) bv (by omega) (by omega) (by simp)) (by kernel_rfl:S.lone 6400960448=false) (.inr (ay (dp _))) fun c1 Yi v1 g1 Yo ZU=>?_
     obtain⟨r1,YT,Y0⟩:=g1.cn;have q0:=Yo 6400000000 (by decide);have q1:=Yo 6400640704 (by decide);have q2:=Yo 6400704832 (by decide);simp only[go_sem,br0,br1,ZA] at q0 q1 q2;simp only[go_sem,YX,q0,q1,YT,s120];refine eI (aL (bN (pieces ls) (ww ls 1 (-1) true) bv) (vv ls 1 (-1) false) av (by rw[aQ];omega) (by rw[aQ];simp;omega) (by simp)) (by kernel_rfl:S.lone 6400960704=false) (.inr (ay (dp _))) fun c2 Yg v2 g2 Yp ZE=>?_;simp only[go_sem];refine⟨?_,aS g2⟩;rcases Y0 with rfl|rfl<;>rcases ZU with rfl|rfl<;>rcases ZE with rfl|rfl<;>kernel_rfl
    have Ye:¬((av:Int)<(bv:Int)):=by omega
    have Yy:nW ls av bv false false true ((b0:Int)==(a1:Int))=some (bN (bN (pieces ls) (vv ls 1 (-1) false) av) (ww ls 1 (-1) true) bv):=by simp[nW,Eh,AU,hAB,vv,ww]
    rw[Yy];simp only[go_sem,YX,hs,s124,bl (pv1 _) (Zy _ _ _ _ _ _ _ _ _),bl (pv2 _) (Zy _ _ _ _ _ _ _ _ _),wn1,Za];refine⟨aH,aH,?_⟩;refine hU (f:=126) (es:=d5 (vv ls 1 (-1) true)) (id:=6400704832) (ty:=gE) (z:=7) (fun o h=>gJ o (by simp) (mu _) h) (.inr ⟨by simp,_,rfl,by simp only[ae,Nat.reduceEqDiff,if_true,if_false];rfl⟩) fun blkr gr hbr=>?_;have br0:=hbr 6400000000 (by decide);have br1:=hbr 6400640704 (by decide);simp only[go_sem] at br0 br1;rcases gr with ⟨e,_⟩|⟨_,gg,e,ZA⟩
    .simp at e
    cases e;rw[show(d5 (vv ls 1 (-1) true)).reverse=d5 (ww ls 1 (-1) true) from rfl] at ZA;simp only[Pc.ps,aar,abb] at ZA;simp only[go_sem,YX,br0,br1,Ye,s120];refine eI (aL (pieces ls) (vv ls 1 (-1) false) av (by omega) (by omega) (by simp)) (by kernel_rfl:S.lone 6401024448=false) (.inr (ay (dp _))) fun c1 Yi v1 g1 Yo ZU=>?_
    obtain⟨r1,YT,Y0⟩:=g1.cn;have q0:=Yo 6400000000 (by decide);have q1:=Yo 6400640704 (by decide);have q2:=Yo 6400704832 (by decide);simp only[go_sem,br0,br1,ZA] at q0 q1 q2;simp only[go_sem,YX,q0,q2,YT,s120];refine eI (aL (bN (pieces ls) (vv ls 1 (-1) false) av) (ww ls 1 (-1) true) bv (by rw[aQ];omega) (by rw[aQ];simp;omega) (by simp)) (by kernel_rfl:S.lone 6401024704=false) (.inr (ay (dp _))) fun c2 Yg v2 g2 Yp ZE=>?_;simp only[go_sem];refine⟨?_,aS g2⟩;rcases Y0 with rfl|rfl<;>rcases ZU with rfl|rfl<;>rcases ZE with rfl|rfl<;>kernel_rfl
   |false=>
    cases ho:((b0:Int)==(a1:Int)) with
    |false=>
     have hn:((b0:Int)!=(a1:Int))=true:=by simp only[bne,ho];rfl
     simp only[go_sem,wz,YX,hs,hn];first|rfl|exact aH|exact⟨aH,rfl⟩|exact⟨aH,aH,rfl⟩
    |true=>
     have hn:((b0:Int)!=(a1:Int))=false:=by simp only[bne,ho];rfl
     simp only[go_sem,wz,YX,hs,hn];refine⟨aH,?_⟩;by_cases hAB:av<bv
     .have Ye:((av:Int)<(bv:Int)):=by omega
      have Yy:nW ls av bv false false false true=some (bN (bN (pieces ls) (vv ls (-1) 1 true) bv) (vv ls (-1) 1 false) av):=by simp[nW,Eh,AU,hAB,vv]
      rw[Yy];simp only[go_sem,YX,hs,s124,bl (pv3 _) (Zy _ _ _ _ _ _ _ _ _),bl (pv4 _) (Zy _ _ _ _ _ _ _ _ _),wn2,Ye,s120];refine⟨aH,aH,?_⟩;refine eI (aL (pieces ls) (vv ls (-1) 1 true) bv (by omega) (by omega) (by simp)) (by kernel_rfl:S.lone 6400960448=false) (.inr (ay (dp _))) fun c1 Yi v1 g1 Yo ZU=>?_
      obtain⟨r1,YT,Y0⟩:=g1.cn;have q0:=Yo 6400000000 (by decide);have q1:=Yo 6400640704 (by decide);have q2:=Yo 6400704832 (by decide);simp only[go_sem] at q0 q1 q2;simp only[go_sem,YX,q0,q1,YT,s120];refine eI (aL (bN (pieces ls) (vv ls (-1) 1 true) bv) (vv ls (-1) 1 false) av (by rw[aQ];omega) (by rw[aQ];simp;omega) (by simp)) (by kernel_rfl:S.lone 6400960704=false) (.inr (ay (dp _))) fun c2 Yg v2 g2 Yp ZE=>?_;simp only[go_sem];refine⟨?_,aS g2⟩;rcases Y0 with rfl|rfl<;>rcases ZU with rfl|rfl<;>rcases ZE with rfl|rfl<;>kernel_rfl
     have Ye:¬((av:Int)<(bv:Int)):=by omega
     have Yy:nW ls av bv false false false true=some (bN (bN (pieces ls) (vv ls (-1) 1 false) av) (vv ls (-1) 1 true) bv):=by simp[nW,Eh,AU,hAB,vv]
     rw[Yy];simp only[go_sem,YX,hs,s124,bl (pv3 _) (Zy _ _ _ _ _ _ _ _ _),bl (pv4 _) (Zy _ _ _ _ _ _ _ _ _),wn2,Ye,s120];refine⟨aH,aH,?_⟩;refine eI (aL (pieces ls) (vv ls (-1) 1 false) av (by omega) (by omega) (by simp)) (by kernel_rfl:S.lone 6401024448=false) (.inr (ay (dp _))) fun c1 Yi v1 g1 Yo ZU=>?_
     obtain⟨r1,YT,Y0⟩:=g1.cn;have q0:=Yo 6400000000 (by decide);have q1:=Yo 6400640704 (by decide);have q2:=Yo 6400704832 (by decide);simp only[go_sem] at q0 q1 q2;simp only[go_sem,YX,q0,q2,YT,s120];refine eI (aL (bN (pieces ls) (vv ls (-1) 1 false) av) (vv ls (-1) 1 true) bv (by rw[aQ];omega) (by rw[aQ];simp;omega) (by simp)) (by kernel_rfl:S.lone 6401024704=false) (.inr (ay (dp _))) fun c2 Yg v2 g2 Yp ZE=>?_;simp only[go_sem];refine⟨?_,aS g2⟩;rcases Y0 with rfl|rfl<;>rcases ZU with rfl|rfl<;>rcases ZE with rfl|rfl<;>kernel_rfl
end
abbrev zZ(F:Nat):V:=.agg [.p (.int .i64 F),.p (.sl [])]
theorem zz:¬(((0:Int))<((0:Nat):Int)):=by decide
theorem zm:IntKind.i64.wrap (2*((0:Nat):Int))=((0:Nat):Int):=by decide
theorem zr:(0:Nat)<=140737488355328:=by decide
theorem zr8:(0:Nat)*8<=140737488355328:=by decide
section
variable {F:Nat}
theorem VY(hF:F<=40):aO (F:Int) []=0:=by unfold aO;rw[if_neg (by simp[ao]),if_neg (by omega),if_pos rfl]
theorem WP(hF:F<=40):bz S 19 [zZ F] (uU (P0 F) (.int .i64 0)):=by have pr:=CW F [] (aae _);rw[lK (VY hF),if_pos rfl] at pr;exact pr
theorem V6:bz S 91 [.one (.p (P0 F))] (.one (.own 4 1 [])):=by refine aP c91 ?_;simp only[go_sem,i91];refine fT ?_;simp only[go_sem,i91_l1,i91_r2,zz];rfl
theorem VR(hF:F<=40):bz S 72 [zZ F] (.tup [.one (aD AX 5 []),.one (.p (.int .i64 0))]):=by
 have pr:=WP hF;have hLB:∀X9:aE,land X9 [] 4608384064 ((RV.one (.own 4 1 [])).bZ (S.lone 4608384064))=some (.one (.hsl 4608384064 ((X9 4608384064).1+1) 1 0 0),[(4608384064,((X9 4608384064).1+1,some (.arr 4 1 [])))]):=by intro X9;rw[show S.lone 4608384064=false by kernel_rfl];rfl
 refine aP c72 ?_;simp only[go_sem,i72,s19,au pr aU,s91,au V6 (hLB _),zm,zr];refine fT ?_;simp only[go_sem,i72_l1,i72_r2,zz];rfl
theorem T0(hF:F<=40):bz S 46 [zZ F] (uU (fp F []) (.int .i64 0)):=by
 have pf:=VR hF;have pps:bz S 73 [zZ F] (ri ((0:Nat):Int)):=yN F [] (aae _);have pcs:bz S 74 [zZ F] (ri ((0:Nat):Int)):=wH F [] (aae _);have lo:S.lone 2944064064=false:=by kernel_rfl
 have wF:=ah (n:=F) (by omega);have r2:(F+1)*8<=140737488355328:=by omega
 have e2:List.replicate (F+1) [PV.int .i64 0]=nP (counts [] F):=by rw[<- qN,aaA,o9];simp
 refine aP c46 ?_;simp only[go_sem,i46,s72];refine PA pf lo fun cf YZ hcf Zq=>?_;have b00:=Zq 2944000000 (by decide);simp only[go_sem] at b00;obtain⟨_,hv⟩|⟨h,_⟩:=hcf
 .cases hv;simp only[go_sem,b00,wF,r2,zm,zr,s73,s74,dU pps,dU pcs,e2];refine⟨aH,?_⟩;refine fT ?_;simp only[go_sem,i46_l1,i46_r6,zz];refine fT ?_;simp only[go_sem,i46_l4,i46_r5,zz];have t2:List.take (F+1) (nP (counts [] F))=nP (counts [] F):=aaD (by simp[counts]);have n2:F+1<=(counts [] F).length:=by simp[counts]
  simp only[go_sem,iE,lW,jH,fE,gK,jg,t2,n2];rfl
 exact absurd rfl h
end
section
variable {F:Nat}
theorem wz1:IntKind.i64.wrap (1:Int)=1:=by decide
theorem wz2:IntKind.i64.wrap (2:Int)=2:=by decide
abbrev V4(F:Nat):V:=.one (.p (.box [.int .i64 F,.sl [],.sl [],.sl [],.int .i64 ((0:Nat):Int),.int .i64 ((0:Nat):Int),.sl (nP (counts [] F))]))
theorem Wd{b:Nat}(hb:b<=F):bz S 75 [V4 F,oG 2 0 b 0 false false 0] (rb true):=by
 have hil:bz S 93 [vi 0,.one (.p (.box [.int .i64 ((0:Nat):Int)]))] (rb false):=Xx 0 0;have hca:=dQ (jI (ls:=[]) hb);have h1:(0:Int)<=(b:Int):=by omega
 have h2:(b:Int)<=(F:Int):=by omega
 have h4:(0:Int)<=(cg [] b:Int):=by omega
 have h5:b<F+1:=by omega
 have h6:(counts [] F).length=F+1:=by simp[counts]
 have h7:(((0:Nat):Int)==0)=true:=by decide
 refine aP c75 ?_;simp only[go_sem,i75,s93,dF hil,hca,h1,h2,h4,h7];exact aH
abbrev Ck(b:Nat):List Pc:=[⟨⟨1,b,1,0,0,false⟩,true⟩,⟨⟨1,b,2,0,0,false⟩,false⟩]
theorem MQ{b:Nat}{l o:Bool}{sg:Int}:bz S 95 [V4 F,oG 2 0 b 0 l o sg] (kR (some (Ck b))):=by
 have h7:(((0:Nat):Int)==0)=true:=by decide
 refine aP c95 ?_;simp only[go_sem,i95,h7,wz1,wz2];rfl
end
theorem XK{F:Nat}{ls:List Let}(hlen:ls.length<=400)(YV:ao Let.aw ls<=200){a b c:Int}{l o:Bool}{sg:Int}{res:Option (List Pc)}(ha:bz S 75 [.one (.p (fp F ls)),oG 2 a b c l o sg] (rb true))(hm:bz S 95 [.one (.p (fp F ls)),oG 2 a b c l o sg] (kR res))(hL:∀L,res=some L->L.length<=1000000):
  bz S 47 [.one (.p (fp F ls)),oG 2 a b c l o sg] (IL F ls 2 res):=by
 have Z3:=zC F;have pg:=Ke 2;have lo1:S.lone 3008192384=false:=by kernel_rfl
 have lo2:S.lone 3008576128=false:=by kernel_rfl
 have hlk:∀(X9:aE),land X9 [] 3008192000 ((RV.agg [.p .YF,.p (.fn 94 [] []),.p (.fn 95 [] []),.p (.fn 96 [] []),.p (.fn 97 [] []),.p (.fn 98 [] []),.p (.fn 99 [] []),.p (.fn 100 [] []),.p (.fn 101 [] []),.p (.fn 102 [] []),.p (.fn 102 [] [])]).bZ (S.lone 3008192000))=some (.agg [.p .YF,.p (.fn 94 [] []),.p (.fn 95 [] []),.p (.fn 96 [] []),.p (.fn 97 [] []),.p (.fn 98 [] []),.p (.fn 99 [] []),.p (.fn 100 [] []),.p (.fn 101 [] []),.p (.fn 102 [] []),.p (.fn 102 [] [])],[]):=fun X9=>by cases S.lone 3008192000<;>rfl
 have Yu:=aB ls;have w1:IntKind.i64.wrap (((pieces ls).length:Int)+(ce 2).1)=(ls.length:Int)+(ce 2).1:=by rw[Yu];exact jT (by simp only[ce];simp;omega) (by simp only[ce];simp;omega)
 have w2:IntKind.i64.wrap (((ao Let.aw ls/2:Nat):Int)+(ce 2).2)=((ao Let.aw ls/2:Nat):Int)+(ce 2).2:=jT (by simp only[ce];simp;omega) (by simp only[ce];simp;omega);have lg:∀X9:aE,land X9 [] 3008384128 ((RV.tup [.one (.p (.int .i64 (ce 2).1)),.one (.p (.int .i64 (ce 2).2))]).bZ (S.lone 3008384128))=some (.tup [.one (.p (.int .i64 (ce 2).1)),.one (.p (.int .i64 (ce 2).2))],[]):=fun X9=>aU;unfold kR at hm;refine aP c47 ?_;simp only[go_sem,i47,s75,az ha,s76,bl JX (hlk _),s95];refine Qd hm lo1 fun cc Yi w gc hb hw=>?_;have b0:=hb 3008000000 (by decide);have b1:=hb 3008000064 (by decide);simp only[go_sem] at b0 b1;cases res with
 |none=>simp only[go_sem,b1];refine⟨?_,rfl⟩;rcases hw with rfl|rfl<;>kernel_rfl
 |some L=>
  simp only[aaS] at gc;have pfin:=Z3 L (hL L rfl) (.sl (d5 (pieces ls))) (.sl (zE (aT F ls))) (.sl (nP (dX F ls))) (.int .i64 (ao Let.aA ls:Nat)) (.int .i64 ((ao Let.aw ls/2:Nat):Int)) (.sl (nP (counts ls F)));obtain⟨rs,hsn,_⟩:=gc.cn;by_cases h1:(400:Int)<(ls.length:Int)+(ce 2).1
  .rw[show IL F ls 2 (some L)=ji 7 from if_pos (.inl h1)];simp only[go_sem,b0,b1,s77,au pg (lg _),w1,h1];refine⟨?_,rfl⟩;rcases hw with rfl|rfl<;>kernel_rfl
  by_cases h2:(100:Int)<((ao Let.aw ls/2:Nat):Int)+(ce 2).2
  .rw[show IL F ls 2 (some L)=ji 7 from if_pos (.inr h2)];simp only[go_sem,b0,b1,s77,au pg (lg _),w1,w2,h1,h2];refine⟨?_,rfl⟩;rcases hw with rfl|rfl<;>kernel_rfl
  rw[show IL F ls 2 (some L)=sR F (mT L) from if_neg (by rintro (h|h);exact h1 h;exact h2 h)];simp only[go_sem,b0,s77,au pg (lg _),w1,w2,h1,h2,hsn,s78];refine⟨?_,?_⟩
  .rcases hw with rfl|rfl<;>kernel_rfl
  refine UC pfin lo2 rfl (yy _) fun c2 Yg gc2 Yp=>?_;have b02:=(Yp 3008000064 (by decide)).trans b1;simp only[go_sem,b02];exact lT (gc2.of_eq (af (by decide)))
abbrev Gz(b:Nat):List Let:=[⟨1,b,1,0,0,false⟩,⟨1,b,2,0,0,false⟩]
theorem Qi(b:Nat):mT (Ck b)=Gz b:=by unfold mT;rw[show jm (Ck b)=some 0 from rfl];rfl
theorem doR0(F b:Nat):IL F [] 2 (some (Ck b))=sR F (Gz b):=by rw[<- Qi];rfl
theorem XL{F b:Nat}(hb:b<=F):bz S 47 [V4 F,oG 2 0 b 0 false false 0] (sR F (Gz b)):=by have:=XK (F:=F) (ls:=[]) (by decide) (by decide) (a:=0) (b:=b) (c:=0) (l:=false) (o:=false) (sg:=0) (res:=some (Ck b)) (Wd hb) MQ (fun L h=>by cases h;exact(by simp:(Ck b).length<=1000000));rw[doR0] at this;exact this
theorem QB{F b:Nat}(hF:F<=40)(hb:b<=F):bz S 23 [zZ F,oG 2 0 b 0 false false 0] (sR F (Gz b)):=by
 have po:bz S 46 [zZ F] (uU (.box [.int .i64 F,.sl [],.sl [],.sl [],.int .i64 ((0:Nat):Int),.int .i64 ((0:Nat):Int),.sl (nP (counts [] F))]) (.int .i64 0)):=T0 hF;have hd:=XL hb;have lo:S.lone 1472256128=false:=by kernel_rfl
 refine aP c23 ?_;simp only[go_sem,i23,s46,au po aU,s47];refine Pz hd lo fun cc Yi gc hb=>?_;have b4:=hb 1472000128 (by decide);simp only[go_sem] at b4;simp only[go_sem,b4];exact lT (gc.of_eq (af (by decide)))
end Go.Abs
