/- A part. -/
import Derived.Test.YtkfngecllhhooaaGreatDoorWs
set_option linter.all false
set_option maxRecDepth 100000
set_option maxHeartbeats 16000000
namespace Go.Abs
theorem xm(a b:Nat):(a==b)=((a:Int)==(b:Int)):=by
 by_cases h:a=b
 .simp[h]
 have:(a==b)=false:=by simpa using h
 rw[this];symm;simp;omega
def Sh(F:Nat)(ls:List Let)(av bv:Nat):Option (List Pc):=
 if ((uT ls av true&&uT ls bv false)||(uT ls av false&&uT ls bv true))&&(!((pA ls av).l.id==(pA ls (nx ls av)).l.id)&&
  (((((pA ls bv).l.id==(pA ls av).l.id)&&((pA ls (nx ls bv)).l.id==(pA ls (nx ls av)).l.id))||(((pA ls bv).l.id==(pA ls (nx ls av)).l.id)&&((pA ls (nx ls bv)).l.id==(pA ls av).l.id)))&&
  (!((av+2)%ls.length==bv)&&(!((bv+2)%ls.length==av)&&kV F ls 0 [av,bv] av))))
 then some (Cu (pieces ls) [(pA ls av).l.id,(pA ls (nx ls av)).l.id]) else none
theorem Ml{F:Nat}{ls:List Let}(g:cV F ls){av bv:Nat}(ha:av<ls.length)(hb:bv<ls.length){k c:Int}{l o:Bool}{sg:Int}:
  aP S 90 [.one (.p (dE F ls)),rQ k av bv c l o sg] (kR (Sh F ls av bv)):=by
 have hlen:=g.len;have hpl:=aB ls;have pe1:=o9 g ha;have pe2:=o9 g hb;have hm1:=aaN (av+1) (show 0<ls.length by omega);have hm2:=aaN (bv+1) (show 0<ls.length by omega);have pc:=zS g [av,bv] (by simp) (e0:=av) rfl ha 0;simp only[aaK,abi] at pc;have c0:((0:Nat):Int)=0:=rfl;rw[c0] at pc;have b1:=vJ g ha true;have b2:=vJ g hb false;have b3:=vJ g ha false;have b4:=vJ g hb true;obtain⟨P,hP⟩:=ao (ls:=pieces ls) (k:=av) (by omega);obtain⟨P2,hP2⟩:=ao (ls:=pieces ls) (k:=(av+1)%ls.length) (by omega)
 obtain⟨Q,hQ⟩:=ao (ls:=pieces ls) (k:=bv) (by omega);obtain⟨Q2,hQ2⟩:=ao (ls:=pieces ls) (k:=(bv+1)%ls.length) (by omega);have hap:=dd hP;have arA:=dd hP2;have hbp:=dd hQ;have arv:=dd hQ2;have hz:¬((ls.length:Int)=0):=by omega
 have e2w:IntKind.i64.wrap ((av:Int)+2)=((av+2:Nat):Int):=(jT (x:=(av:Int)+2) (by omega) (by omega)).trans (by omega);have e2m:=iv (av+2) ls.length;have e3w:IntKind.i64.wrap ((bv:Int)+2)=((bv+2:Nat):Int):=(jT (x:=(bv:Int)+2) (by omega) (by omega)).trans (by omega);have e3m:=iv (bv+2) ls.length;have lo:S.lone 5760704448=false:=by kernel_rfl
 have pd:=Ct (pieces ls) [P.l.id,P2.l.id] (by omega) (by simp) (F4 g);simp only[aaK,abi] at pd;have x3:uT ls av true=true->uT ls av false=false:=fun x1=>by
  unfold uT at x1 ⊢;rw[eD hP] at x1 ⊢;simp only[aay] at x1;have:P.l.over=true:=by simpa using x1.2.2.1
  simp[this]
 unfold Sh;rw[eD hP,eD hQ,eD hP2,eD hQ2,xm,xm];have wz:=And.intro hap (And.intro hbp (And.intro arA (And.intro arv (And.intro ha (And.intro hb (And.intro hm1 (And.intro hm2 (And.intro hpl (And.intro e2w (And.intro e2m (And.intro hz (And.intro e3w e3m))))))))))));refine aJ c90 ?_;simp only[go_sem,i90,s116,au b1,wz];refine aU [0,3,4,5,6,7,22] fun e1 h1=>?_;have ahC:=h1 0 (by decide);have ahA:=h1 3 (by decide);have alT:=h1 4 (by decide);have alS:=h1 5 (by decide);have alR:=h1 6 (by decide);have alQ:=h1 7 (by decide);have ahB:=h1 22 (by decide);simp only[go_sem] at ahC ahA alT alS alR alQ ahB;cases x1:uT ls av true with
 |true=>
  simp only[go_sem,s116,au b2,ahC,ahA,ahB,x1];refine aU [0,3,4,5,6,7,28] fun e2 h2=>?_;have ajo:=h2 0 (by decide);have ajn:=h2 3 (by decide);have alP:=h2 4 (by decide);have alO:=h2 5 (by decide);have aoo:=h2 6 (by decide);have aon:=h2 7 (by decide);have aho:=h2 28 (by decide);simp only[go_sem,ahC,ahA,alT,alS,alR,alQ] at ajo ajn alP alO aoo aon aho;cases x2:uT ls bv false with
  |false=>have x3':=x3 x1;simp only[go_sem,s116,au b3,ajo,ajn,alP,alO,aho,x2,x3'];first|rfl|exact aK|exact⟨aK,rfl⟩|exact⟨aK,aK,rfl⟩
  |true=>
  simp only[go_sem,s105,aq pe1 aN,aq pe2 aN,wz,Pc.ps,ajo,ajn,aon,aho,x2];refine⟨aK,?_⟩;refine aU [0,3,4,5,6,9,10,11,12,76] fun e3 h3=>?_;have alN:=h3 0 (by decide);have aom:=h3 3 (by decide);have alM:=h3 4 (by decide);have alL:=h3 5 (by decide);have aol:=h3 6 (by decide);have alK:=h3 9 (by decide);have aj7:=h3 10 (by decide);have ahn:=h3 11 (by decide);have aj6:=h3 12 (by decide);have aft:=h3 76 (by decide);simp only[go_sem,ajo,ajn,alP,alO,aoo] at alN aom alM alL aol alK aj7 ahn aj6 aft;cases c1:(P.l.id==P2.l.id) with
  |true=>simp only[go_sem,alM,alL,aft,c1];first|rfl|exact aK|exact⟨aK,rfl⟩|exact⟨aK,aK,rfl⟩
  |false=>
  simp only[go_sem,wz,Pc.ps,alN,alK,ahn,aft,c1];refine aU [0,3,4,5,6,9,10,11,12,76,88] fun e4 h4=>?_;have ahm:=h4 0 (by decide);have alJ:=h4 3 (by decide);have alI:=h4 4 (by decide);have alH:=h4 5 (by decide);have alG:=h4 6 (by decide);have alF:=h4 9 (by decide);have afs:=h4 10 (by decide);have ahl:=h4 11 (by decide);have aeq:=h4 12 (by decide);have aep:=h4 76 (by decide);have ahk:=h4 88 (by decide);simp only[go_sem,alN,aom,alM,alL,aol,alK,aj7,ahn,aj6,aft,c1] at ahm alJ alI alH alG alF afs ahl aeq aep ahk;cases c2:(Q.l.id==P.l.id) with
  |true=>
   have c4:(Q.l.id==P2.l.id)=false:=by
    have h1:Q.l.id=P.l.id:=by simpa using c2
    rw[h1];exact c1
   simp only[go_sem,wz,Pc.ps,ahm,afs,aeq,aep,ahk,c2];refine aU [0,3,4,5,6,9,10,11,12,76,101] fun e5 h5=>?_;have alE:=h5 0 (by decide);have alD:=h5 3 (by decide);have alA:=h5 4 (by decide);have alz:=h5 5 (by decide);have aly:=h5 6 (by decide);have aoj:=h5 9 (by decide);have aok:=h5 10 (by decide);have aj5:=h5 11 (by decide);have ahj:=h5 12 (by decide);have ahi:=h5 76 (by decide);have aeW:=h5 101 (by decide);simp only[go_sem,ahm,alJ,alI,alH,alG,alF,afs,ahl,aeq,aep] at alE alD alA alz aly aoj aok aj5 ahj ahi aeW;cases c3:(Q2.l.id==P2.l.id) with
   |false=>simp only[go_sem,wz,Pc.ps,alE,alA,alz,aoj,ahj,ahi,aeW,c3,c4];first|rfl|exact aK|exact⟨aK,rfl⟩|exact⟨aK,aK,rfl⟩
   |true=>
   simp only[go_sem,wz,alD,aly,ahi,aeW,c3];refine jk [0,3,4,5,6,11,12,137] fun e6 h6=>?_;have aoi:=h6 0 (by decide);have alx:=h6 3 (by decide);have alw:=h6 4 (by decide);have alv:=h6 5 (by decide);have aoh:=h6 6 (by decide);have aj4:=h6 11 (by decide);have aj3:=h6 12 (by decide);have aeV:=h6 137 (by decide);simp only[go_sem,alE,alD,alA,alz,aly,aj5,ahj] at aoi alx alw alv aoh aj4 aj3 aeV;cases d1:((((av+2)%ls.length:Nat):Int)==(bv:Int)) with
   |true=>simp only[go_sem,alw,alv,aeV,d1];first|rfl|exact aK|exact⟨aK,rfl⟩|exact⟨aK,aK,rfl⟩
   |false=>
   simp only[go_sem,wz,alx,aoh,aeV,d1];refine jk [0,3,4,5,11,12,147] fun e7 h7=>?_;have alu:=h7 0 (by decide);have alt:=h7 3 (by decide);have als:=h7 4 (by decide);have alr:=h7 5 (by decide);have aj2:=h7 11 (by decide);have aj1:=h7 12 (by decide);have adD:=h7 147 (by decide);simp only[go_sem,aoi,alx,alw,alv,aj4,aj3] at alu alt als alr aj2 aj1 adD;cases d2:((((bv+2)%ls.length:Nat):Int)==(av:Int)) with
   |true=>simp only[go_sem,als,alr,adD,d2];first|rfl|exact aK|exact⟨aK,rfl⟩|exact⟨aK,aK,rfl⟩
   |false=>
   cases d3:kV F ls 0 [av,bv] av with
   |false=>rw[d3] at pc;simp only[go_sem,s113,fe pc,alu,alt,als,alr,adD,d2];first|rfl|exact aK|exact⟨aK,rfl⟩|exact⟨aK,aK,rfl⟩
   |true=>rw[d3] at pc;simp only[go_sem,s113,fe pc,s114,alu,alt,aj2,aj1,adD,d2];refine⟨aK,?_⟩;refine jg pd lo (.inr (bG (tQ _))) fun cc aao gc hbk=>?_;simp only[go_sem];exact eF gc
  |false=>
   simp only[go_sem,wz,Pc.ps,ahm,alF,aeq,aep,ahk,c2];refine aU [0,3,4,5,6,10,11,12,76,101,113] fun e8 h8=>?_;have alq:=h8 0 (by decide);have aog:=h8 3 (by decide);have alp:=h8 4 (by decide);have alo:=h8 5 (by decide);have aof:=h8 6 (by decide);have aj0:=h8 10 (by decide);have ahh:=h8 11 (by decide);have ajZ:=h8 12 (by decide);have ahg:=h8 76 (by decide);have aeU:=h8 101 (by decide);have aeT:=h8 113 (by decide);simp only[go_sem,ahm,alJ,alI,alH,alG,afs,ahl,aeq,aep] at alq aog alp alo aof aj0 ahh ajZ ahg aeU aeT;cases c4:(Q.l.id==P2.l.id) with
   |false=>simp only[go_sem,alp,alo,ahg,aeU,aeT,c4];first|rfl|exact aK|exact⟨aK,rfl⟩|exact⟨aK,aK,rfl⟩
   |true=>
   simp only[go_sem,wz,Pc.ps,alq,aj0,ahh,ahg,aeU,aeT,c4];refine Rc [0,3,4,5,6,11,12] fun e9 h9=>?_;have aoe:=h9 0 (by decide);have aln:=h9 3 (by decide);have alm:=h9 4 (by decide);have alk:=h9 5 (by decide);have alj:=h9 6 (by decide);have ajY:=h9 11 (by decide);have ajX:=h9 12 (by decide);simp only[go_sem,alq,aog,alp,alo,aof,ahh,ajZ] at aoe aln alm alk alj ajY ajX;cases c5:(Q2.l.id==P.l.id) with
   |false=>simp only[go_sem,alm,alk];first|rfl|exact aK|exact⟨aK,rfl⟩|exact⟨aK,aK,rfl⟩
   |true=>
   simp only[go_sem,wz,aln,alj];refine jk [0,3,4,5,6,11,12,137] fun e10 h10=>?_;have akl:=h10 0 (by decide);have aio:=h10 3 (by decide);have ain:=h10 4 (by decide);have aim:=h10 5 (by decide);have akk:=h10 6 (by decide);have aiq:=h10 11 (by decide);have aip:=h10 12 (by decide);have adL:=h10 137 (by decide);simp only[go_sem,aoe,aln,alm,alk,alj,ajY,ajX] at akl aio ain aim akk aiq aip adL;cases d1:((((av+2)%ls.length:Nat):Int)==(bv:Int)) with
   |true=>simp only[go_sem,ain,aim,adL,d1];first|rfl|exact aK|exact⟨aK,rfl⟩|exact⟨aK,aK,rfl⟩
   |false=>
   simp only[go_sem,wz,aio,akk,adL,d1];refine jk [0,3,4,5,11,12,147] fun e11 h11=>?_;have ail:=h11 0 (by decide);have aii:=h11 3 (by decide);have aih:=h11 4 (by decide);have aig:=h11 5 (by decide);have aik:=h11 11 (by decide);have aij:=h11 12 (by decide);have acQ:=h11 147 (by decide);simp only[go_sem,akl,aio,ain,aim,aiq,aip] at ail aii aih aig aik aij acQ;cases d2:((((bv+2)%ls.length:Nat):Int)==(av:Int)) with
   |true=>simp only[go_sem,aih,aig,acQ,d2];first|rfl|exact aK|exact⟨aK,rfl⟩|exact⟨aK,aK,rfl⟩
   |false=>
   cases d3:kV F ls 0 [av,bv] av with
   |false=>rw[d3] at pc;simp only[go_sem,s113,fe pc,ail,aii,aih,aig,acQ,d2];first|rfl|exact aK|exact⟨aK,rfl⟩|exact⟨aK,aK,rfl⟩
   |true=>rw[d3] at pc;simp only[go_sem,s113,fe pc,s114,ail,aii,aik,aij,acQ,d2];refine⟨aK,?_⟩;refine jg pd lo (.inr (bG (tQ _))) fun cc aao gc hbk=>?_;simp only[go_sem];exact eF gc
 |false=>
  simp only[go_sem,s116,au b3,ahC,ahA,ahB,x1];refine aU [0,3,4,5,6,7,28,33] fun e12 h12=>?_;have afx:=h12 0 (by decide);have afw:=h12 3 (by decide);have afv:=h12 4 (by decide);have afu:=h12 5 (by decide);have akj:=h12 6 (by decide);have aki:=h12 7 (by decide);have ae5:=h12 28 (by decide);have ae4:=h12 33 (by decide);simp only[go_sem,ahC,ahA,alT,alS,alR,alQ] at afx afw afv afu akj aki ae5 ae4;cases x4:uT ls av false with
  |false=>simp only[go_sem,afv,afu,ae5,ae4,x4];first|rfl|exact aK|exact⟨aK,rfl⟩|exact⟨aK,aK,rfl⟩
  |true=>
  simp only[go_sem,s116,au b4,afx,afw,ae5,ae4,x4];cases x5:uT ls bv true with
  |false=>simp only[go_sem,afv,afu];first|rfl|exact aK|exact⟨aK,rfl⟩|exact⟨aK,aK,rfl⟩
  |true=>
  simp only[go_sem,s105,aq pe1 aN,aq pe2 aN,wz,Pc.ps,afx,afw,aki];refine⟨aK,?_⟩;refine aU [0,3,4,5,6,9,10,11,12,76] fun e13 h13=>?_;have aif:=h13 0 (by decide);have akh:=h13 3 (by decide);have aic:=h13 4 (by decide);have aib:=h13 5 (by decide);have akg:=h13 6 (by decide);have aia:=h13 9 (by decide);have aie:=h13 10 (by decide);have ae3:=h13 11 (by decide);have aid:=h13 12 (by decide);have adK:=h13 76 (by decide);simp only[go_sem,afx,afw,afv,afu,akj] at aif akh aic aib akg aia aie ae3 aid adK;cases c1:(P.l.id==P2.l.id) with
  |true=>simp only[go_sem,aic,aib,adK,c1];first|rfl|exact aK|exact⟨aK,rfl⟩|exact⟨aK,aK,rfl⟩
  |false=>
  simp only[go_sem,wz,Pc.ps,aif,aia,ae3,adK,c1];refine aU [0,3,4,5,6,9,10,11,12,76,88] fun e14 h14=>?_;have aer:=h14 0 (by decide);have ah9:=h14 3 (by decide);have ah8:=h14 4 (by decide);have ah7:=h14 5 (by decide);have ah6:=h14 6 (by decide);have ah5:=h14 9 (by decide);have adJ:=h14 10 (by decide);have ae2:=h14 11 (by decide);have ac0:=h14 12 (by decide);have acZ:=h14 76 (by decide);have ae1:=h14 88 (by decide);simp only[go_sem,aif,akh,aic,aib,akg,aia,aie,ae3,aid,adK,c1] at aer ah9 ah8 ah7 ah6 ah5 adJ ae2 ac0 acZ ae1;cases c2:(Q.l.id==P.l.id) with
  |true=>
   have c4:(Q.l.id==P2.l.id)=false:=by
    have h1:Q.l.id=P.l.id:=by simpa using c2
    rw[h1];exact c1
   simp only[go_sem,wz,Pc.ps,aer,adJ,ac0,acZ,ae1,c2];refine aU [0,3,4,5,6,9,10,11,12,76,101] fun e15 h15=>?_;have ah4:=h15 0 (by decide);have ah2:=h15 3 (by decide);have ah1:=h15 4 (by decide);have ah0:=h15 5 (by decide);have ahZ:=h15 6 (by decide);have akf:=h15 9 (by decide);have alU:=h15 10 (by decide);have ah3:=h15 11 (by decide);have ae0:=h15 12 (by decide);have aeZ:=h15 76 (by decide);have adI:=h15 101 (by decide);simp only[go_sem,aer,ah9,ah8,ah7,ah6,ah5,adJ,ae2,ac0,acZ] at ah4 ah2 ah1 ah0 ahZ akf alU ah3 ae0 aeZ adI;cases c3:(Q2.l.id==P2.l.id) with
   |false=>simp only[go_sem,wz,Pc.ps,ah4,ah1,ah0,akf,ae0,aeZ,adI,c3,c4];first|rfl|exact aK|exact⟨aK,rfl⟩|exact⟨aK,aK,rfl⟩
   |true=>
   simp only[go_sem,wz,ah2,ahZ,aeZ,adI,c3];refine jk [0,3,4,5,6,11,12,137] fun e16 h16=>?_;have ake:=h16 0 (by decide);have ahW:=h16 3 (by decide);have ahV:=h16 4 (by decide);have ahU:=h16 5 (by decide);have akd:=h16 6 (by decide);have ahY:=h16 11 (by decide);have ahX:=h16 12 (by decide);have adH:=h16 137 (by decide);simp only[go_sem,ah4,ah2,ah1,ah0,ahZ,ah3,ae0] at ake ahW ahV ahU akd ahY ahX adH;cases d1:((((av+2)%ls.length:Nat):Int)==(bv:Int)) with
   |true=>simp only[go_sem,ahV,ahU,adH,d1];first|rfl|exact aK|exact⟨aK,rfl⟩|exact⟨aK,aK,rfl⟩
   |false=>
   simp only[go_sem,wz,ahW,akd,adH,d1];refine jk [0,3,4,5,11,12,147] fun e17 h17=>?_;have ahT:=h17 0 (by decide);have ahQ:=h17 3 (by decide);have ahP:=h17 4 (by decide);have ahO:=h17 5 (by decide);have ahS:=h17 11 (by decide);have ahR:=h17 12 (by decide);have acP:=h17 147 (by decide);simp only[go_sem,ake,ahW,ahV,ahU,ahY,ahX] at ahT ahQ ahP ahO ahS ahR acP;cases d2:((((bv+2)%ls.length:Nat):Int)==(av:Int)) with
   |true=>simp only[go_sem,ahP,ahO,acP,d2];first|rfl|exact aK|exact⟨aK,rfl⟩|exact⟨aK,aK,rfl⟩
   |false=>
   cases d3:kV F ls 0 [av,bv] av with
   |false=>rw[d3] at pc;simp only[go_sem,s113,fe pc,ahT,ahQ,ahP,ahO,acP,d2];first|rfl|exact aK|exact⟨aK,rfl⟩|exact⟨aK,aK,rfl⟩
   |true=>rw[d3] at pc;simp only[go_sem,s113,fe pc,s114,ahT,ahQ,ahS,ahR,acP,d2];refine⟨aK,?_⟩;refine jg pd lo (.inr (bG (tQ _))) fun cc aao gc hbk=>?_;simp only[go_sem];exact eF gc
  |false=>
   simp only[go_sem,wz,Pc.ps,aer,ah5,ac0,acZ,ae1,c2];refine aU [0,3,4,5,6,10,11,12,76,101,113] fun e18 h18=>?_;have ahN:=h18 0 (by decide);have akc:=h18 3 (by decide);have ahK:=h18 4 (by decide);have ahJ:=h18 5 (by decide);have akb:=h18 6 (by decide);have ahM:=h18 10 (by decide);have aeY:=h18 11 (by decide);have ahL:=h18 12 (by decide);have aeX:=h18 76 (by decide);have adG:=h18 101 (by decide);have adF:=h18 113 (by decide);simp only[go_sem,aer,ah9,ah8,ah7,ah6,adJ,ae2,ac0,acZ] at ahN akc ahK ahJ akb ahM aeY ahL aeX adG adF;cases c4:(Q.l.id==P2.l.id) with
   |false=>simp only[go_sem,ahK,ahJ,aeX,adG,adF,c4];first|rfl|exact aK|exact⟨aK,rfl⟩|exact⟨aK,aK,rfl⟩
   |true=>
   simp only[go_sem,wz,Pc.ps,ahN,ahM,aeY,aeX,adG,adF,c4];refine Rc [0,3,4,5,6,11,12] fun e19 h19=>?_;have aka:=h19 0 (by decide);have ahG:=h19 3 (by decide);have ahF:=h19 4 (by decide);have ahE:=h19 5 (by decide);have ahD:=h19 6 (by decide);have ahI:=h19 11 (by decide);have ahH:=h19 12 (by decide);simp only[go_sem,ahN,akc,ahK,ahJ,akb,aeY,ahL] at aka ahG ahF ahE ahD ahI ahH;cases c5:(Q2.l.id==P.l.id) with
   |false=>simp only[go_sem,ahF,ahE];first|rfl|exact aK|exact⟨aK,rfl⟩|exact⟨aK,aK,rfl⟩
   |true=>
   simp only[go_sem,wz,ahG,ahD];refine jk [0,3,4,5,6,11,12,137] fun e20 h20=>?_;have aj9:=h20 0 (by decide);have ahx:=h20 3 (by decide);have ahw:=h20 4 (by decide);have ahv:=h20 5 (by decide);have aj8:=h20 6 (by decide);have ahz:=h20 11 (by decide);have ahy:=h20 12 (by decide);have adE:=h20 137 (by decide);simp only[go_sem,aka,ahG,ahF,ahE,ahD,ahI,ahH] at aj9 ahx ahw ahv aj8 ahz ahy adE;cases d1:((((av+2)%ls.length:Nat):Int)==(bv:Int)) with
   |true=>simp only[go_sem,ahw,ahv,adE,d1];first|rfl|exact aK|exact⟨aK,rfl⟩|exact⟨aK,aK,rfl⟩
   |false=>
   simp only[go_sem,wz,ahx,aj8,adE,d1];refine jk [0,3,4,5,11,12,147] fun e21 h21=>?_;have ahu:=h21 0 (by decide);have ahr:=h21 3 (by decide);have ahq:=h21 4 (by decide);have ahp:=h21 5 (by decide);have aht:=h21 11 (by decide);have ahs:=h21 12 (by decide);have acO:=h21 147 (by decide);simp only[go_sem,aj9,ahx,ahw,ahv,ahz,ahy] at ahu ahr ahq ahp aht ahs acO;cases d2:((((bv+2)%ls.length:Nat):Int)==(av:Int)) with
   |true=>simp only[go_sem,ahq,ahp,acO,d2];first|rfl|exact aK|exact⟨aK,rfl⟩|exact⟨aK,aK,rfl⟩
   |false=>
   cases d3:kV F ls 0 [av,bv] av with
   |false=>rw[d3] at pc;simp only[go_sem,s113,fe pc,ahu,ahr,ahq,ahp,acO,d2];first|rfl|exact aK|exact⟨aK,rfl⟩|exact⟨aK,aK,rfl⟩
   |true=>rw[d3] at pc;simp only[go_sem,s113,fe pc,s114,ahu,ahr,aht,ahs,acO,d2];refine⟨aK,?_⟩;refine jg pd lo (.inr (bG (tQ _))) fun cc aao gc hbk=>?_;simp only[go_sem];exact eF gc
theorem MQ{Q:cU}{env:Env}{blk:aw}{os:List aj}{d:Option Nat}{f id ty z:Nat}{es:List (List PV)}{c:C}(akD:∀ {al:Al} {blk:aw},es=[]\/al.ok id=true->grown id ty z es (.one c) blk->∃v aaf,nQ S f [.one c] al blk v aaf/\s0 id ty z es c blk v aaf)(hg:grown id ty z es (.one c) blk)
  (hK:∀aaf,grown id ty z es.reverse (.one c) aaf->(∀i,i≠id->aaf i=blk i)->RN S .all os Q (put env d (.tup [])) aaf):gP S .all (.sc f [.one c]) d os Q env blk:=by
 refine gb (P:=s0 id ty z es c blk) fy (akD ?_ hg) ?_
 .rcases mj hg with ⟨h,_⟩|h
  .exact .inl h
  exact .inr (dA (by simp[h]))
 rintro v aaf ⟨rfl,h1,h2⟩
 exact hK aaf h1 h2
abbrev Ya(x k:Nat)(sg:Int)(ov:Bool):Pc:=⟨⟨2,0,0,((x+k:Nat):Int),sg,ov⟩,false⟩
abbrev Vx(F:Nat)(ls:List Let)(d:Nat):Nat:=(gG F ls).getD d 0
abbrev pmF(x:Nat)(sg:Int)(o:Bool):List Pc:=[Ya x 1 sg o,Ya x 2 (-sg) o]
abbrev pmS(x:Nat)(sg:Int)(o same:Bool):List Pc:=if same then [Ya x 2 (-sg) (!o),Ya x 1 sg (!o)] else [Ya x 1 sg (!o),Ya x 2 (-sg) (!o)]
def pmV(ls:List Let)(av bv:Nat)(l o same other:Bool):Option (List Pc):=
 if !same&& !other then none
 else
  let sg:Int:=if o==(same==l) then 1 else -1
  let first:=pmF (aA Let.aD ls/2) sg o
  let second:=pmS (aA Let.aD ls/2) sg o same
  some (if av<bv then wA (wA (pieces ls) second bv) first av else wA (wA (pieces ls) first av) second bv)
def pmR(F:Nat)(ls:List Let)(av bv:Nat)(l o:Bool):Option (List Pc):=
 if l then pmV ls av bv l o ((Vx F ls (2*bv):Int)==(Vx F ls (2*av):Int)) ((Vx F ls (2*bv+1):Int)==(Vx F ls (2*av):Int))
 else pmV ls av bv l o ((Vx F ls (2*bv+1):Int)==(Vx F ls (2*av+1):Int)) ((Vx F ls (2*bv):Int)==(Vx F ls (2*av+1):Int))
abbrev zW(F:Nat):V:=.agg [.p (.int .i64 F),.p (.sl [])]
theorem zz:¬(((0:Int))<((0:Nat):Int)):=by decide
theorem zm:IntKind.i64.wrap (2*((0:Nat):Int))=((0:Nat):Int):=by decide
theorem zr:(0:Nat)<=140737488355328:=by decide
theorem zr8:(0:Nat)*8<=140737488355328:=by decide
section
variable {F:Nat}
theorem XE(hF:F<=40):ay (F:Int) []=0:=by unfold ay;rw[if_neg (by simp[aA]),if_neg (by omega),if_pos rfl]
theorem Yx(hF:F<=40):aP S 20 [zW F] (tS (QP F) (.int .i64 0)):=by have pr:=Dp F [] (aan _);rw[lO (XE hF),if_pos rfl] at pr;exact pr
theorem XK:aP S 82 [.one (.p (QP F))] (.one (.own 4 1 [])):=by refine aJ c82 ?_;simp only[go_sem,i82];refine dQ ?_;simp only[go_sem,i82_l1,i82_r2,zz];rfl
theorem Xq(hF:F<=40):aP S 68 [zW F] (.tup [.one (ah A1 5 []),.one (.p (.int .i64 0))]):=by
 have pr:=Yx hF;have hLB:∀blk:aw,land blk [] 4352384064 ((RV.one (.own 4 1 [])).bn (S.lone 4352384064))=some (.one (.hsl 4352384064 ((blk 4352384064).1+1) 1 0 0),[(4352384064,((blk 4352384064).1+1,some (.arr 4 1 [])))]):=by intro blk;rw[show S.lone 4352384064=false by kernel_rfl];rfl
 refine aJ c68 ?_;simp only[go_sem,i68,s20,aq pr aN,s82,aq XK (hLB _),zm,zr];refine dQ ?_;simp only[go_sem,i68_l1,i68_r2,zz];rfl
theorem Pd(hF:F<=40):aP S 55 [zW F] (tS (dE F []) (.int .i64 0)):=by
 have pf:=Xq hF;have pps:aP S 66 [zW F] (ri ((0:Nat):Int)):=yA F [] (aan _);have pcs:aP S 69 [zW F] (ri ((0:Nat):Int)):=wH F [] (aan _);have lo:S.lone 3520064064=false:=by kernel_rfl
 have wF:=ak (n:=F) (by omega);have r2:(F+1)*8<=140737488355328:=by omega
 have e2:List.replicate (F+1) [PV.int .i64 0]=nP (counts [] F):=by rw[<- qV,aaL,pz];simp
 refine aJ c55 ?_;simp only[go_sem,i55,s68];refine Qw pf lo fun cf abf hcf hb0=>?_;have b00:=hb0 3520000000 (by decide);simp only[go_sem] at b00;obtain⟨_,hv⟩|⟨h,_⟩:=hcf
 .cases hv;simp only[go_sem,b00,wF,r2,zm,zr,s66,s69,gh pps,gh pcs,e2];refine⟨aK,?_⟩;refine dQ ?_;simp only[go_sem,i55_l1,i55_r6,zz];refine dQ ?_;simp only[go_sem,i55_l4,i55_r5,zz];have t2:List.take (F+1) (nP (counts [] F))=nP (counts [] F):=aa4 (by simp[counts]);have n2:F+1<=(counts [] F).length:=by simp[counts]
  simp only[go_sem,fH,jv,ii,ef,fJ,fR,t2,n2];rfl
 exact absurd rfl h
end
section
variable {F:Nat}
theorem wz1:IntKind.i64.wrap (1:Int)=1:=by decide
theorem wz2:IntKind.i64.wrap (2:Int)=2:=by decide
abbrev XJ(F:Nat):V:=.one (.p (.box [.int .i64 F,.sl [],.sl [],.sl [],.int .i64 ((0:Nat):Int),.int .i64 ((0:Nat):Int),.sl (nP (counts [] F))]))
theorem XP{b:Nat}(hb:b<=F):aP S 70 [XJ F,rQ 2 0 b 0 false false 0] (rb true):=by
 have hil:aP S 84 [vi 0,.one (.p (.box [.int .i64 ((0:Nat):Int)]))] (rb false):=Zq 0 0;have hca:=eZ (nJ (ls:=[]) hb);have h1:(0:Int)<=(b:Int):=by omega
 have h2:(b:Int)<=(F:Int):=by omega
 have h4:(0:Int)<=(cg [] b:Int):=by omega
 have h5:b<F+1:=by omega
 have h6:(counts [] F).length=F+1:=by simp[counts]
 have h7:(((0:Nat):Int)==0)=true:=by decide
 refine aJ c70 ?_;simp only[go_sem,i70,s84,fe hil,hca,h1,h2,h4,h7];exact aK
abbrev CA(b:Nat):List Pc:=[⟨⟨1,b,1,0,0,false⟩,true⟩,⟨⟨1,b,2,0,0,false⟩,false⟩]
theorem Nl{b:Nat}{l o:Bool}{sg:Int}:aP S 86 [XJ F,rQ 2 0 b 0 l o sg] (kR (some (CA b))):=by
 have h7:(((0:Nat):Int)==0)=true:=by decide
 refine aJ c86 ?_;simp only[go_sem,i86,h7,wz1,wz2];rfl
end
theorem ZH{F:Nat}{ls:List Let}(hlen:ls.length<=400)(hcr:aA Let.aD ls<=200){a b c:Int}{l o:Bool}{sg:Int}{res:Option (List Pc)}(ha:aP S 70 [.one (.p (dE F ls)),rQ 2 a b c l o sg] (rb true))(hm:aP S 86 [.one (.p (dE F ls)),rQ 2 a b c l o sg] (kR res))(hL:∀L,res=some L->L.length<=1000000):
  aP S 56 [.one (.p (dE F ls)),rQ 2 a b c l o sg] (GD F ls 2 res):=by
 have acq:=zt F;have pg:=Kt 2;have lo1:S.lone 3584192384=false:=by kernel_rfl
 have lo2:S.lone 3584576128=false:=by kernel_rfl
 have hlk:∀(blk:aw),land blk [] 3584192000 ((RV.agg [.p .aaI,.p (.fn 85 [] []),.p (.fn 86 [] []),.p (.fn 87 [] []),.p (.fn 88 [] []),.p (.fn 89 [] []),.p (.fn 90 [] []),.p (.fn 91 [] []),.p (.fn 92 [] []),.p (.fn 93 [] []),.p (.fn 93 [] [])]).bn (S.lone 3584192000))=some (.agg [.p .aaI,.p (.fn 85 [] []),.p (.fn 86 [] []),.p (.fn 87 [] []),.p (.fn 88 [] []),.p (.fn 89 [] []),.p (.fn 90 [] []),.p (.fn 91 [] []),.p (.fn 92 [] []),.p (.fn 93 [] []),.p (.fn 93 [] [])],[]):=fun blk=>by cases S.lone 3584192000<;>rfl
 have hpl:=aB ls;have w1:IntKind.i64.wrap (((pieces ls).length:Int)+(bK 2).1)=(ls.length:Int)+(bK 2).1:=by rw[hpl];exact jT (by simp only[bK];simp;omega) (by simp only[bK];simp;omega)
 have w2:IntKind.i64.wrap (((aA Let.aD ls/2:Nat):Int)+(bK 2).2)=((aA Let.aD ls/2:Nat):Int)+(bK 2).2:=jT (by simp only[bK];simp;omega) (by simp only[bK];simp;omega);have lg:∀blk:aw,land blk [] 3584384128 ((RV.tup [.one (.p (.int .i64 (bK 2).1)),.one (.p (.int .i64 (bK 2).2))]).bn (S.lone 3584384128))=some (.tup [.one (.p (.int .i64 (bK 2).1)),.one (.p (.int .i64 (bK 2).2))],[]):=fun blk=>aN;unfold kR at hm;refine aJ c56 ?_;simp only[go_sem,i56,s70,au ha,s71,r9 Kn (hlk _),s86];refine QU hm lo1 fun cc aao w gc hb hw=>?_;have b0:=hb 3584000000 (by decide);have b1:=hb 3584000064 (by decide);simp only[go_sem] at b0 b1;cases res with
 |none=>simp only[go_sem,b1];refine⟨?_,rfl⟩;rcases hw with rfl|rfl<;>kernel_rfl
 |some L=>
  simp only[abv] at gc;have pfin:=acq L (hL L rfl) (.sl (hJ (pieces ls))) (.sl (Gq (aW F ls))) (.sl (nP (gG F ls))) (.int .i64 (aA Let.aH ls:Nat)) (.int .i64 ((aA Let.aD ls/2:Nat):Int)) (.sl (nP (counts ls F)));obtain⟨rs,hsn,_⟩:=gc.cG;by_cases h1:(400:Int)<(ls.length:Int)+(bK 2).1
  .rw[show GD F ls 2 (some L)=gE 7 from if_pos (.inl h1)];simp only[go_sem,b0,b1,s72,aq pg (lg _),w1,h1];refine⟨?_,rfl⟩;rcases hw with rfl|rfl<;>kernel_rfl
  by_cases h2:(100:Int)<((aA Let.aD ls/2:Nat):Int)+(bK 2).2
  .rw[show GD F ls 2 (some L)=gE 7 from if_pos (.inr h2)];simp only[go_sem,b0,b1,s72,aq pg (lg _),w1,w2,h1,h2];refine⟨?_,rfl⟩;rcases hw with rfl|rfl<;>kernel_rfl
  rw[show GD F ls 2 (some L)=jr F (lf L) from if_neg (by rintro (h|h);exact h1 h;exact h2 h)];simp only[go_sem,b0,s72,aq pg (lg _),w1,w2,h1,h2,hsn,s73];refine⟨?_,?_⟩
  .rcases hw with rfl|rfl<;>kernel_rfl
  refine V5 pfin lo2 rfl (qw _) fun c2 aal gc2 hb2=>?_;have b02:=(hb2 3584000064 (by decide)).trans b1;simp only[go_sem,b02];exact lT (gc2.of_eq (af (by decide)))
abbrev GN(b:Nat):List Let:=[⟨1,b,1,0,0,false⟩,⟨1,b,2,0,0,false⟩]
theorem Q3(b:Nat):lf (CA b)=GN b:=by unfold lf;rw[show ij (CA b)=some 0 from rfl];rfl
theorem doR0(F b:Nat):GD F [] 2 (some (CA b))=jr F (GN b):=by rw[<- Q3];rfl
theorem ZI{F b:Nat}(hb:b<=F):aP S 56 [XJ F,rQ 2 0 b 0 false false 0] (jr F (GN b)):=by have:=ZH (F:=F) (ls:=[]) (by decide) (by decide) (a:=0) (b:=b) (c:=0) (l:=false) (o:=false) (sg:=0) (res:=some (CA b)) (XP hb) Nl (fun L h=>by cases h;exact(by simp:(CA b).length<=1000000));rw[doR0] at this;exact this
theorem Rr{F b:Nat}(hF:F<=40)(hb:b<=F):aP S 38 [zW F,rQ 2 0 b 0 false false 0] (jr F (GN b)):=by
 have po:aP S 55 [zW F] (tS (.box [.int .i64 F,.sl [],.sl [],.sl [],.int .i64 ((0:Nat):Int),.int .i64 ((0:Nat):Int),.sl (nP (counts [] F))]) (.int .i64 0)):=Pd hF;have hd:=ZI hb;have lo:S.lone 2432256128=false:=by kernel_rfl
 refine aJ c38 ?_;simp only[go_sem,i38,s55,aq po aN,s56];refine KA hd lo fun cc aao gc hb=>?_;have b4:=hb 2432000128 (by decide);simp only[go_sem] at b4;simp only[go_sem,b4];exact lT (gc.of_eq (af (by decide)))
end Go.Abs
