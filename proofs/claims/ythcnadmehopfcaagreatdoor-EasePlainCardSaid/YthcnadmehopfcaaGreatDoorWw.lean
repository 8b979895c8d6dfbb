/- A part. -/
import Derived.Test.YthcnadmehopfcaaGreatDoorWs
set_option linter.all false
set_option maxRecDepth 100000
set_option maxHeartbeats 16000000
namespace Go.Abs
theorem Qs(a b:Nat):(a==b)=((a:Int)==(b:Int)):=by
 by_cases h:a=b
 .simp[h]
 have:(a==b)=false:=by simpa using h
 rw[this];symm;simp;omega
def vO(F:Nat)(ls:List Let)(av bv:Nat):Option (List Pc):=
 if ((jU ls av true&&jU ls bv false)||(jU ls av false&&jU ls bv true))&&(!((pA ls av).l.id==(pA ls (nx ls av)).l.id)&&
  (((((pA ls bv).l.id==(pA ls av).l.id)&&((pA ls (nx ls bv)).l.id==(pA ls (nx ls av)).l.id))||(((pA ls bv).l.id==(pA ls (nx ls av)).l.id)&&((pA ls (nx ls bv)).l.id==(pA ls av).l.id)))&&
  (!((av+2)%ls.length==bv)&&(!((bv+2)%ls.length==av)&&pY F ls 0 [av,bv] av))))
 then some (IH (pieces ls) [(pA ls av).l.id,(pA ls (nx ls av)).l.id]) else none
theorem aqY{F:Nat}{ls:List Let}(g:cH F ls){av bv:Nat}(ha:av<ls.length)(hb:bv<ls.length){k c:Int}{l o:Bool}{sg:Int}:
  aK S 117 [.one (.p (eQ F ls)),oD k av bv c l o sg] (kR (vO F ls av bv)):=by
 have hlen:=g.len;have bU:=gG ls;have pe1:=Cl g ha;have pe2:=Cl g hb;have lM:=dO (av+1) (show 0<ls.length by omega);have sM:=dO (bv+1) (show 0<ls.length by omega);have pc:=Te g [av,bv] af (e0:=av) rfl ha 0;simp only[dK,j7] at pc;have c0:((0:Nat):Int)=0:=rfl;rw[c0] at pc;have b1:=Io g ha true;have b2:=Io g hb false;have b3:=Io g ha false;have b4:=Io g hb true;obtain⟨P,hP⟩:=aM (ls:=pieces ls) (k:=av) aa;obtain⟨P2,hP2⟩:=aM (ls:=pieces ls) (k:=(av+1)%ls.length) aa;obtain⟨Q,hQ⟩:=aM (ls:=pieces ls) (k:=bv) aa;obtain⟨Q2,hQ2⟩:=aM (ls:=pieces ls) (k:=(bv+1)%ls.length) aa;have ni:=jJ hP;have anq:=jJ hP2;have ki:=jJ hQ;have anv:=jJ hQ2;have hz:¬((ls.length:Int)=0):=aa
 have e2w:IntKind.i64.wrap ((av:Int)+2)=((av+2:Nat):Int):=(vX (x:=(av:Int)+2) aa aa).trans aa;have e2m:=uU (av+2) ls.length;have e3w:IntKind.i64.wrap ((bv:Int)+2)=((bv+2:Nat):Int):=(vX (x:=(bv:Int)+2) aa aa).trans aa;have e3m:=uU (bv+2) ls.length;have lo:S.lone 7488704448=false:=ah;have pd:=aaG (pieces ls) [P.l.id,P2.l.id] aa af (ady g);simp only[dK,j7] at pd;have x3:jU ls av true=true->jU ls av false=false:=fun x1=>by
  unfold jU at x1 ⊢;rw[jZ hP] at x1 ⊢;simp only[cN] at x1;have:P.l.over=true:=by simpa using x1.2.2.1
  simp[this]
 unfold vO;rw[jZ hP,jZ hQ,jZ hP2,jZ hQ2,Qs,Qs];have wz:=And.intro ni (And.intro ki (And.intro anq (And.intro anv (And.intro ha (And.intro hb (And.intro lM (And.intro sM (And.intro bU (And.intro e2w (And.intro e2m (And.intro hz (And.intro e3w e3m))))))))))));refine bh c117 ?_;simp only[go_sem,i117,s150,dA b1,wz];refine iK [0,3,4,5,6,7,22] fun e1 h1=>?_;have Ma:=h1 0 ae;have Mb:=h1 3 ae;have Up:=h1 4 ae;have Uq:=h1 5 ae;have Ur:=h1 6 ae;have Us:=h1 7 ae;have Uo:=h1 22 ae;simp only[go_sem] at Ma Mb Up Uq Ur Us Uo;cases x1:jU ls av true with
 |true=>
  simp only[go_sem,s150,dA b2,Ma,Mb,Uo,x1];refine iK [0,3,4,5,6,7,28] fun e2 h2=>?_;have Pq:=h2 0 ae;have Pr:=h2 3 ae;have UC:=h2 4 ae;have UD:=h2 5 ae;have abz:=h2 6 ae;have abA:=h2 7 ae;have UB:=h2 28 ae;simp only[go_sem,Ma,Mb,Up,Uq,Ur,Us] at Pq Pr UC UD abz abA UB;cases x2:jU ls bv false with
  |false=>have x3':=x3 x1;simp only[go_sem,s150,dA b3,Pq,Pr,UC,UD,UB,x2,x3'];first|rfl|exact aH|exact⟨aH,rfl⟩|exact⟨aH,aH,rfl⟩
  |true=>
  simp only[go_sem,s139,cV pe1 gR,cV pe2 gR,wz,Pc.ps,Pq,Pr,abA,UB,x2];refine⟨aH,?_⟩;refine iK [0,3,4,5,6,9,10,11,12,76] fun e3 h3=>?_;have UE:=h3 0 ae;have abD:=h3 3 ae;have UG:=h3 4 ae;have UH:=h3 5 ae;have abE:=h3 6 ae;have UI:=h3 9 ae;have abB:=h3 10 ae;have UF:=h3 11 ae;have abC:=h3 12 ae;have Ps:=h3 76 ae;simp only[go_sem,Pq,Pr,UC,UD,abz] at UE abD UG UH abE UI abB UF abC Ps;cases c1:(P.l.id==P2.l.id) with
  |true=>simp only[go_sem,UG,UH,Ps,c1];first|rfl|exact aH|exact⟨aH,rfl⟩|exact⟨aH,aH,rfl⟩
  |false=>
  simp only[go_sem,wz,Pc.ps,UE,UI,UF,Ps,c1];refine iK [0,3,4,5,6,9,10,11,12,76,88] fun e4 h4=>?_;have Mc:=h4 0 ae;have UK:=h4 3 ae;have UL:=h4 4 ae;have UM:=h4 5 ae;have UN:=h4 6 ae;have UP:=h4 9 ae;have Pt:=h4 10 ae;have UJ:=h4 11 ae;have Md:=h4 12 ae;have Me:=h4 76 ae;have UO:=h4 88 ae;simp only[go_sem,UE,abD,UG,UH,abE,UI,abB,UF,abC,Ps,c1] at Mc UK UL UM UN UP Pt UJ Md Me UO;cases c2:(Q.l.id==P.l.id) with
  |true=>
   have c4:(Q.l.id==P2.l.id)=false:=by
    have h1:Q.l.id=P.l.id:=by simpa using c2
    rw[h1];exact c1
   simp only[go_sem,wz,Pc.ps,Mc,Pt,Md,Me,UO,c2];refine iK [0,3,4,5,6,9,10,11,12,76,101] fun e5 h5=>?_;have UQ:=h5 0 ae;have UT:=h5 3 ae;have UU:=h5 4 ae;have UW:=h5 5 ae;have UX:=h5 6 ae;have abG:=h5 9 ae;have al8:=h5 10 ae;have abF:=h5 11 ae;have US:=h5 12 ae;have UY:=h5 76 ae;have UR:=h5 101 ae;simp only[go_sem,Mc,UK,UL,UM,UN,UP,Pt,UJ,Md,Me] at UQ UT UU UW UX abG al8 abF US UY UR;cases c3:(Q2.l.id==P2.l.id) with
   |false=>simp only[go_sem,wz,Pc.ps,UQ,UU,UW,abG,US,UY,UR,c3,c4];first|rfl|exact aH|exact⟨aH,rfl⟩|exact⟨aH,aH,rfl⟩
   |true=>
   simp only[go_sem,wz,UT,UX,UY,UR,c3];refine ve [0,3,4,5,6,11,12,137] fun e6 h6=>?_;have abH:=h6 0 ae;have U0:=h6 3 ae;have U1:=h6 4 ae;have U2:=h6 5 ae;have abK:=h6 6 ae;have abI:=h6 11 ae;have abJ:=h6 12 ae;have UZ:=h6 137 ae;simp only[go_sem,UQ,UT,UU,UW,UX,abF,US] at abH U0 U1 U2 abK abI abJ UZ;cases d1:((((av+2)%ls.length:Nat):Int)==(bv:Int)) with
   |true=>simp only[go_sem,U1,U2,UZ,d1];first|rfl|exact aH|exact⟨aH,rfl⟩|exact⟨aH,aH,rfl⟩
   |false=>
   simp only[go_sem,wz,U0,abK,UZ,d1];refine ve [0,3,4,5,11,12,147] fun e7 h7=>?_;have U3:=h7 0 ae;have U4:=h7 3 ae;have Va:=h7 4 ae;have Vb:=h7 5 ae;have abL:=h7 11 ae;have abM:=h7 12 ae;have Pu:=h7 147 ae;simp only[go_sem,abH,U0,U1,U2,abI,abJ] at U3 U4 Va Vb abL abM Pu;cases d2:((((bv+2)%ls.length:Nat):Int)==(av:Int)) with
   |true=>simp only[go_sem,Va,Vb,Pu,d2];first|rfl|exact aH|exact⟨aH,rfl⟩|exact⟨aH,aH,rfl⟩
   |false=>
   cases d3:pY F ls 0 [av,bv] av with
   |false=>rw[d3] at pc;simp only[go_sem,s147,mE pc,U3,U4,Va,Vb,Pu,d2];first|rfl|exact aH|exact⟨aH,rfl⟩|exact⟨aH,aH,rfl⟩
   |true=>rw[d3] at pc;simp only[go_sem,s147,mE pc,s148,U3,U4,abL,abM,Pu,d2];refine⟨aH,?_⟩;refine rC pd lo (.inr (qD (Dk _))) fun cc bQ gc ir=>?_;simp only[go_sem];exact wK gc
  |false=>
   simp only[go_sem,wz,Pc.ps,Mc,UP,Md,Me,UO,c2];refine iK [0,3,4,5,6,10,11,12,76,101,113] fun e8 h8=>?_;have Vc:=h8 0 ae;have abP:=h8 3 ae;have Vg:=h8 4 ae;have Vh:=h8 5 ae;have abQ:=h8 6 ae;have abN:=h8 10 ae;have Ve:=h8 11 ae;have abO:=h8 12 ae;have Vi:=h8 76 ae;have Vd:=h8 101 ae;have Vf:=h8 113 ae;simp only[go_sem,Mc,UK,UL,UM,UN,Pt,UJ,Md,Me] at Vc abP Vg Vh abQ abN Ve abO Vi Vd Vf;cases c4:(Q.l.id==P2.l.id) with
   |false=>simp only[go_sem,Vg,Vh,Vi,Vd,Vf,c4];first|rfl|exact aH|exact⟨aH,rfl⟩|exact⟨aH,aH,rfl⟩
   |true=>
   simp only[go_sem,wz,Pc.ps,Vc,abN,Ve,Vi,Vd,Vf,c4];refine ZO [0,3,4,5,6,11,12] fun e9 h9=>?_;have abR:=h9 0 ae;have Vj:=h9 3 ae;have Vk:=h9 4 ae;have Vl:=h9 5 ae;have Vm:=h9 6 ae;have abS:=h9 11 ae;have abT:=h9 12 ae;simp only[go_sem,Vc,abP,Vg,Vh,abQ,Ve,abO] at abR Vj Vk Vl Vm abS abT;cases c5:(Q2.l.id==P.l.id) with
   |false=>simp only[go_sem,Vk,Vl];first|rfl|exact aH|exact⟨aH,rfl⟩|exact⟨aH,aH,rfl⟩
   |true=>
   simp only[go_sem,wz,Vj,Vm];refine ve [0,3,4,5,6,11,12,137] fun qH dZ=>?_;have aa1:=dZ 0 ae;have TB:=dZ 3 ae;have TC:=dZ 4 ae;have TD:=dZ 5 ae;have aa4:=dZ 6 ae;have aa2:=dZ 11 ae;have aa3:=dZ 12 ae;have TA:=dZ 137 ae;simp only[go_sem,abR,Vj,Vk,Vl,Vm,abS,abT] at aa1 TB TC TD aa4 aa2 aa3 TA;cases d1:((((av+2)%ls.length:Nat):Int)==(bv:Int)) with
   |true=>simp only[go_sem,TC,TD,TA,d1];first|rfl|exact aH|exact⟨aH,rfl⟩|exact⟨aH,aH,rfl⟩
   |false=>
   simp only[go_sem,wz,TB,aa4,TA,d1];refine ve [0,3,4,5,11,12,147] fun II gk=>?_;have TE:=gk 0 ae;have TG:=gk 3 ae;have TH:=gk 4 ae;have TI:=gk 5 ae;have aa5:=gk 11 ae;have aa6:=gk 12 ae;have Pg:=gk 147 ae;simp only[go_sem,aa1,TB,TC,TD,aa2,aa3] at TE TG TH TI aa5 aa6 Pg;cases d2:((((bv+2)%ls.length:Nat):Int)==(av:Int)) with
   |true=>simp only[go_sem,TH,TI,Pg,d2];first|rfl|exact aH|exact⟨aH,rfl⟩|exact⟨aH,aH,rfl⟩
   |false=>
   cases d3:pY F ls 0 [av,bv] av with
   |false=>rw[d3] at pc;simp only[go_sem,s147,mE pc,TE,TG,TH,TI,Pg,d2];first|rfl|exact aH|exact⟨aH,rfl⟩|exact⟨aH,aH,rfl⟩
   |true=>rw[d3] at pc;simp only[go_sem,s147,mE pc,s148,TE,TG,aa5,aa6,Pg,d2];refine⟨aH,?_⟩;refine rC pd lo (.inr (qD (Dk _))) fun cc bQ gc ir=>?_;simp only[go_sem];exact wK gc
 |false=>
  simp only[go_sem,s150,dA b3,Ma,Mb,Uo,x1];refine iK [0,3,4,5,6,7,28,33] fun IJ iT=>?_;have Ph:=iT 0 ae;have Pj:=iT 3 ae;have Pk:=iT 4 ae;have Pl:=iT 5 ae;have aa7:=iT 6 ae;have aa8:=iT 7 ae;have TJ:=iT 28 ae;have TK:=iT 33 ae;simp only[go_sem,Ma,Mb,Up,Uq,Ur,Us] at Ph Pj Pk Pl aa7 aa8 TJ TK;cases x4:jU ls av false with
  |false=>simp only[go_sem,Pk,Pl,TJ,TK,x4];first|rfl|exact aH|exact⟨aH,rfl⟩|exact⟨aH,aH,rfl⟩
  |true=>
  simp only[go_sem,s150,dA b4,Ph,Pj,TJ,TK,x4];cases x5:jU ls bv true with
  |false=>simp only[go_sem,Pk,Pl];first|rfl|exact aH|exact⟨aH,rfl⟩|exact⟨aH,aH,rfl⟩
  |true=>
  simp only[go_sem,s139,cV pe1 gR,cV pe2 gR,wz,Pc.ps,Ph,Pj,aa8];refine⟨aH,?_⟩;refine iK [0,3,4,5,6,9,10,11,12,76] fun FU sC=>?_;have TL:=sC 0 ae;have abb:=sC 3 ae;have TN:=sC 4 ae;have TO:=sC 5 ae;have abc:=sC 6 ae;have TP:=sC 9 ae;have aa9:=sC 10 ae;have TM:=sC 11 ae;have aba:=sC 12 ae;have Pm:=sC 76 ae;simp only[go_sem,Ph,Pj,Pk,Pl,aa7] at TL abb TN TO abc TP aa9 TM aba Pm;cases c1:(P.l.id==P2.l.id) with
  |true=>simp only[go_sem,TN,TO,Pm,c1];first|rfl|exact aH|exact⟨aH,rfl⟩|exact⟨aH,aH,rfl⟩
  |false=>
  simp only[go_sem,wz,Pc.ps,TL,TP,TM,Pm,c1];refine iK [0,3,4,5,6,9,10,11,12,76,88] fun FV lW=>?_;have L7:=lW 0 ae;have TR:=lW 3 ae;have TS:=lW 4 ae;have TT:=lW 5 ae;have TU:=lW 6 ae;have TW:=lW 9 ae;have Pn:=lW 10 ae;have TQ:=lW 11 ae;have L8:=lW 12 ae;have L9:=lW 76 ae;have TV:=lW 88 ae;simp only[go_sem,TL,abb,TN,TO,abc,TP,aa9,TM,aba,Pm,c1] at L7 TR TS TT TU TW Pn TQ L8 L9 TV;cases c2:(Q.l.id==P.l.id) with
  |true=>
   have c4:(Q.l.id==P2.l.id)=false:=by
    have h1:Q.l.id=P.l.id:=by simpa using c2
    rw[h1];exact c1
   simp only[go_sem,wz,Pc.ps,L7,Pn,L8,L9,TV,c2];refine iK [0,3,4,5,6,9,10,11,12,76,101] fun e15 kZ=>?_;have TX:=kZ 0 ae;have T0:=kZ 3 ae;have T1:=kZ 4 ae;have T2:=kZ 5 ae;have T3:=kZ 6 ae;have abe:=kZ 9 ae;have al7:=kZ 10 ae;have abd:=kZ 11 ae;have TZ:=kZ 12 ae;have T4:=kZ 76 ae;have TY:=kZ 101 ae;simp only[go_sem,L7,TR,TS,TT,TU,TW,Pn,TQ,L8,L9] at TX T0 T1 T2 T3 abe al7 abd TZ T4 TY;cases c3:(Q2.l.id==P2.l.id) with
   |false=>simp only[go_sem,wz,Pc.ps,TX,T1,T2,abe,TZ,T4,TY,c3,c4];first|rfl|exact aH|exact⟨aH,rfl⟩|exact⟨aH,aH,rfl⟩
   |true=>
   simp only[go_sem,wz,T0,T3,T4,TY,c3];refine ve [0,3,4,5,6,11,12,137] fun DR oX=>?_;have abf:=oX 0 ae;have T6:=oX 3 ae;have T7:=oX 4 ae;have T8:=oX 5 ae;have abi:=oX 6 ae;have abg:=oX 11 ae;have abh:=oX 12 ae;have T5:=oX 137 ae;simp only[go_sem,TX,T0,T1,T2,T3,abd,TZ] at abf T6 T7 T8 abi abg abh T5;cases d1:((((av+2)%ls.length:Nat):Int)==(bv:Int)) with
   |true=>simp only[go_sem,T7,T8,T5,d1];first|rfl|exact aH|exact⟨aH,rfl⟩|exact⟨aH,aH,rfl⟩
   |false=>
   simp only[go_sem,wz,T6,abi,T5,d1];refine ve [0,3,4,5,11,12,147] fun IK iU=>?_;have T9:=iU 0 ae;have Ua:=iU 3 ae;have Ub:=iU 4 ae;have Uc:=iU 5 ae;have abj:=iU 11 ae;have abk:=iU 12 ae;have Po:=iU 147 ae;simp only[go_sem,abf,T6,T7,T8,abg,abh] at T9 Ua Ub Uc abj abk Po;cases d2:((((bv+2)%ls.length:Nat):Int)==(av:Int)) with
   |true=>simp only[go_sem,Ub,Uc,Po,d2];first|rfl|exact aH|exact⟨aH,rfl⟩|exact⟨aH,aH,rfl⟩
   |false=>
   cases d3:pY F ls 0 [av,bv] av with
   |false=>rw[d3] at pc;simp only[go_sem,s147,mE pc,T9,Ua,Ub,Uc,Po,d2];first|rfl|exact aH|exact⟨aH,rfl⟩|exact⟨aH,aH,rfl⟩
   |true=>rw[d3] at pc;simp only[go_sem,s147,mE pc,s148,T9,Ua,abj,abk,Po,d2];refine⟨aH,?_⟩;refine rC pd lo (.inr (qD (Dk _))) fun cc bQ gc ir=>?_;simp only[go_sem];exact wK gc
  |false=>
   simp only[go_sem,wz,Pc.ps,L7,TW,L8,L9,TV,c2];refine iK [0,3,4,5,6,10,11,12,76,101,113] fun IL gO=>?_;have Ud:=gO 0 ae;have abn:=gO 3 ae;have Uh:=gO 4 ae;have Ui:=gO 5 ae;have abo:=gO 6 ae;have abl:=gO 10 ae;have Uf:=gO 11 ae;have abm:=gO 12 ae;have Uj:=gO 76 ae;have Ue:=gO 101 ae;have Ug:=gO 113 ae;simp only[go_sem,L7,TR,TS,TT,TU,Pn,TQ,L8,L9] at Ud abn Uh Ui abo abl Uf abm Uj Ue Ug;cases c4:(Q.l.id==P2.l.id) with
   |false=>simp only[go_sem,Uh,Ui,Uj,Ue,Ug,c4];first|rfl|exact aH|exact⟨aH,rfl⟩|exact⟨aH,aH,rfl⟩
   |true=>
   simp only[go_sem,wz,Pc.ps,Ud,abl,Uf,Uj,Ue,Ug,c4];refine ZO [0,3,4,5,6,11,12] fun e19 gZ=>?_;have abp:=gZ 0 ae;have Uk:=gZ 3 ae;have Ul:=gZ 4 ae;have Um:=gZ 5 ae;have Un:=gZ 6 ae;have abq:=gZ 11 ae;have abr:=gZ 12 ae;simp only[go_sem,Ud,abn,Uh,Ui,abo,Uf,abm] at abp Uk Ul Um Un abq abr;cases c5:(Q2.l.id==P.l.id) with
   |false=>simp only[go_sem,Ul,Um];first|rfl|exact aH|exact⟨aH,rfl⟩|exact⟨aH,aH,rfl⟩
   |true=>
   simp only[go_sem,wz,Uk,Un];refine ve [0,3,4,5,6,11,12,137] fun e20 vl=>?_;have abt:=vl 0 ae;have Uu:=vl 3 ae;have Uv:=vl 4 ae;have Uw:=vl 5 ae;have abw:=vl 6 ae;have abu:=vl 11 ae;have abv:=vl 12 ae;have Ut:=vl 137 ae;simp only[go_sem,abp,Uk,Ul,Um,Un,abq,abr] at abt Uu Uv Uw abw abu abv Ut;cases d1:((((av+2)%ls.length:Nat):Int)==(bv:Int)) with
   |true=>simp only[go_sem,Uv,Uw,Ut,d1];first|rfl|exact aH|exact⟨aH,rfl⟩|exact⟨aH,aH,rfl⟩
   |false=>
   simp only[go_sem,wz,Uu,abw,Ut,d1];refine ve [0,3,4,5,11,12,147] fun e21 zu=>?_;have Ux:=zu 0 ae;have Uy:=zu 3 ae;have Uz:=zu 4 ae;have UA:=zu 5 ae;have abx:=zu 11 ae;have aby:=zu 12 ae;have Pp:=zu 147 ae;simp only[go_sem,abt,Uu,Uv,Uw,abu,abv] at Ux Uy Uz UA abx aby Pp;cases d2:((((bv+2)%ls.length:Nat):Int)==(av:Int)) with
   |true=>simp only[go_sem,Uz,UA,Pp,d2];first|rfl|exact aH|exact⟨aH,rfl⟩|exact⟨aH,aH,rfl⟩
   |false=>
   cases d3:pY F ls 0 [av,bv] av with
   |false=>rw[d3] at pc;simp only[go_sem,s147,mE pc,Ux,Uy,Uz,UA,Pp,d2];first|rfl|exact aH|exact⟨aH,rfl⟩|exact⟨aH,aH,rfl⟩
   |true=>rw[d3] at pc;simp only[go_sem,s147,mE pc,s148,Ux,Uy,abx,aby,Pp,d2];refine⟨aH,?_⟩;refine rC pd lo (.inr (qD (Dk _))) fun cc bQ gc ir=>?_;simp only[go_sem];exact wK gc
theorem amY{Q:dD}{ak:Env}{aj:aA}{os:List bG}{d:Option Nat}{f id ty z:Nat}{es:List (List PV)}{c:C}(Wv:∀ {al:Al} {aj:aA},es=[]\/al.ok id=true->grown id ty z es (.one c) aj->∃v ao,iF S f [.one c] al aj v ao/\Hj id ty z es c aj v ao)(hg:grown id ty z es (.one c) aj)
  (hK:∀ao,grown id ty z es.reverse (.one c) ao->(∀i,i≠id->ao i=aj i)->RN S .all os Q (put ak d (.tup [])) ao):gP S .all (.sc f [.one c]) d os Q ak aj:=by
 refine qK (P:=Hj id ty z es c aj) yj (Wv ?_ hg) ?_
 .rcases Re hg with ⟨h,_⟩|h
  .exact .inl h
  exact .inr (r7 (by simp[h]))
 rintro v ao ⟨rfl,h1,h2⟩
 exact hK ao h1 h2
abbrev KR(x k:Nat)(sg:Int)(ov:Bool):Pc:=⟨⟨2,0,0,((x+k:Nat):Int),sg,ov⟩,false⟩
abbrev EM(F:Nat)(ls:List Let)(d:Nat):Nat:=(og F ls).getD d 0
abbrev pmF(x:Nat)(sg:Int)(o:Bool):List Pc:=[KR x 1 sg o,KR x 2 (-sg) o]
abbrev pmS(x:Nat)(sg:Int)(o same:Bool):List Pc:=if same then [KR x 2 (-sg) (!o),KR x 1 sg (!o)] else [KR x 1 sg (!o),KR x 2 (-sg) (!o)]
def pmV(ls:List Let)(av bv:Nat)(l o same other:Bool):Option (List Pc):=
 if !same&& !other then none
 else
  let sg:Int:=if o==(same==l) then 1 else -1
  let first:=pmF (aw Let.aC ls/2) sg o
  let second:=pmS (aw Let.aC ls/2) sg o same
  some (if av<bv then EH (EH (pieces ls) second bv) first av else EH (EH (pieces ls) first av) second bv)
def pmR(F:Nat)(ls:List Let)(av bv:Nat)(l o:Bool):Option (List Pc):=
 if l then pmV ls av bv l o ((EM F ls (2*bv):Int)==(EM F ls (2*av):Int)) ((EM F ls (2*bv+1):Int)==(EM F ls (2*av):Int))
 else pmV ls av bv l o ((EM F ls (2*bv+1):Int)==(EM F ls (2*av+1):Int)) ((EM F ls (2*bv):Int)==(EM F ls (2*av+1):Int))
abbrev LN(F:Nat):V:=.agg [.p (.int .i64 F),.p (.sl [])]
theorem zz:¬(((0:Int))<((0:Nat):Int)):=ae
theorem zm:IntKind.i64.wrap (2*((0:Nat):Int))=((0:Nat):Int):=ae
theorem zr:(0:Nat)<=140737488355328:=ae
theorem zr8:(0:Nat)*8<=140737488355328:=ae
section
variable {F:Nat}
theorem aks(hF:F<=40):cQ (F:Int) []=0:=by unfold cQ;rw[ay (by simp[aw]),ay aa,aF rfl]
theorem asl(hF:F<=40):aK S 26 [LN F] (yC (zh F) (.int .i64 0)):=by have pr:=Oa F [] (bl _);rw[Kw (aks hF),aF rfl] at pr;exact pr
theorem ajW:aK S 104 [.one (.p (zh F))] (.one (.own 4 1 [])):=by refine bh c104 ?_;simp only[go_sem,i104];refine rm ?_;simp only[go_sem,i104_l1,i104_r2,zz];rfl
theorem ami(hF:F<=40):aK S 91 [LN F] (.tup [.one (aT AQ 5 []),.one (.p (.int .i64 0))]):=by
 have pr:=asl hF;have hLB:∀aj:aA,land aj [] 5824384064 ((RV.one (.own 4 1 [])).fP (S.lone 5824384064))=some (.one (.hsl 5824384064 ((aj 5824384064).1+1) 1 0 0),[(5824384064,((aj 5824384064).1+1,some (.arr 4 1 [])))]):=by intro aj;rw[show S.lone 5824384064=false by kernel_rfl];rfl
 refine bh c91 ?_;simp only[go_sem,i91,s26,cV pr gR,s104,cV ajW (hLB _),zm,zr];refine rm ?_;simp only[go_sem,i91_l1,i91_r2,zz];rfl
theorem aqL(hF:F<=40):aK S 72 [LN F] (yC (eQ F []) (.int .i64 0)):=by
 have pf:=ami hF;have pps:aK S 92 [LN F] (ri ((0:Nat):Int)):=Xp F [] (bl _);have pcs:aK S 93 [LN F] (ri ((0:Nat):Int)):=aas F [] (bl _);have lo:S.lone 4608064064=false:=ah;have wF:=cA (n:=F) aa;have r2:(F+1)*8<=140737488355328:=aa;have e2:List.replicate (F+1) [PV.int .i64 0]=nP (counts [] F):=by rw[<- Th,ez,Ti];simp
 refine bh c72 ?_;simp only[go_sem,i72,s91];refine acx pf lo fun cf nL vm mJ=>?_;have Lr:=mJ 4608000000 ae;simp only[go_sem] at Lr;obtain⟨_,hv⟩|⟨h,_⟩:=vm
 .cases hv;simp only[go_sem,Lr,wF,r2,zm,zr,s92,s93,gJ pps,gJ pcs,e2];refine⟨aH,?_⟩;refine rm ?_;simp only[go_sem,i72_l1,i72_r6,zz];refine rm ?_;simp only[go_sem,i72_l4,i72_r5,zz];have t2:List.take (F+1) (nP (counts [] F))=nP (counts [] F):=fR (by simp[counts]);have n2:F+1<=(counts [] F).length:=by simp[counts]
  simp only[go_sem,iE,sv,ux,ng,mj,jv,t2,n2];rfl
 exact absurd rfl h
end
section
variable {F:Nat}
end
abbrev circ(b:Nat):List Let:=[⟨1,b,1,0,0,false⟩,⟨1,b,2,0,0,false⟩]
end Go.Abs
