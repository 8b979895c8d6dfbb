/-
  The number of faces, and how a code is read.
-/
import Derived.Test.YtnbfnkckmfibpaaGreatDoorWf
set_option linter.unusedSimpArgs false
set_option linter.unusedVariables false
set_option linter.unusedSectionVars false
set_option maxRecDepth 100000
set_option maxHeartbeats 16000000
namespace Go.Abs
section
variable{F:Nat}{ls:List ae}
abbrev DP(F:Nat)(ls:List ae):PV:=SO F ls (.sl (bP (gz ls))) (.sl (nP (ah ls))) (.sl (nP (oX ls ls.length))) (.mp true (lf ls ls.length)) (.sl (nP (counts ls F)))
structure eN (F:Nat) (ls:List ae):Prop where
 hl:ls.length<=1000000
 ax:AT F ls
 cr:ed ls=true
 kinds: ∀ l∈ls,l.bq=true\/l.aJ=true
theorem fd{a:Nat}(h:a<=9223372036854775807):IntKind.i64.wrap ((a:Int) - 1)=(a:Int) - 1:=by
 cases a with
 |zero=>decide
 |succ a=>rw[fU (by omega) h];omega
theorem uD{a n:Nat}(hn:1<=n)(h:a+n<=9223372036854775807):IntKind.i64.wrap (((a:Int) - 1)+(n:Int))=((a+n - 1:Nat):Int):=by
 have e:((a:Int) - 1)+(n:Int)=((a+n - 1:Nat):Int):=by omega
 rw[e];exact wrap_small (by omega)
theorem qb(F:Nat)(ls:List ae)(i:Nat)(hl:ls.length<=1000000)(hi:i<ls.length):aH S 143 [.one (.p (DP F ls)),vi i] (ri (cP ls.length i true)):=by
 refine aG c143 ?_;have e:=bX (a:=i) (by omega);simp only[go_sem,i143,e,cP]
theorem nZ(F:Nat)(ls:List ae)(i:Nat)(hl:ls.length<=1000000)(hi:i<ls.length):aH S 142 [.one (.p (DP F ls)),vi i] (ri (cP ls.length i false)):=by
 refine aG c142 ?_;have e1:=fd (a:=i) (by omega);have e2:=uD (a:=i) (n:=ls.length) (by omega) (by omega);have e3:=dq (i+ls.length - 1) ls.length;have hm:=aax (i+ls.length - 1) (show 0<ls.length by omega);have e4:=bX (a:=(i+ls.length - 1)%ls.length) (by omega);have e5:=am (n:=2*((i+ls.length - 1)%ls.length)) (by omega);have hz: ¬ ((ls.length:Int)=0):=by omega
 simp only[go_sem,i142,e1,e2,e3,e4,e5,hz,cP]
theorem rz{v:Nat}{l:ae}(h:ls[v]? =some l)(hp:l.bq=true):(gz ls)[v]? =some (dn ls v):=by
 have:=(aag.1 h).1;simp[gz,abH this,DO,h,hp]
theorem QG{v:Nat}{l:ae}(h:ls[v]? =some l)(hp:l.bq=true):(oX ls ls.length)[v]? =some (cR ls l):=by
 have:=(aag.1 h).1;simp[oX,this,pV h hp]
theorem eN.GA(ok:eN F ls){v:Nat}{l:ae}(h:ls[v]? =some l)(h2:(l.kind==2)=false):l.bq=true:=by
 rcases ok.kinds l (aaf h) with hp|hc
 ·exact hp
 ·unfold ae.aJ at hc;rw[h2] at hc;cases hc
theorem GT(ok:eN F ls)(d:Nat)(hd:d<2*ls.length+2*(ah ls).length):aH S 108 [.one (.p (DP F ls)),vi d] (ri (ce ls (ah ls) d)):=by
 have hl:=ok.hl;have UG:(ah ls).length<=1000000:=aa5 (cn ls ls.length) hl;have nJ: ∀ x∈ah ls,x<ls.length/\ ∃ l,ls[x]? =some l/\l.bq=true:=fun x hx=>by
  obtain⟨l,h1,h2⟩:=eE.1 hx;exact⟨(aag.1 h1).1,l,h1,h2⟩
 have m1:IntKind.i64.wrap (2*(ls.length:Int))=((2*ls.length:Nat):Int):=bX (by omega);unfold ce;by_cases h:2*ls.length<=d
 ·rw[if_pos h];refine aG c108 ?_;have h':((2*ls.length:Nat):Int)<=(d:Int):=by omega
  have m2:=qp (a:=d) (b:=2*ls.length) h (by omega);have m3:=wrap_small (n:=(d - 2*ls.length)/2) (by omega);have hm:=aax ((d - 2*ls.length)/2+1) (show 0<(ah ls).length by omega);have VF: ¬ (((ah ls).length:Int)=0):=by omega
  obtain⟨u,hu⟩:=ao (ls:=ah ls) (k:=(d - 2*ls.length)/2) (by omega);have hnu:=cN hu;by_cases h2:d%2=0
  ·rw[if_pos h2];have m4:=am (n:=(d - 2*ls.length)/2) (by omega);have US:(((d%2:Nat):Int)==0)=true:=by simp[h2]
   have m5:=dq ((d - 2*ls.length)/2+1) (ah ls).length;obtain⟨v,hv⟩:=ao hm;have YQ:(ah ls).getD (((d - 2*ls.length)/2+1)%(ah ls).length) 0=v:=by rw[aap,hv];rfl
   rw[YQ];obtain⟨Xr,l,Wg,hlp⟩:=nJ v (aaf hv);have WH:=cN hv;have UE:=ig (rz Wg hlp);have pf:=qb F ls v hl Xr;have pb:=nZ F ls v hl Xr;cases hq:dn ls v with
   |true=>
    rw[hq] at UE;simp only[go_sem,i108,m1,m2,m3,m4,m5,h',US,hnu,WH,UE,VF,dB,ch,aT,s142,aS pb];exact⟨au,au⟩
   |false=>
    rw[hq] at UE;simp only[go_sem,i108,m1,m2,m3,m4,m5,h',US,hnu,WH,UE,VF,dB,ch,aT,s143,aS pf];exact⟨au,au⟩
  ·rw[if_neg h2];have US:(((d%2:Nat):Int)==0)=false:=by simp;omega
   have YQ:(ah ls).getD ((d - 2*ls.length)/2) 0=u:=by rw[aap,hu];rfl
   rw[YQ];obtain⟨Xr,l,Wg,hlp⟩:=nJ u (aaf hu);have UE:=ig (rz Wg hlp);have pf:=qb F ls u hl Xr;have pb:=nZ F ls u hl Xr;cases hq:dn ls u with
   |true=>
    rw[hq] at UE;simp only[go_sem,i108,m1,m2,m3,h',US,hnu,UE,dB,ch,aT,s143,aS pf];exact au
   |false=>
    rw[hq] at UE;simp only[go_sem,i108,m1,m2,m3,h',US,hnu,UE,dB,ch,aT,s142,aS pb];exact au
 ·rw[if_neg h];have h': ¬ (((2*ls.length:Nat):Int)<=(d:Int)):=by omega
  have m3:=wrap_small (n:=d/2) (by omega);have UY: ¬ ((ls.length:Int)=0):=by omega
  have VF:=aax (d/2+1) (show 0<ls.length by omega);have m4:=am (n:=d/2) (by omega);have m5:=dq (d/2+1) ls.length;have body: ∀ v:Nat,v<ls.length-> ∀ fw:Bool,v=(if fw then (d/2+1)%ls.length else d/2)->(((d%2:Nat):Int)==0)=fw->aH S 108 [.one (.p (DP F ls)),vi d] (ri ((match ls[v]? with
    |none=>0
    |some l=>if l.kind==2 then cP ls.length (dk ls v) (fw==(l.over==(l.sign==1)))
     else if dn ls v==fw then 2*ls.length+2*(ah ls).idxOf v else 2*ls.length+2*(((ah ls).idxOf v+(ah ls).length - 1)%(ah ls).length)+1:Nat):Int)):=by
   intro v hv fw Uh UC;obtain⟨l,Wg⟩:=ao hv;have Ux:=cD Wg;rw[Wg];simp only;refine aG c108 ?_;cases hk:(l.kind==2) with
   |true=>
    have hc:l.aJ=true:=hk;have TH:(l.kind==1)=false:=by
     simp only[beq_iff_eq] at hk;rw[hk];rfl
    obtain⟨XE,hol⟩:=oI ok.cr Wg hc;have hf:=CS ls ls.length l.id;rw[if_pos (oL (aaf Wg) hc)] at hf;have pf:=qb F ls (dk ls v) hl hol;have pb:=nZ F ls (dk ls v) hl hol;cases ho:l.over with
    |true=>
     rw[ho] at XE;have XE:eF ls ls.length l.id false=some (dk ls v):=XE;simp only[mD,XE] at hf;simp only[xk] at hf;cases hs:(l.sign==1) with
     |true=>
      cases fw with
      |true=>
       have Uh:v=(d/2+1)%ls.length:=Uh;rw[Uh] at Ux hf pf pb ⊢;simp only[go_sem,i108,m1,m3,m4,m5,h',UC,Ux,ae.ps,UY,TH,ho,hs,dB,ch,aT,mapOf,mapVal,dU,hf,s143,aS pf];exact⟨au,au⟩
      |false=>
       have Uh:v=d/2:=Uh;rw[Uh] at Ux hf pf pb ⊢;simp only[go_sem,i108,m1,m3,h',UC,Ux,ae.ps,TH,ho,hs,dB,ch,aT,mapOf,mapVal,dU,hf,s142,aS pb];exact⟨au,au⟩
     |false=>
      cases fw with
      |true=>
       have Uh:v=(d/2+1)%ls.length:=Uh;rw[Uh] at Ux hf pf pb ⊢;simp only[go_sem,i108,m1,m3,m4,m5,h',UC,Ux,ae.ps,UY,TH,ho,hs,dB,ch,aT,mapOf,mapVal,dU,hf,s142,aS pb];exact⟨au,au⟩
      |false=>
       have Uh:v=d/2:=Uh;rw[Uh] at Ux hf pf pb ⊢;simp only[go_sem,i108,m1,m3,h',UC,Ux,ae.ps,TH,ho,hs,dB,ch,aT,mapOf,mapVal,dU,hf,s143,aS pf];exact⟨au,au⟩
    |false=>
     rw[ho] at XE;have XE:eF ls ls.length l.id true=some (dk ls v):=XE;simp only[mD,XE] at hf;simp only[xk] at hf;cases hs:(l.sign==1) with
     |true=>
      cases fw with
      |true=>
       have Uh:v=(d/2+1)%ls.length:=Uh;rw[Uh] at Ux hf pf pb ⊢;simp only[go_sem,i108,m1,m3,m4,m5,h',UC,Ux,ae.ps,UY,TH,ho,hs,dB,ch,aT,mapOf,mapVal,dU,hf,s142,aS pb];exact⟨au,au⟩
      |false=>
       have Uh:v=d/2:=Uh;rw[Uh] at Ux hf pf pb ⊢;simp only[go_sem,i108,m1,m3,h',UC,Ux,ae.ps,TH,ho,hs,dB,ch,aT,mapOf,mapVal,dU,hf,s143,aS pf];exact⟨au,au⟩
     |false=>
      cases fw with
      |true=>
       have Uh:v=(d/2+1)%ls.length:=Uh;rw[Uh] at Ux hf pf pb ⊢;simp only[go_sem,i108,m1,m3,m4,m5,h',UC,Ux,ae.ps,UY,TH,ho,hs,dB,ch,aT,mapOf,mapVal,dU,hf,s143,aS pf];exact⟨au,au⟩
      |false=>
       have Uh:v=d/2:=Uh;rw[Uh] at Ux hf pf pb ⊢;simp only[go_sem,i108,m1,m3,h',UC,Ux,ae.ps,TH,ho,hs,dB,ch,aT,mapOf,mapVal,dU,hf,s142,aS pb];exact⟨au,au⟩
   |false=>
    have hp:=ok.GA Wg hk;have TH:(l.kind==1)=true:=hp;have UE:=ig (rz Wg hp);have TD:=cN (QG Wg hp);have hix:=n9 ok.ax Wg hp;have hpT:=QF (ok.ax.good l (aaf Wg) hp);rw[DD ok.ax.jH] at hpT;rw[hix];have aaZ: ¬ (((ah ls).length:Int)=0):=by omega
    have Vi:=aax (cR ls l+(ah ls).length - 1) (show 0<(ah ls).length by omega);have n1:=bX (a:=cR ls l) (by omega);have n2:=wrap_add (a:=2*ls.length) (b:=2*cR ls l) (by omega);have n3:=fd (a:=cR ls l) (by omega);have n4:=uD (a:=cR ls l) (n:=(ah ls).length) (by omega) (by omega);have n5:=dq (cR ls l+(ah ls).length - 1) (ah ls).length;have n6:=bX (a:=(cR ls l+(ah ls).length - 1)%(ah ls).length) (by omega);have n7:=wrap_add (a:=2*ls.length) (b:=2*((cR ls l+(ah ls).length - 1)%(ah ls).length)) (by omega)
    have n8:=am (n:=2*ls.length+2*((cR ls l+(ah ls).length - 1)%(ah ls).length)) (by omega);cases fw with
    |true=>
     have Uh:v=(d/2+1)%ls.length:=Uh;cases abd:dn ls v with
     |true=>
      rw[abd] at UE;rw[Uh] at Ux UE TD;simp only[go_sem,i108,m1,m3,m4,m5,h',UC,Ux,ae.ps,UY,TH,dB,ch,aT,UE,TD,n1,n2];exact au
     |false=>
      rw[abd] at UE;rw[Uh] at Ux UE TD;simp only[go_sem,i108,m1,m3,m4,m5,h',UC,Ux,ae.ps,UY,TH,dB,ch,aT,UE,TD,n3,n4,n5,n6,n7,n8,aaZ];exact au
    |false=>
     have Uh:v=d/2:=Uh;cases abd:dn ls v with
     |true=>
      rw[abd] at UE;rw[Uh] at Ux UE TD;simp only[go_sem,i108,m1,m3,h',UC,Ux,ae.ps,TH,dB,ch,aT,UE,TD,n3,n4,n5,n6,n7,n8,aaZ];exact au
     |false=>
      rw[abd] at UE;rw[Uh] at Ux UE TD;simp only[go_sem,i108,m1,m3,h',UC,Ux,ae.ps,TH,dB,ch,aT,UE,TD,n1,n2];exact au
  have Xr:(if (d%2==0)=true then (d/2+1)%ls.length else d/2)<ls.length:=by
   split
   ·exact VF
   ·omega
  have:=body _ Xr (d%2==0) rfl (by cases hq:(d%2==0)<;>simp at hq ⊢ <;>omega);exact this
abbrev cM(ls:List ae):Nat->Nat:=ce ls (ah ls)
theorem Ra(ok:eN F ls){Q:cZ}:
  ∀ (fuel x:Nat) (sn:List Bool) (env:Env) (Tc:aB),env 0= .one (.p (DP F ls))->env 4= .one (.hsl 8640128064 1 1 0 sn.length)->Tc 8640128064=(1,some (.arr 4 1 (bP sn)))->
   env 7=vi x->x<sn.length->sn.length=2*ls.length+2*(ah ls).length->jw sn<fuel->
   (∀ Tg Td,Tg 0=env 0->Tg 4=env 4->Tg 5=env 5->Tg 24=env 24->Tg 25=env 25->Td 8640128064=(1,some (.arr 4 1 (bP (bQ (cM ls) fuel x sn).2)))->Q .normal Tg Td)->
   W S .all (.loop i135_l1) (ey 2 Q) env Tc:=by
 have UG:(ah ls).length<=1000000:=aa5 (cn ls ls.length) ok.hl;have nJ: ∀ x∈ah ls,x<ls.length:=fun x h=>rM h
 have hp: ∀ v l,ls[v]? =some l->(l.kind==2)=false->v∈ah ls:=fun v l hv h2=>eE.2 ⟨l,hv,ok.GA hv h2⟩
 intro fuel
 induction fuel with
 |zero=>intro x sn env Tc _ _ _ _ _ _ h;omega
 |succ fuel ih=>
  intro x sn env Tc h0 h4 hS h7 hx hsl hu hq;obtain⟨b,hb⟩:=ao hx;have Wn:=ig hb;have hgd:sn.getD x true=b:=by rw[aap,hb];rfl
  unfold bQ at hq;rw[hgd] at hq;refine dV ?_;cases b with
  |true=>
   simp only[go_sem,i135_l1,h4,hS,h7,hx,Wn];refine hq _ _ ?_ ?_ ?_ ?_ ?_ hS;all_goals simp only[go_sem,h4]
  |false=>
   have hun:=jT hb;have pt:=GT ok x (by omega);have Xt:=qq (d:=x) nJ hp (by omega);have T5:=sT sn x true;simp only[go_sem,i135_l1,h0,h4,hS,h7,hx,Wn,T5,s108,aS pt];refine ih (ce ls (ah ls) x) (sn.set x true) _ _ ?_ ?_ ?_ ?_ (by simpa [hsl] using Xt) (by simpa using hsl) (by omega) ?_
   ·simp only[go_sem,h0]
   ·simp only[go_sem,h4,aaD]
   ·simp only[go_sem]
   ·simp only[go_sem]
   ·intro Tg Td q0 q4 q5 YO q25 b1;refine hq Tg Td ?_ ?_ ?_ ?_ ?_ b1
    ·rw[q0];simp only[go_sem]
    ·rw[q4];simp only[go_sem]
    ·rw[q5];simp only[go_sem]
    ·rw[YO];simp only[go_sem]
    ·rw[q25];simp only[go_sem]
theorem Q9(ok:eN F ls):aH S 135 [.one (.p (DP F ls))] (rb (iU ls==aD ae.bq ls+aD ae.aJ ls/2+2)):=by
 have hl:=ok.hl;have UG:(ah ls).length<=ls.length:=cn ls ls.length;have m1:=bX (a:=ls.length) (by omega);have m2:=bX (a:=(ah ls).length) (by omega);have m3:=wrap_add (a:=2*ls.length) (b:=2*(ah ls).length) (by omega);have TQ:2*ls.length+2*(ah ls).length<=140737488355328:=by omega
 have YB:List.replicate (2*ls.length+2*(ah ls).length) [PV.bool false]=bP (List.replicate (2*ls.length+2*(ah ls).length) false):=by simp
 have Vi:(lf ls ls.length).length=aD ae.aJ ls/2:=by
  have:=ok.cr;unfold ed at this;simp only[aan,beq_iff_eq] at this;simp[lf,this.2]
 have Wt:aD ae.aJ ls<=ls.length:=dS _ _;refine aG c135 ?_;simp only[go_sem,i135,m1,m2,m3,TQ,YB];refine⟨au,?_⟩;generalize hN:2*ls.length+2*(ah ls).length=N at TQ;refine be (fun k env Tc=>env 0= .one (.p (DP F ls))/\env 4= .one (.hsl 8640128064 1 1 0 N)/\Tc 8640128064=(1,some (.arr 4 1 (bP (aL (cM ls) N k).2)))/\
   env 5=vi (aL (cM ls) N k).1.length/\env 24=vi N/\env 25=vi k) 0 N (aah _) ?_ ?_
 ·simp only[go_sem];exact⟨rfl,rfl,rfl⟩
 ·rintro k env Tc hk ⟨h0,h4,hS,h5,Yw,Yv⟩
  have hlen:=gH (cM ls) N k;have Vu:=gY (cM ls) N k;by_cases Ti:k<N
  ·have Tk:((k:Int)<(N:Int)):=by omega
   have w1:=am (n:=k) (by omega);have hs:=de (cM ls) N k;generalize TE:aL (cM ls) N k=st at hlen hs hS h5 Vu;obtain⟨out,sn⟩:=st;simp only at hlen hS h5 Vu;obtain⟨b,hb⟩:=ao (ls:=sn) (k:=k) (by omega);have Wn:=ig hb;unfold d9 at hs;have hgd:sn.getD k true=b:=by rw[aap,hb];rfl
   simp only[hgd] at hs;cases b with
   |true=>
    have hs:aL (cM ls) N (k+1)=(out,sn):=hs;simp only[go_sem,i135_l3,i135_r2,h0,h4,hS,h5,Yw,Yv,Ti,Tk,Wn,w1,hs]
   |false=>
    have hs:aL (cM ls) N (k+1)=(out++[(bQ (cM ls) (N+1) k sn).1],(bQ (cM ls) (N+1) k sn).2):=by rw[hs,hlen];rfl
    have hul:=jN sn;have w2:=am (n:=out.length) (by omega);simp only[go_sem,i135_l3,h4,hS,h5,Yw,Yv,Ti,Tk,Wn,w2];refine Ra ok (N+1) k sn _ _ ?_ ?_ ?_ ?_ (by omega) (by omega) (by omega) ?_
    ·simp only[go_sem,h0]
    ·simp only[go_sem,h4,hlen]
    ·simp only[go_sem,hS]
    ·simp only[go_sem]
    ·intro Tg Td q0 q4 q5 YO q25 b1;simp only[go_sem,h0,h4,h5,Yw,Yv] at q0 q4 q5 YO q25;simp only[go_sem,i135_r2,q0,q4,q5,YO,q25,b1,w1,hs,Ti];simp
  ·have:k=N:=by omega
   subst this;have he:iU ls=(aL (cM ls) k k).1.length:=by
    unfold iU bt cM;rw[hN]
   rw[<- he] at h5;have w3:=wrap_add (a:=(ah ls).length) (b:=aD ae.aJ ls/2) (by omega);have w4:IntKind.i64.wrap ((((ah ls).length+aD ae.aJ ls/2:Nat):Int)+2)=(((ah ls).length+aD ae.aJ ls/2+2:Nat):Int):=wrap_add (a:=(ah ls).length+aD ae.aJ ls/2) (b:=2) (by omega);have hb:(((iU ls:Nat):Int)==(((ah ls).length+aD ae.aJ ls/2+2:Nat):Int))=(iU ls==aD ae.bq ls+aD ae.aJ ls/2+2):=by
    rw[lX];cases h:(iU ls==aD ae.bq ls+aD ae.aJ ls/2+2) with
    |true=>simp at h ⊢;omega
    |false=>simp at h ⊢;omega
   simp only[go_sem,i135_l3,i135_r4,h0,h5,Yw,Yv,aN,xz,Vi,w3,w4,hb];exact au
abbrev ME(id:Nat):Prop:=id=4160320128\/(bY id=104\/bY id=133\/bY id=134)
def OG(F:Nat)(ls:List ae)(g:Nat)(Tc:aB):Prop:= ∃ g1 g2 g3 g4 g5,
 Tc 4160320128=(g,some (.var (GU F ls (hs 8512128448 g2 ls.length) (hs 8513344128 g5 (ah ls).length) (hs 8512192448 g3 ls.length) (.T6 8576256064 g4) (hs 8512064448 g1 (F+1)))))/\
 Tc 8512064448=(g1,some (.arr 3 1 (nP (counts ls F))))/\Tc 8512128448=(g2,some (.arr 4 1 (bP (gz ls))))/\Tc 8512192448=(g3,some (.arr 3 1 (nP (oX ls ls.length))))/\
 Tc 8513344128=(g5,some (.arr 3 1 (nP (ah ls))))/\Tc 8576256064=(g4,some (.map true (lf ls ls.length)))
def zB(F:Nat)(ls:List ae):Bool:=decide (ls=[])||dF F ls
def DV(F:Nat)(ls:List ae)(g:Nat)(Ue:aB)(v:V)(Td:aB):Prop:=
 v=vb (zB F ls)/\Kept ME Ue Td/\(ls≠[]->dF F ls=true->OG F ls g Td)/\(ls=[]->Td 4160320128=Ue 4160320128)
theorem Eg:S.sites 104=[104,133,134]:=by kernel_rfl
theorem JZ:S.sites 133=[133]:=by kernel_rfl
theorem JY:S.sites 134=[134]:=by kernel_rfl
theorem Kept.MN{K K':Nat->Prop}{a b:aB}(h:Kept K a b)(hk: ∀ id,K id->K' id):Kept K' a b:=fun id hn=>h id fun hh=>hn (hk id hh)
abbrev zA(g:Nat):List (List C):=[[.hfn 131 [.Tn 4160320128 g 0] []],[.hfn 132 [.Tn 4160320128 g 0] []],[.hfn 133 [.Tn 4160320128 g 0] []],[.hfn 134 [.Tn 4160320128 g 0] []],[.hfn 135 [.Tn 4160320128 g 0] []]]
section
variable {al:Al} {Q:cZ} {env:Env} {Tc:aB} {g g0:Nat}
theorem Jt(k:Nat){f:Nat}{dv:PV}{r:List Nat}{b:Bool}(hk:k<5)(hf:(zA g)[k]? =some [.hfn f [.Tn 4160320128 g 0] []])(hsf:S.Tf f=false)(oV:al.ok 6656192640=true)
  (Y7:env 22= .one (hs 6656192640 g0 5)) (h23:env 23=vi 5) (Yw:env 24=vi k) (bV:Tc 6656192640=(g0,some (.TV 29 1 (zA g))))
  (UV:fM Tc (.one (.Tn 4160320128 g 0))=some (.one (.p dv),r)) (hr:al.kB r=true) (hp:aH S f [.one (.p dv)] (rb b))
  (YG:b=false-> ∀ Tg,Tg 2=vb false->Q .ret Tg Tc)
  (aaO:b=true-> ∀ Tg,Tg 22= .one (hs 6656192640 g0 5)->Tg 23=vi 5->Tg 24=vi ((k+1:Nat):Int)->W S al (.loop i104_l1) Q Tg Tc):W S al (.loop i104_l1) Q env Tc:=by
 refine dV ?_;have Ti:((k:Int)<5):=by omega
 have w1:=am (n:=k) (by omega);cases b with
 |false=>
  simp only[go_sem,i104_l1,Y7,h23,Yw,bV,Ti,hk,hf,hsf,oV,↓UV,vT hp,hr];exact YG rfl _ (by simp only[go_sem])
 |true=>
  simp only[go_sem,i104_l1,Y7,h23,Yw,bV,Ti,hk,hf,hsf,oV,↓UV,vT hp,hr,w1];refine aaO rfl _ ?_ ?_ ?_
  ·simp only[go_sem,Y7]
  ·simp only[go_sem,h23]
  ·simp only[go_sem]
theorem Js(k:Nat){f:Nat}{P:V->aB->Prop}{b:Bool}(hk:k<5)(hf:(zA g)[k]? =some [.hfn f [.Tn 4160320128 g 0] []])(hsf:S.Tf f=true)(oV:al.ok 6656192640=true)
  (Y7:env 22= .one (hs 6656192640 g0 5)) (h23:env 23=vi 5) (Yw:env 24=vi k) (bV:Tc 6656192640=(g0,some (.TV 29 1 (zA g))))
  (hh:al.holds (allow (S.ctx al) f [.one (.Tn 4160320128 g 0)] Tc)=true) (h: ∃ v Td,pz S f [.one (.Tn 4160320128 g 0)] (allow (S.ctx al) f [.one (.Tn 4160320128 g 0)] Tc) Tc v Td/\P v Td)
  (hP: ∀ v Td,P v Td->v=vb b)
  (YG:b=false-> ∀ v Tg Td,P v Td->Tg 2=vb false->Q .ret Tg Td)
  (aaO:b=true-> ∀ v Tg Td,P v Td->Tg 22= .one (hs 6656192640 g0 5)->Tg 23=vi 5->Tg 24=vi ((k+1:Nat):Int)->W S al (.loop i104_l1) Q Tg Td):W S al (.loop i104_l1) Q env Tc:=by
 refine dV ?_;have Ti:((k:Int)<5):=by omega
 have w1:=am (n:=k) (by omega);simp only[go_sem,i104_l1,Y7,h23,Yw,bV,Ti,hk,hf,hsf,oV];refine fg hh h fun v Td hp=> ?_
 have hv:=hP v Td hp;subst hv;cases b with
 |false=>
  simp only[go_sem];exact YG rfl _ _ _ hp (by simp only[go_sem])
 |true=>
  simp only[go_sem,Yw,w1];refine aaO rfl _ _ _ hp ?_ ?_ ?_
  ·simp only[go_sem,Y7]
  ·simp only[go_sem,h23]
  ·simp only[go_sem]
end
theorem MP{al:Al}(okD:al.ok 4160320128=true)(okf: ∀ id,(bY id=104\/bY id=133\/bY id=134)->al.ok id=true)(f1:al.fs.contains 133=true)(f2:al.fs.contains 134=true)
  {Tc:aB} {g F:Nat} {ls:List ae} (hl:ls.length<=1000000) (hF:F<=1000000)
  (bD:Tc 4160320128=(g,some (.var (GU F ls (.p .nils) (.p .nils) (.p .nils) (.p .Uv) (.p .nils))))): ∃ v Td,pz S 104 [.one (.Tn 4160320128 g 0)] al Tc v Td/\DV F ls g Tc v Td:=by
 have oV:=okf 6656192640 (.inl rfl);refine eY c104 (aaN rfl) ?_;by_cases he:ls=[]
 ·subst he;have hz:(((0:Nat):Int)==0)=true:=by decide
  simp only[go_sem,i104,bD,hz,okD];exact⟨rfl,Kept.refl _ _,fun h=>absurd rfl h,fun _=>rfl⟩
 ·have T3:=abn.2 he;have hnz:(((ls.length:Nat):Int)==0)=false:=by simp;omega
  obtain⟨l0,h0⟩:=ao T3;have Y4:decide (ls=[])=false:=by simp[he]
  have pl:=Fy F ls (.sl []) (.sl []) (.sl []) .Uv (.sl []) hl ⟨rfl,rfl,rfl,rfl,rfl⟩;have pb:=IP F ls l0 (.sl []) (.sl []) (.sl []) .Uv (.sl []) hl h0;have afL:=kM (F:=F) (ls:=ls);have fail: ∀ Tg Td,Kept ME Tc Td->dF F ls=false->Tg 2=vb false->ey 0 (lu S al i104_r2 (pj al [(2,none)] (DV F ls g Tc))) .ret Tg Td:=fun Tg Td hk hv h2=>by
   simp only[go_sem,h2];exact⟨by rw[zB,Y4,hv];rfl,hk,fun _ h=>(by rw[hv] at h;cases h),fun h=>absurd h he⟩
  have noL:eI F ls=false->dF F ls=false:=fun h=>by simp[dF,h]
  have adM: ¬ (ls.any (cS F)=false/\jy ls=true/\ed ls=true)->dF F ls=false:=fun h=>noL (by
   cases hq:eI F ls with
   |false=>rfl
   |true=>exact absurd (afL.1 hq) h)
  simp only[go_sem,i104,bD,hnz,okD,oV];have TH:Kept ME Tc (fD Tc 6656192640 ((Tc 6656192640).1+1,some (.TV 29 1 (zA g)))):=Kept.fD (Kept.refl _ _) (.inr (.inl rfl)) _;generalize Tw:fD Tc 6656192640 ((Tc 6656192640).1+1,some (.TV 29 1 (zA g)))=Tq;rw[Tw] at TH;have bV:Tq 6656192640=((Tc 6656192640).1+1,some (.TV 29 1 (zA g))):=by rw[<- Tw];simp only[go_sem]
  have bD:Tq 4160320128=(g,some (.var (GU F ls (.p .nils) (.p .nils) (.p .nils) (.p .Uv) (.p .nils)))):=by rw[<- Tw];simp only[go_sem,bD]
  clear Tw;have UV:fM Tq (.one (.Tn 4160320128 g 0))=some (.one (.p (SO F ls (.sl []) (.sl []) (.sl []) .Uv (.sl []))),[4160320128]):=by
   simp only[go_sem,bD]
  have YR:al.kB [4160320128]=true:=by simp only[go_sem,okD]
  refine Jt 0 (by omega) rfl s131 oV (by simp only[go_sem]) (by simp only[go_sem];rfl) (by simp only[go_sem];rfl) bV UV YR pl (fun hb Tg h2=>fail Tg Tq TH (adM fun h=>by simp[h.1] at hb) h2) (fun hb Tg q22 q23 YO=> ?_);have Tw:ls.any (cS F)=false:=by simpa using hb
  have hbl: ∀ l∈ls,cS F l=false:=fun l hl=>by simpa using acp.1 Tw l hl
  have hg:jH F ls:=fun l hl hp=>((jk hp).1 (hbl l hl)).1.1.1
  refine Jt 1 (by omega) rfl s132 oV q22 q23 YO bV UV YR pb (fun hb Tg h2=>fail Tg Tq TH (by simp only[dF,h0,hb];rfl) h2) (fun hbg Tg q22 q23 YO=> ?_);clear hb;have hre:co Tq (.one (.Tn 4160320128 g 0))=[4160320128]:=by rw[r9 bD];simp[zY]
  refine Js (b:=jy ls) 2 (by omega) rfl (by kernel_rfl) oV q22 q23 YO bV ?_ (Nr (cK (by simp[hre])) (fun id h=>eW (by rw[JZ,h];rfl)) hl hF hg bD) (fun v Td h=>h.1) ?_ ?_
  ·refine holds_of ?_ ?_
   ·show al.kB ([V.one (.Tn 4160320128 g 0)].map (co Tq)).flatten=true;simp only[aas,aaG,hre,aaI,List.flatten_nil,abO];exact YR
   ·show(S.sites 133).all al.fs.contains=true;rw[JZ];simp only[abR,abZ,f1];rfl
  ·intro hb v Tg Td hp h2;exact fail Tg Td (TH.trans (hp.2.1.MN fun id h=>h.elim .inl fun h=> .inr (.inr (.inl h)))) (adM fun h=>by rw[h.2.1] at hb;cases hb) h2
  intro U2 v Tg Tp hp q22 q23 YO;obtain⟨_,Wm,YT⟩:=hp;obtain⟨g1,g2,g3,g5,bD,bC,bW,VC,bA⟩:=YT U2;have nJ:AT F ls:=by
   obtain⟨a,b⟩:=(jP hg).1 U2;exact⟨a,b⟩
  rw[Mi nJ] at bA;rw[DD hg] at bD;have bV:Tp 6656192640=((Tc 6656192640).1+1,some (.TV 29 1 (zA g))):=by rw[<- bV];exact Wm _ (by decide)
  have afP:Kept ME Tc Tp:=TH.trans (Wm.MN fun id h=>h.elim .inl fun h=> .inr (.inr (.inl h)));have oC:=okf 8512064448 (.inr (.inl rfl));have oW:=okf 8512128448 (.inr (.inl rfl));have oP:=okf 8512192448 (.inr (.inl rfl));have oA:=okf 8513344128 (.inr (.inl rfl));have oM:=okf 8576256064 (.inr (.inr rfl));have aaR:co Tp (.one (.Tn 4160320128 g 0))=[4160320128,8512128448,8513344128,8512192448,8512064448]:=by
   rw[r9 bD];simp only[aas,aaG,zY,jO bW,jO bA,jO VC,jO bC,aaI,List.flatten_nil,abK,abO,List.cons_append]
  refine Js (b:=ed ls) 3 (by omega) rfl (by kernel_rfl) oV q22 q23 YO bV ?_ (LU (cK (by simp[aaR])) (fun id h=>eW (by rw[JY,h];rfl)) hl bD) (fun v Td h=>h.1) ?_ ?_
  ·refine holds_of ?_ ?_
   ·show al.kB ([V.one (.Tn 4160320128 g 0)].map (co Tp)).flatten=true;simp only[aas,aaG,aaR,aaI,List.flatten_nil,abO,vu,Ad,okD,oC,oW,oP,oA,Bool.and_self]
   ·show(S.sites 134).all al.fs.contains=true;rw[JY];simp only[abR,abZ,f2];rfl
  ·intro hb v Tg Td hp h2;exact fail Tg Td (afP.trans (hp.2.1.MN fun id h=>h.elim .inl fun h=> .inr (.inr (.inr h)))) (adM fun h=>by rw[h.2.2] at hb;cases hb) h2
  intro UD v Tg Ub hp q22 q23 YO;obtain⟨_,hk3,hr3⟩:=hp;obtain⟨g4,bD,bM⟩:=hr3 UD;have kp: ∀ id,bY id=133->Ub id=Tp id:=fun id h=>hk3 id (by
   rintro (e|e)
   ·rw[e] at h;revert h;decide
   ·rw[e] at h;revert h;decide)
  rw[<- kp _ rfl] at bC bW VC bA;have bV:Ub 6656192640=((Tc 6656192640).1+1,some (.TV 29 1 (zA g))):=by rw[<- bV];exact hk3 _ (by decide)
  have afO:Kept ME Tc Ub:=afP.trans (hk3.MN fun id h=>h.elim .inl fun h=> .inr (.inr (.inr h)));have ok:eN F ls:=⟨hl,nJ,UD,fun l hl=>rJ (hbl l hl)⟩;have pf:=Q9 ok;have hlR:eI F ls=true:=afL.2 ⟨Tw,U2,UD⟩;have hvr:dF F ls=(iU ls==aD ae.bq ls+aD ae.aJ ls/2+2):=by
   have af5:(l0.kind==1)=true/\(aD ae.bq ls%2==0)=true:=by simpa using hbg
   simp only[dF,h0,af5.1,af5.2,hlR,acm]
  have t1:List.take ls.length (bP (gz ls))=bP (gz ls):=aau (by simp[gz]);have t2:List.take (ah ls).length (nP (ah ls))=nP (ah ls):=aau (by simp);have t3:List.take ls.length (nP (oX ls ls.length))=nP (oX ls ls.length):=aau (by simp[oX]);have t4:List.take (F+1) (nP (counts ls F))=nP (counts ls F):=aau (by simp[counts]);have n1:ls.length<=(gz ls).length:=by simp[gz]
  have n3:ls.length<=(oX ls ls.length).length:=by simp[oX]
  have n4:F+1<=(counts ls F).length:=by simp[counts]
  have UV:fM Ub (.one (.Tn 4160320128 g 0))=some (.one (.p (DP F ls)),[4160320128,8512128448,8513344128,8512192448,8576256064,8512064448]):=by
   simp only[go_sem,xP,bD,bW,bA,VC,bC,bM,uZ,t1,t2,t3,t4,n1,n3,n4]
  have YR:al.kB [4160320128,8512128448,8513344128,8512192448,8576256064,8512064448]=true:=by simp only[vu,Ad,okD,oC,oW,oP,oA,oM,Bool.and_self]
  refine Jt 4 (by omega) rfl s135 oV q22 q23 YO bV UV YR pf (fun hb Tg h2=>fail Tg Ub afO (by rw[hvr];exact hb) h2) (fun WM Tg q22 q23 YO=> ?_);have hv:dF F ls=true:=by rw[hvr];exact WM
  refine dV ?_;have n5: ¬ ((((4+1:Nat)):Int)<5):=by decide
  simp only[go_sem,i104_l1,i104_r2,q23,YO,n5];exact⟨by rw[zB,Y4,hv];rfl,afO,fun _ _=>⟨g1,g2,g3,g4,g5,bD,bC,bW,VC,bA,bM⟩,fun h=>absurd h he⟩
abbrev dgE(f:Int):PV:=SO f [] (.sl []) (.sl []) (.sl []) .Uv (.sl [])
abbrev vc(a b:PV):RV:= .tup [.one (.p a), .one (.p b)]
def BK(f:Int)(ls:List ae):RV:=if dZ f ls=0 then vc (if ls=[] then dgE f else DP f.toNat ls) (.int .i64 0) else vc .UA (.int .i64 (dZ f ls))
theorem ak{Tc:aB}{s:Nat}{a b:PV}{l:Bool}:land Tc [] s ((vc a b).bK l)=some (.tup [.one (.p a), .one (.p b)],[]):=by
 cases l<;>rfl
theorem lB{f:Int}{e:Int}(h:dZ f ls=e)(he:e≠0):BK f ls=vc .UA (.int .i64 e):=by
 unfold BK;rw[h,if_neg he]
theorem md{f:Int}(h:dZ f ls=0):BK f ls=vc (if ls=[] then dgE f else DP f.toNat ls) (.int .i64 0):=by
 unfold BK;rw[if_pos h]
theorem Kk(f:Int)(ls:List ae)(hl:ls.length<=1000000):aH S 65 [aQ f ls] (BK f ls):=by
 have pc:=sN f ls hl;refine aG c65 ?_;by_cases h1:400<ls.length
 ·have Vd:(400:Int)<(ls.length:Int):=by omega
  rw[lB (e:=7) (by unfold dZ;rw[if_pos (Or.inl h1)]) (by decide)];simp only[go_sem,i65,Vd];rfl
 have Vd: ¬ (400:Int)<(ls.length:Int):=by omega
 by_cases h2:200<aD ae.aJ ls
 ·have US:(200:Int)<(aD ae.aJ ls:Int):=by omega
  rw[lB (e:=7) (by unfold dZ;rw[if_pos (Or.inr h2)]) (by decide)];simp only[go_sem,i65,Vd,US,s73,aS pc];rfl
 have US: ¬ (200:Int)<(aD ae.aJ ls:Int):=by omega
 have n1: ¬ (400<ls.length\/200<aD ae.aJ ls):=by omega
 by_cases h3:f<0
 ·rw[lB (e:=2) (by unfold dZ;rw[if_neg n1,if_pos (Or.inl h3)]) (by decide)];simp only[go_sem,i65,Vd,US,h3,s73,aS pc];rfl
 by_cases h4:40<f
 ·rw[lB (e:=2) (by unfold dZ;rw[if_neg n1,if_pos (Or.inr h4)]) (by decide)];simp only[go_sem,i65,Vd,US,h3,h4,s73,aS pc];rfl
 have n2: ¬ (f<0\/40<f):=by omega
 obtain⟨F,rfl⟩:=aa8 (show 0<=f by omega);have T4:S.Tf 104=true:=by kernel_rfl
 simp only[go_sem,i65,Vd,US,h3,h4,s73,aS pc,T4];refine fg (P:=DV F ls 1 _) da (MP (F:=F) (ls:=ls) ?_ ?_ ?_ ?_ hl (by omega) ?_) ?_
 ·refine cK ?_;rw[aas,aaG,r9 (g0:=1) (cs:=GU F ls (.p .nils) (.p .nils) (.p .nils) (.p .Uv) (.p .nils)) (by simp only[go_sem])];simp
 ·intro id h;refine eW ?_;rw[Eg];rcases h with h|h|h<;>rw[h]<;>rfl
 ·show(S.sites 104).contains _=true;rw[Eg];rfl
 ·show(S.sites 104).contains _=true;rw[Eg];rfl
 ·simp only[go_sem]
 ·rintro v Td ⟨rfl,hk,hr,hz⟩
  unfold zB;by_cases he:ls=[]
  ·have hc:dZ F ls=0:=by unfold dZ;rw[if_neg n1,if_neg n2,if_pos he]
   have bD:=hz he;rw[md hc,if_pos he];have Y4:(decide (ls=[])||dF F ls)=true:=by simp[he]
   rw[Y4];subst he;simp only[go_sem] at bD;simp only[go_sem];simp only[go_sem,en,et,iF,cb,dg,eo,bD];rfl
  ·have Y4:decide (ls=[])=false:=by simp[he]
   cases hv:dF F ls with
   |false=>
    rw[lB (e:=3) (by unfold dZ;rw[if_neg n1,if_neg n2,if_neg he,hv];rfl) (by decide)];rw[Y4,aca];simp only[go_sem];rfl
   |true=>
    have hc:dZ F ls=0:=by unfold dZ;rw[if_neg n1,if_neg n2,if_neg he,hv];rfl
    rw[md hc,if_neg he];obtain⟨g1,g2,g3,g4,g5,bD,bC,bW,VC,bA,bM⟩:=hr he hv;have hFn:(F:Int).toNat=F:=rfl;rw[hFn];have t1:List.take ls.length (bP (gz ls))=bP (gz ls):=aau (by simp[gz]);have t2:List.take (ah ls).length (nP (ah ls))=nP (ah ls):=aau (by simp);have t3:List.take ls.length (nP (oX ls ls.length))=nP (oX ls ls.length):=aau (by simp[oX]);have t4:List.take (F+1) (nP (counts ls F))=nP (counts ls F):=aau (by simp[counts]);have n1:ls.length<=(gz ls).length:=by simp[gz]
    have n3:ls.length<=(oX ls ls.length).length:=by simp[oX]
    have n4:F+1<=(counts ls F).length:=by simp[counts]
    rw[Y4,aca];simp only[go_sem];simp only[go_sem,en,et,iF,cb,dg,eo,xP,bD,bW,bA,VC,bC,bM,uZ,t1,t2,t3,t4,n1,n3,n4];rfl
abbrev dL(k a b c:Int)(l o:Bool)(s:Int):V:= .agg [.p (.int .i64 k), .p (.int .i64 a), .p (.int .i64 b), .p (.int .i64 c), .p (.bool l), .p (.bool o), .p (.int .i64 s)]
abbrev kH(e:Int):RV:= .tup [.agg [.p (.int .i64 0), .p .nils], .one (.p (.int .i64 e))]
theorem yy{Tc:aB}{s:Nat}{e:Int}{l:Bool}:land Tc [] s ((kH e).bK l)=some (.tup [.agg [.p (.int .i64 0), .p .nils], .one (.p (.int .i64 e))],[]):=by
 cases l<;>rfl
section
variable {f:Int} {ls:List ae} {e:Int}
abbrev kinds(k:Nat):List Nat:=(List.range k).map (· +1)
end
theorem Fs:aH S 8 [.agg [.p (.int .i64 0), .p (.sl [])], .agg [.p (.int .i64 0), .p (.sl [])]] (rb true):=by
 refine aG c8 ?_;have z:(((0:Nat):Int)!=((0:Nat):Int))=false:=by decide
 have z2: ¬ (((0:Int))<((0:Nat):Int)):=by decide
 have z3:((0:Int)!=(0:Int))=false:=by decide
 simp only[go_sem,i8,z,z3];refine dV ?_;simp only[go_sem,i8_l1,i8_r2,z2]
end
end Go.Abs
