/- A part. -/
import Derived.Test.YtanhekelecofdaaGreatDoorWa
set_option linter.all false
set_option maxRecDepth 100000
set_option maxHeartbeats 16000000
namespace Go.Abs
section
variable{ls:ai}{F j n2 x:Nat}
abbrev nL(F:Nat)(ls:ai):PV:=dgP F ls (.sl (bP (kS ls))) (.sl (nP (aI ls))) (.sl (nP (jO ls ls.length))) (.mp true (qS ls ls.length)) (.sl (nP (counts ls F)))
structure fN (F:Nat) (ls:ai):Prop where
 hl:ls.length<=1000000
 ax:Da F ls
 cr:mI ls=true
 kinds:∀l∈ls,l.aF=true\/l.aD=true
def Ac{a:Nat}(h:a<=9223372036854775807):IntKind.i64.wrap ((a:Int)-1)=(a:Int)-1:=by
 cases a with
 |zero=>decide
 |succ a=>rw[LU aa h];omega
def aiR{a n:Nat}(hn:1<=n)(h:a+n<=9223372036854775807):IntKind.i64.wrap (((a:Int)-1)+(n:Int))=((a+n-1:Nat):Int):=by have e:((a:Int)-1)+(n:Int)=((a+n-1:Nat):Int):=aa;rw[e];exact wrap_small aa
def Xh(F:Nat)(ls:ai)(i:Nat)(hl:ls.length<=1000000)(hi:i<ls.length):aO S 120 [.one (.p (nL F ls)),vi i] (ri (dB ls.length i true)):=by refine bY c120 ?_;have e:=uZ (a:=i) aa;simp only[go_sem,i120,e,dB]
def Wh(F:Nat)(ls:ai)(i:Nat)(hl:ls.length<=1000000)(hi:i<ls.length):aO S 119 [.one (.p (nL F ls)),vi i] (ri (dB ls.length i false)):=by refine bY c119 ?_;have e1:=Ac (a:=i) aa;have e2:=aiR (a:=i) (n:=ls.length) aa aa;have e3:=xv (i+ls.length-1) ls.length;have hm:=dk (i+ls.length-1) (show 0<ls.length by omega);have e4:=uZ (a:=(i+ls.length-1)%ls.length) aa;have e5:=df (n:=2*((i+ls.length-1)%ls.length)) aa;have hz:¬((ls.length:Int)=0):=aa;simp only[go_sem,i119,e1,e2,e3,e4,e5,hz,dB]
def Qu{v:Nat}{l:Let}(h:ls[v]?=some l)(hp:l.aF=true):(kS ls)[v]?=some (dn ls v):=by have:=(aW.1 h).1;simp[kS,tM this,eW,h,hp]
def aru{v:Nat}{l:Let}(h:ls[v]?=some l)(hp:l.aF=true):(jO ls ls.length)[v]?=some (dD ls l):=by have:=(aW.1 h).1;simp[jO,this,Ip h hp]
def fN.Ul(ok:fN F ls){v:Nat}{l:Let}(h:ls[v]?=some l)(h2:(l.kind==2)=false):l.aF=true:=by
 rcases ok.kinds l (aZ h) with hp|hc
 .exact hp
 unfold Let.aD at hc;rw[h2] at hc;cases hc
def ab4(ok:fN F ls)(d:Nat)(hd:d<2*ls.length+2*(aI ls).length):aO S 97 [.one (.p (nL F ls)),vi d] (ri (iA ls (aI ls) d)):=by
 have hl:=ok.hl;have iC:(aI ls).length<=1000000:=oZ (xN ls ls.length) hl;have kD:∀x∈aI ls,x<ls.length/\ ∃l,ls[x]?=some l/\l.aF=true:=fun x hx=>by obtain⟨l,h1,h2⟩:=uz.1 hx;exact⟨(aW.1 h1).1,l,h1,h2⟩
 have m1:IntKind.i64.wrap (2*(ls.length:Int))=((2*ls.length:Nat):Int):=uZ aa;unfold iA;by_cases h:2*ls.length<=d
 .rw[aG h];refine bY c97 ?_;have h':((2*ls.length:Nat):Int)<=(d:Int):=aa;have m2:=aac (a:=d) (b:=2*ls.length) h aa;have m3:=wrap_small (n:=(d-2*ls.length)/2) aa;have hm:=dk ((d-2*ls.length)/2+1) (show 0<(aI ls).length by omega);have qL:¬(((aI ls).length:Int)=0):=aa;obtain⟨u,hu⟩:=aN (ls:=aI ls) (k:=(d-2*ls.length)/2) aa;have ym:=kI hu;by_cases h2:d%2=0
  .rw[aG h2];have m4:=df (n:=(d-2*ls.length)/2) aa;have ju:(((d%2:Nat):Int)==0)=true:=by simp[h2]
   have m5:=xv ((d-2*ls.length)/2+1) (aI ls).length;obtain⟨v,hv⟩:=aN hm;have qP:(aI ls).getD (((d-2*ls.length)/2+1)%(aI ls).length) 0=v:=by rw[dK,hv];rfl
   rw[qP];obtain⟨tx,l,jD,ni⟩:=kD v (aZ hv);have BZ:=kI hv;have fD:=tR (Qu jD ni);have pf:=Xh F ls v hl tx;have pb:=Wh F ls v hl tx;cases hq:dn ls v with
   |true=>rw[hq] at fD;simp only[go_sem,i97,m1,m2,m3,m4,m5,h',ju,ym,BZ,fD,qL,jI,eQ,dZ,s119,eF pb];exact⟨aL,aL⟩
   |false=>rw[hq] at fD;simp only[go_sem,i97,m1,m2,m3,m4,m5,h',ju,ym,BZ,fD,qL,jI,eQ,dZ,s120,eF pf];exact⟨aL,aL⟩
  rw[aC h2];have ju:(((d%2:Nat):Int)==0)=false:=by simp;omega
  have qP:(aI ls).getD ((d-2*ls.length)/2) 0=u:=by rw[dK,hu];rfl
  rw[qP];obtain⟨tx,l,jD,ni⟩:=kD u (aZ hu);have fD:=tR (Qu jD ni);have pf:=Xh F ls u hl tx;have pb:=Wh F ls u hl tx;cases hq:dn ls u with
  |true=>rw[hq] at fD;simp only[go_sem,i97,m1,m2,m3,h',ju,ym,fD,jI,eQ,dZ,s120,eF pf];exact aL
  |false=>rw[hq] at fD;simp only[go_sem,i97,m1,m2,m3,h',ju,ym,fD,jI,eQ,dZ,s119,eF pb];exact aL
 rw[aC h];have h':¬(((2*ls.length:Nat):Int)<=(d:Int)):=aa;have m3:=wrap_small (n:=d/2) aa;have fE:¬((ls.length:Int)=0):=aa;have qL:=dk (d/2+1) (show 0<ls.length by omega);have m4:=df (n:=d/2) aa;have m5:=xv (d/2+1) ls.length;have body:∀v:Nat,v<ls.length->∀fw:Bool,v=(if fw then (d/2+1)%ls.length else d/2)->(((d%2:Nat):Int)==0)=fw->aO S 97 [.one (.p (nL F ls)),vi d] (ri ((match ls[v]? with
   |none=>0
   |some l=>if l.kind==2 then dB ls.length (fQ ls v) (fw==(l.over==(l.sign==1)))
    else if dn ls v==fw then 2*ls.length+2*(aI ls).idxOf v else 2*ls.length+2*(((aI ls).idxOf v+(aI ls).length-1)%(aI ls).length)+1:Nat):Int)):=by
  intro v hv fw fO r6;obtain⟨l,jD⟩:=aN hv;have iE:=jo jD;rw[jD];simp only;refine bY c97 ?_;cases hk:(l.kind==2) with
  |true=>
   have hc:l.aD=true:=hk;have dp:(l.kind==1)=false:=by simp only[dh] at hk;rw[hk];rfl
   obtain⟨FT,OA⟩:=UD ok.cr jD hc;have hf:=acT ls ls.length l.id;rw[aG (T9 (aZ jD) hc)] at hf;have pf:=Xh F ls (fQ ls v) hl OA;have pb:=Wh F ls (fQ ls v) hl OA;cases ho:l.over with
   |true=>
    rw[ho] at FT;have FT:hU ls ls.length l.id false=some (fQ ls v):=FT;simp only[rX,FT] at hf;simp only[CM] at hf;cases hs:(l.sign==1) with
    |true=>
     cases fw with
     |true=>have fO:v=(d/2+1)%ls.length:=fO;rw[fO] at iE hf pf pb |-;simp only[go_sem,i97,m1,m3,m4,m5,h',r6,iE,Let.ps,fE,dp,ho,hs,jI,eQ,dZ,mapOf,mapVal,iK,hf,s120,eF pf];exact⟨aL,aL⟩
     |false=>have fO:v=d/2:=fO;rw[fO] at iE hf pf pb |-;simp only[go_sem,i97,m1,m3,h',r6,iE,Let.ps,dp,ho,hs,jI,eQ,dZ,mapOf,mapVal,iK,hf,s119,eF pb];exact⟨aL,aL⟩
    |false=>
     cases fw with
     |true=>have fO:v=(d/2+1)%ls.length:=fO;rw[fO] at iE hf pf pb |-;simp only[go_sem,i97,m1,m3,m4,m5,h',r6,iE,Let.ps,fE,dp,ho,hs,jI,eQ,dZ,mapOf,mapVal,iK,hf,s119,eF pb];exact⟨aL,aL⟩
     |false=>have fO:v=d/2:=fO;rw[fO] at iE hf pf pb |-;simp only[go_sem,i97,m1,m3,h',r6,iE,Let.ps,dp,ho,hs,jI,eQ,dZ,mapOf,mapVal,iK,hf,s120,eF pf];exact⟨aL,aL⟩
   |false=>
    rw[ho] at FT;have FT:hU ls ls.length l.id true=some (fQ ls v):=FT;simp only[rX,FT] at hf;simp only[CM] at hf;cases hs:(l.sign==1) with
    |true=>
     cases fw with
     |true=>have fO:v=(d/2+1)%ls.length:=fO;rw[fO] at iE hf pf pb |-;simp only[go_sem,i97,m1,m3,m4,m5,h',r6,iE,Let.ps,fE,dp,ho,hs,jI,eQ,dZ,mapOf,mapVal,iK,hf,s119,eF pb];exact⟨aL,aL⟩
     |false=>have fO:v=d/2:=fO;rw[fO] at iE hf pf pb |-;simp only[go_sem,i97,m1,m3,h',r6,iE,Let.ps,dp,ho,hs,jI,eQ,dZ,mapOf,mapVal,iK,hf,s120,eF pf];exact⟨aL,aL⟩
    |false=>
     cases fw with
     |true=>have fO:v=(d/2+1)%ls.length:=fO;rw[fO] at iE hf pf pb |-;simp only[go_sem,i97,m1,m3,m4,m5,h',r6,iE,Let.ps,fE,dp,ho,hs,jI,eQ,dZ,mapOf,mapVal,iK,hf,s120,eF pf];exact⟨aL,aL⟩
     |false=>have fO:v=d/2:=fO;rw[fO] at iE hf pf pb |-;simp only[go_sem,i97,m1,m3,h',r6,iE,Let.ps,dp,ho,hs,jI,eQ,dZ,mapOf,mapVal,iK,hf,s119,eF pb];exact⟨aL,aL⟩
  |false=>
   have hp:=ok.Ul jD hk;have dp:(l.kind==1)=true:=hp;have fD:=tR (Qu jD hp);have bd:=kI (aru jD hp);have DK:=EX ok.ax jD hp;have hpT:=Zl (ok.ax.fq l (aZ jD) hp);rw[Gu ok.ax.rZ] at hpT;rw[DK];have DQ:¬(((aI ls).length:Int)=0):=aa;have kY:=dk (dD ls l+(aI ls).length-1) (show 0<(aI ls).length by omega);have n1:=uZ (a:=dD ls l) aa;have n2:=wrap_add (a:=2*ls.length) (b:=2*dD ls l) aa;have n3:=Ac (a:=dD ls l) aa;have n4:=aiR (a:=dD ls l) (n:=(aI ls).length) aa aa;have n5:=xv (dD ls l+(aI ls).length-1) (aI ls).length;have n6:=uZ (a:=(dD ls l+(aI ls).length-1)%(aI ls).length) aa;have n7:=wrap_add (a:=2*ls.length) (b:=2*((dD ls l+(aI ls).length-1)%(aI ls).length)) aa
   have n8:=df (n:=2*ls.length+2*((dD ls l+(aI ls).length-1)%(aI ls).length)) aa;cases fw with
   |true=>
    have fO:v=(d/2+1)%ls.length:=fO;cases NY:dn ls v with
    |true=>rw[NY] at fD;rw[fO] at iE fD bd;simp only[go_sem,i97,m1,m3,m4,m5,h',r6,iE,Let.ps,fE,dp,jI,eQ,dZ,fD,bd,n1,n2];exact aL
    |false=>rw[NY] at fD;rw[fO] at iE fD bd;simp only[go_sem,i97,m1,m3,m4,m5,h',r6,iE,Let.ps,fE,dp,jI,eQ,dZ,fD,bd,n3,n4,n5,n6,n7,n8,DQ];exact aL
   |false=>
    have fO:v=d/2:=fO;cases NY:dn ls v with
    |true=>rw[NY] at fD;rw[fO] at iE fD bd;simp only[go_sem,i97,m1,m3,h',r6,iE,Let.ps,dp,jI,eQ,dZ,fD,bd,n3,n4,n5,n6,n7,n8,DQ];exact aL
    |false=>rw[NY] at fD;rw[fO] at iE fD bd;simp only[go_sem,i97,m1,m3,h',r6,iE,Let.ps,dp,jI,eQ,dZ,fD,bd,n1,n2];exact aL
 have tx:(if (d%2==0)=true then (d/2+1)%ls.length else d/2)<ls.length:=by
  split
  .exact qL
  omega
 have:=body _ tx (d%2==0) rfl (by cases hq:(d%2==0)<;>simp at hq |- <;>omega);exact this
abbrev aQ(ls:ai):Nat->Nat:=iA ls (aI ls)
def amP(ok:fN F ls){Q:eK}:
  ∀(fuel x:Nat) (sn:l_) (ak:Env) (aj:aE),ak 0=.one (.p (nL F ls))->ak 4=.one (.hsl 5376128064 1 1 0 sn.length)->aj 5376128064=(1,some (.arr 4 1 (bP sn)))->
   ak 7=vi x->x<sn.length->sn.length=2*ls.length+2*(aI ls).length->Aa sn<fuel->
   (∀aH ao,aH 0=ak 0->aH 4=ak 4->aH 5=ak 5->aH 24=ak 24->aH 25=ak 25->ao 5376128064=(1,some (.arr 4 1 (bP (fK (aQ ls) fuel x sn).2)))->Q .normal aH ao)->
   W S .all (.loop i84_l1) (rV 2 Q) ak aj:=by
 have iC:(aI ls).length<=1000000:=oZ (xN ls ls.length) ok.hl;have kD:∀x∈aI ls,x<ls.length:=fun x h=>Qb h;have hp:∀v l,ls[v]?=some l->(l.kind==2)=false->v∈aI ls:=fun v l hv h2=>uz.2 ⟨l,hv,ok.Ul hv h2⟩;intro fuel
 induction fuel with
 |zero=>intro x sn ak aj _ _ _ _ _ _ h;omega
 |succ fuel ih=>
  intro x sn ak aj h0 h4 hS h7 hx hsl hu hq;obtain⟨b,hb⟩:=aN hx;have kV:=tR hb;have A3:sn.getD x true=b:=by rw[dK,hb];rfl
  unfold fK at hq;rw[A3] at hq;refine sJ ?_;cases b with
  |true=>simp only[go_sem,i84_l1,h4,hS,h7,hx,kV];refine hq _ _ ?_ ?_ ?_ ?_ ?_ hS;all_goals simp only[go_sem,h4]
  |false=>
   have FR:=Pt hb;have pt:=ab4 ok x aa;have jW:=Vx (d:=x) kD hp aa;have iF:=Jf sn x true;simp only[go_sem,i84_l1,h0,h4,hS,h7,hx,kV,iF,s97,eF pt];refine ih (iA ls (aI ls) x) (sn.set x true) _ _ ?_ ?_ ?_ ?_ (by simpa [hsl] using jW) (by simpa using hsl) aa ?_
   .simp only[go_sem,h0]
   .simp only[go_sem,h4,nA]
   .simp only[go_sem]
   .simp only[go_sem]
   intro aH ao q0 q4 q5 nV xj b1;refine hq aH ao ?_ ?_ ?_ ?_ ?_ b1
   .rw[q0];simp only[go_sem]
   .rw[q4];simp only[go_sem]
   .rw[q5];simp only[go_sem]
   .rw[nV];simp only[go_sem]
   rw[xj];simp only[go_sem]
def amT(ok:fN F ls):aO S 84 [.one (.p (nL F ls))] (rb (mO ls==aq Let.aF ls+aq Let.aD ls/2+2)):=by
 have hl:=ok.hl;have iC:(aI ls).length<=ls.length:=xN ls ls.length;have m1:=uZ (a:=ls.length) aa;have m2:=uZ (a:=(aI ls).length) aa;have m3:=wrap_add (a:=2*ls.length) (b:=2*(aI ls).length) aa;have lf:2*ls.length+2*(aI ls).length<=140737488355328:=aa;have DV:List.replicate (2*ls.length+2*(aI ls).length) [PV.bool false]=bP (List.replicate (2*ls.length+2*(aI ls).length) false):=af;have kY:(qS ls ls.length).length=aq Let.aD ls/2:=by have:=ok.cr;unfold mI at this;simp only[cJ,dh] at this;simp[qS,this.2]
 have uJ:aq Let.aD ls<=ls.length:=sR _ _;refine bY c84 ?_;simp only[go_sem,i84,m1,m2,m3,lf,DV];refine⟨aL,?_⟩;generalize hN:2*ls.length+2*(aI ls).length=N at lf;refine dG (fun k ak aj=>ak 0=.one (.p (nL F ls))/\ak 4=.one (.hsl 5376128064 1 1 0 N)/\aj 5376128064=(1,some (.arr 4 1 (bP (eB (aQ ls) N k).2)))/\
   ak 5=vi (eB (aQ ls) N k).1.length/\ak 24=vi N/\ak 25=vi k) 0 N (cA _) ?_ ?_
 .simp only[go_sem];exact⟨rfl,rfl,rfl⟩
 rintro k ak aj hk ⟨h0,h4,hS,h5,mK,ng⟩
 have hlen:=IA (aQ ls) N k;have FL:=Px (aQ ls) N k;by_cases aB:k<N
 .have aP:((k:Int)<(N:Int)):=aa;have w1:=df (n:=k) aa;have hs:=Ab (aQ ls) N k;generalize di:eB (aQ ls) N k=st at hlen hs hS h5 FL;obtain⟨out,sn⟩:=st;simp only at hlen hS h5 FL;obtain⟨b,hb⟩:=aN (ls:=sn) (k:=k) aa;have kV:=tR hb;unfold vT at hs;have A3:sn.getD k true=b:=by rw[dK,hb];rfl
  simp only[A3] at hs;cases b with
  |true=>have hs:eB (aQ ls) N (k+1)=(out,sn):=hs;simp only[go_sem,i84_l3,i84_r2,h0,h4,hS,h5,mK,ng,aB,aP,kV,w1,hs]
  |false=>
   have hs:eB (aQ ls) N (k+1)=(out++[(fK (aQ ls) (N+1) k sn).1],(fK (aQ ls) (N+1) k sn).2):=by rw[hs,hlen];rfl
   have hul:=LQ sn;have w2:=df (n:=out.length) aa;simp only[go_sem,i84_l3,h4,hS,h5,mK,ng,aB,aP,kV,w2];refine amP ok (N+1) k sn _ _ ?_ ?_ ?_ ?_ aa aa aa ?_
   .simp only[go_sem,h0]
   .simp only[go_sem,h4,hlen]
   .simp only[go_sem,hS]
   .simp only[go_sem]
   intro aH ao q0 q4 q5 nV xj b1;simp only[go_sem,h0,h4,h5,mK,ng] at q0 q4 q5 nV xj;simp only[go_sem,i84_r2,q0,q4,q5,nV,xj,b1,w1,hs,aB];simp
 have:k=N:=aa;subst this;have he:mO ls=(eB (aQ ls) k k).1.length:=by unfold mO gO aQ;rw[hN]
 rw[<- he] at h5;have w3:=wrap_add (a:=(aI ls).length) (b:=aq Let.aD ls/2) aa;have w4:IntKind.i64.wrap ((((aI ls).length+aq Let.aD ls/2:Nat):Int)+2)=(((aI ls).length+aq Let.aD ls/2+2:Nat):Int):=wrap_add (a:=(aI ls).length+aq Let.aD ls/2) (b:=2) aa;have hb:(((mO ls:Nat):Int)==(((aI ls).length+aq Let.aD ls/2+2:Nat):Int))=(mO ls==aq Let.aF ls+aq Let.aD ls/2+2):=by
  rw[Db];cases h:(mO ls==aq Let.aF ls+aq Let.aD ls/2+2) with
  |true=>simp at h |-;omega
  |false=>simp at h |-;omega
 simp only[go_sem,i84_l3,i84_r4,h0,h5,mK,ng,fh,rM,kY,w3,w4,hb];exact aL
abbrev Mc(id:Nat):Prop:=id=2560320128\/(jH id=63\/jH id=82\/jH id=83)
def alL(F:Nat)(ls:ai)(g:Nat)(aj:aE):Prop:= ∃g1 g2 g3 g4 g5,
 aj 2560320128=(g,some (.var (wA F ls (hs 5248128448 g2 ls.length) (hs 5249344128 g5 (aI ls).length) (hs 5248192448 g3 ls.length) (.kE 5312256064 g4) (hs 5248064448 g1 (F+1)))))/\
 aj 5248064448=(g1,some (.arr 3 1 (nP (counts ls F))))/\aj 5248128448=(g2,some (.arr 4 1 (bP (kS ls))))/\aj 5248192448=(g3,some (.arr 3 1 (nP (jO ls ls.length))))/\
 aj 5249344128=(g5,some (.arr 3 1 (nP (aI ls))))/\aj 5312256064=(g4,some (.map true (qS ls ls.length)))
def Vz(F:Nat)(ls:ai):Bool:=decide (ls=[])||mz F ls
def ZY(F:Nat)(ls:ai)(g:Nat)(pK:aE)(v:V)(ao:aE):Prop:=v=vb (Vz F ls)/\Kept Mc pK ao/\(ls≠[]->mz F ls=true->alL F ls g ao)/\(ls=[]->ao 2560320128=pK 2560320128)
def ZD:S.sites 63=[63,82,83]:=ah
def ahL:S.sites 82=[82]:=ah
def ahM:S.sites 83=[83]:=ah
def Kept.VE{K K':Nat->Prop}{a b:aE}(h:Kept K a b)(hk:∀id,K id->K' id):Kept K' a b:=fun id hn=>h id fun hh=>hn (hk id hh)
abbrev EC(g:Nat):List f_:=[[.hfn 80 [.bt 2560320128 g 0] []],[.hfn 81 [.bt 2560320128 g 0] []],[.hfn 82 [.bt 2560320128 g 0] []],[.hfn 83 [.bt 2560320128 g 0] []],[.hfn 84 [.bt 2560320128 g 0] []]]
section
variable {al:Al} {Q:eK} {ak:Env} {aj:aE} {g g0:Nat}
def Z5(k:Nat){f:Nat}{dv:PV}{r:a_}{b:Bool}(hk:k<5)(hf:(EC g)[k]?=some [.hfn f [.bt 2560320128 g 0] []])(KC:S.shared f=false)(oV:al.ok 4032192640=true)
  (uI:ak 22=.one (hs 4032192640 g0 5)) (pP:ak 23=vi 5) (mK:ak 24=vi k) (bV:aj 4032192640=(g0,some (.jg 26 1 (EC g))))
  (rI:oX aj (.one (.bt 2560320128 g 0))=some (.one (.p dv),r)) (hr:al.fT r=true) (hp:aO S f [.one (.p dv)] (rb b))
  (XK:b=false->∀aH,aH 2=vb false->Q .ret aH aj)
  (Yl:b=true->∀aH,aH 22=.one (hs 4032192640 g0 5)->aH 23=vi 5->aH 24=vi ((k+1:Nat):Int)->W S al (.loop i63_l1) Q aH aj):W S al (.loop i63_l1) Q ak aj:=by
 refine sJ ?_;have aB:((k:Int)<5):=aa;have w1:=df (n:=k) aa;cases b with
 |false=>simp only[go_sem,i63_l1,uI,pP,mK,bV,aB,hk,hf,KC,oV,↓rI,adg hp,hr];exact XK rfl _ (by simp only[go_sem])
 |true=>
  simp only[go_sem,i63_l1,uI,pP,mK,bV,aB,hk,hf,KC,oV,↓rI,adg hp,hr,w1];refine Yl rfl _ ?_ ?_ ?_
  .simp only[go_sem,uI]
  .simp only[go_sem,pP]
  simp only[go_sem]
def aiC(k:Nat){f:Nat}{P:V->aE->Prop}{b:Bool}(hk:k<5)(hf:(EC g)[k]?=some [.hfn f [.bt 2560320128 g 0] []])(KC:S.shared f=true)(oV:al.ok 4032192640=true)
  (uI:ak 22=.one (hs 4032192640 g0 5)) (pP:ak 23=vi 5) (mK:ak 24=vi k) (bV:aj 4032192640=(g0,some (.jg 26 1 (EC g))))
  (hh:al.holds (allow (S.ctx al) f [.one (.bt 2560320128 g 0)] aj)=true) (h:∃v ao,jd S f [.one (.bt 2560320128 g 0)] (allow (S.ctx al) f [.one (.bt 2560320128 g 0)] aj) aj v ao/\P v ao)
  (hP:∀v ao,P v ao->v=vb b)
  (XK:b=false->∀v aH ao,P v ao->aH 2=vb false->Q .ret aH ao)
  (Yl:b=true->∀v aH ao,P v ao->aH 22=.one (hs 4032192640 g0 5)->aH 23=vi 5->aH 24=vi ((k+1:Nat):Int)->W S al (.loop i63_l1) Q aH ao):W S al (.loop i63_l1) Q ak aj:=by
 refine sJ ?_;have aB:((k:Int)<5):=aa;have w1:=df (n:=k) aa;simp only[go_sem,i63_l1,uI,pP,mK,bV,aB,hk,hf,KC,oV];refine sY hh h fun v ao hp=>?_;have hv:=hP v ao hp;subst hv;cases b with
 |false=>simp only[go_sem];exact XK rfl _ _ _ hp (by simp only[go_sem])
 |true=>
  simp only[go_sem,mK,w1];refine Yl rfl _ _ _ hp ?_ ?_ ?_
  .simp only[go_sem,uI]
  .simp only[go_sem,pP]
  simp only[go_sem]
end
def avg{al:Al}(okD:al.ok 2560320128=true)(okf:∀id,(jH id=63\/jH id=82\/jH id=83)->al.ok id=true)(f1:al.fs.contains 82=true)(f2:al.fs.contains 83=true)
  {aj:aE} {g F:Nat} {ls:ai} (hl:ls.length<=1000000) (hF:F<=1000000)
  (bD:aj 2560320128=(g,some (.var (wA F ls (.p .nils) (.p .nils) (.p .nils) (.p .sA) (.p .nils))))):∃v ao,jd S 63 [.one (.bt 2560320128 g 0)] al aj v ao/\ZY F ls g aj v ao:=by
 have oV:=okf 4032192640 (.inl rfl);refine nH c63 (iI rfl) ?_;by_cases he:ls=[]
 .subst he;have hz:(((0:Nat):Int)==0)=true:=ae;simp only[go_sem,i63,bD,hz,okD];exact⟨rfl,Kept.refl _ _,fun h=>absurd rfl h,fun _=>rfl⟩
 have jE:=jQ.2 he;have HE:(((ls.length:Nat):Int)==0)=false:=by simp;omega
 obtain⟨l0,h0⟩:=aN jE;have pR:decide (ls=[])=false:=by simp[he]
 have pl:=alM F ls (.sl []) (.sl []) (.sl []) .sA (.sl []) hl ⟨rfl,rfl,rfl,rfl,rfl⟩;have pb:=alG F ls l0 (.sl []) (.sl []) (.sl []) .sA (.sl []) hl h0;have ad3:=YJ (F:=F) (ls:=ls);have fail:∀aH ao,Kept Mc aj ao->mz F ls=false->aH 2=vb false->rV 0 (Ew S al i63_r2 (tW al [(2,none)] (ZY F ls g aj))) .ret aH ao:=fun aH ao hk hv h2=>by simp only[go_sem,h2];exact⟨by rw[Vz,pR,hv];rfl,hk,fun _ h=>(by rw[hv] at h;cases h),fun h=>absurd h he⟩
 have noL:yy F ls=false->mz F ls=false:=fun h=>by simp[mz,h]
 have YZ:¬(ls.any (dS F)=false/\zT ls=true/\mI ls=true)->mz F ls=false:=fun h=>noL (by
  cases hq:yy F ls with
  |false=>rfl
  |true=>exact absurd (ad3.1 hq) h)
 simp only[go_sem,i63,bD,HE,okD,oV];have dp:Kept Mc aj (eH aj 4032192640 ((aj 4032192640).1+1,some (.jg 26 1 (EC g)))):=Kept.eH (Kept.refl _ _) (.inr (.inl rfl)) _;generalize dN:eH aj 4032192640 ((aj 4032192640).1+1,some (.jg 26 1 (EC g)))=cZ;rw[dN] at dp;have bV:cZ 4032192640=((aj 4032192640).1+1,some (.jg 26 1 (EC g))):=by rw[<- dN];simp only[go_sem]
 have bD:cZ 2560320128=(g,some (.var (wA F ls (.p .nils) (.p .nils) (.p .nils) (.p .sA) (.p .nils)))):=by rw[<- dN];simp only[go_sem,bD]
 clear dN;have rI:oX cZ (.one (.bt 2560320128 g 0))=some (.one (.p (dgP F ls (.sl []) (.sl []) (.sl []) .sA (.sl []))),[2560320128]):=by simp only[go_sem,bD]
 have pZ:al.fT [2560320128]=true:=by simp only[go_sem,okD]
 refine Z5 0 aa rfl s80 oV (by simp only[go_sem]) (by simp only[go_sem];rfl) (by simp only[go_sem];rfl) bV rI pZ pl (fun hb aH h2=>fail aH cZ dp (YZ fun h=>by simp[h.1] at hb) h2) (fun hb aH Bk qq nV=>?_);have dN:ls.any (dS F)=false:=by simpa using hb
 have ya:∀l∈ls,dS F l=false:=fun l hl=>by simpa using IF.1 dN l hl
 have hg:rZ F ls:=fun l hl hp=>((sC hp).1 (ya l hl)).1.1.1;refine Z5 1 aa rfl s81 oV Bk qq nV bV rI pZ pb (fun hb aH h2=>fail aH cZ dp (by simp only[mz,h0,hb];rfl) h2) (fun hbg aH Bk qq nV=>?_);clear hb;have hre:jy cZ (.one (.bt 2560320128 g 0))=[2560320128]:=by rw[Lo bD];simp[Ln]
 refine aiC (b:=zT ls) 2 aa rfl ah oV Bk qq nV bV ?_ (asn (vg (by simp[hre])) (fun id h=>vf (by rw[ahL,h];rfl)) hl hF hg bD) (fun v ao h=>h.1) ?_ ?_
 .refine holds_of ?_ ?_
  .show al.fT ([V.one (.bt 2560320128 g 0)].map (jy cZ)).flatten=true;simp only[eD,kL,hre,mS,IJ,jJ];exact pZ
  show(S.sites 82).all al.fs.contains=true;rw[ahL];simp only[oY,sH,f1];rfl
 .intro hb v aH ao hp h2;exact fail aH ao (dp.trans (hp.2.1.VE fun id h=>h.elim .inl fun h=>.inr (.inr (.inl h)))) (YZ fun h=>by rw[h.2.1] at hb;cases hb) h2
 intro mq v aH bN hp Bk qq nV;obtain⟨_,jv,wS⟩:=hp;obtain⟨g1,g2,g3,g5,bD,bC,bW,nJ,bA⟩:=wS mq;have kD:Da F ls:=by obtain⟨a,b⟩:=(Pe hg).1 mq;exact⟨a,b⟩
 rw[aj3 kD] at bA;rw[Gu hg] at bD;have bV:bN 4032192640=((aj 4032192640).1+1,some (.jg 26 1 (EC g))):=by rw[<- bV];exact jv _ ae
 have adZ:Kept Mc aj bN:=dp.trans (jv.VE fun id h=>h.elim .inl fun h=>.inr (.inr (.inl h)));have oC:=okf 5248064448 (.inr (.inl rfl));have oW:=okf 5248128448 (.inr (.inl rfl));have oP:=okf 5248192448 (.inr (.inl rfl));have oA:=okf 5249344128 (.inr (.inl rfl));have oM:=okf 5312256064 (.inr (.inr rfl));have OI:jy bN (.one (.bt 2560320128 g 0))=[2560320128,5248128448,5249344128,5248192448,5248064448]:=by rw[Lo bD];simp only[eD,kL,Ln,Eo bW,Eo bA,Eo nJ,Eo bC,mS,IJ,gR,jJ,nY]
 refine aiC (b:=mI ls) 3 aa rfl ah oV Bk qq nV bV ?_ (alI (vg (by simp[OI])) (fun id h=>vf (by rw[ahM,h];rfl)) hl bD) (fun v ao h=>h.1) ?_ ?_
 .refine holds_of ?_ ?_
  .show al.fT ([V.one (.bt 2560320128 g 0)].map (jy bN)).flatten=true;simp only[eD,kL,OI,mS,IJ,jJ,Ii,Ij,okD,oC,oW,oP,oA,xy]
  show(S.sites 83).all al.fs.contains=true;rw[ahM];simp only[oY,sH,f2];rfl
 .intro hb v aH ao hp h2;exact fail aH ao (adZ.trans (hp.2.1.VE fun id h=>h.elim .inl fun h=>.inr (.inr (.inr h)))) (YZ fun h=>by rw[h.2.2] at hb;cases hb) h2
 intro fg v aH je hp Bk qq nV;obtain⟨_,hk3,hr3⟩:=hp;obtain⟨g4,bD,bM⟩:=hr3 fg;have kp:∀id,jH id=82->je id=bN id:=fun id h=>hk3 id (by
  rintro (e|e)
  .rw[e] at h;revert h;decide
  rw[e] at h;revert h;decide)
 rw[<- kp _ rfl] at bC bW nJ bA;have bV:je 4032192640=((aj 4032192640).1+1,some (.jg 26 1 (EC g))):=by rw[<- bV];exact hk3 _ ae
 have ad1:Kept Mc aj je:=adZ.trans (hk3.VE fun id h=>h.elim .inl fun h=>.inr (.inr (.inr h)));have ok:fN F ls:=⟨hl,kD,fg,fun l hl=>wg (ya l hl)⟩;have pf:=amT ok;have hlR:yy F ls=true:=ad3.2 ⟨dN,mq,fg⟩;have hvr:mz F ls=(mO ls==aq Let.aF ls+aq Let.aD ls/2+2):=by
  have adG:(l0.kind==1)=true/\(aq Let.aF ls%2==0)=true:=by simpa using hbg
  simp only[mz,h0,adG.1,adG.2,hlR,CQ]
 have t1:List.take ls.length (bP (kS ls))=bP (kS ls):=gT (by simp[kS]);have t2:List.take (aI ls).length (nP (aI ls))=nP (aI ls):=gT af;have t3:List.take ls.length (nP (jO ls ls.length))=nP (jO ls ls.length):=gT (by simp[jO]);have t4:List.take (F+1) (nP (counts ls F))=nP (counts ls F):=gT (by simp[counts]);have n1:ls.length<=(kS ls).length:=by simp[kS]
 have n3:ls.length<=(jO ls ls.length).length:=by simp[jO]
 have n4:F+1<=(counts ls F).length:=by simp[counts]
 have rI:oX je (.one (.bt 2560320128 g 0))=some (.one (.p (nL F ls)),[2560320128,5248128448,5249344128,5248192448,5312256064,5248064448]):=by simp only[go_sem,ahY,bD,bW,bA,nJ,bC,bM,ZK,t1,t2,t3,t4,n1,n3,n4]
 have pZ:al.fT [2560320128,5248128448,5249344128,5248192448,5312256064,5248064448]=true:=by simp only[Ii,Ij,okD,oC,oW,oP,oA,oM,xy]
 refine Z5 4 aa rfl s84 oV Bk qq nV bV rI pZ pf (fun hb aH h2=>fail aH je ad1 (by rw[hvr];exact hb) h2) (fun zw aH Bk qq nV=>?_);have hv:mz F ls=true:=by rw[hvr];exact zw
 refine sJ ?_;have n5:¬((((4+1:Nat)):Int)<5):=ae;simp only[go_sem,i63_l1,i63_r2,qq,nV,n5];exact⟨by rw[Vz,pR,hv];rfl,ad1,fun _ _=>⟨g1,g2,g3,g4,g5,bD,bC,bW,nJ,bA,bM⟩,fun h=>absurd h he⟩
abbrev AM(f:Int):PV:=dgP f [] (.sl []) (.sl []) (.sl []) .sA (.sl [])
abbrev Bl(a b:PV):RV:=.tup [.one (.p a),.one (.p b)]
def Lp(f:Int)(ls:ai):RV:=if cX f ls=0 then Bl (if ls=[] then AM f else nL f.toNat ls) (.int .i64 0) else Bl .vK (.int .i64 (cX f ls))
def bK{aj:aE}{s:Nat}{a b:PV}{l:Bool}:land aj [] s ((Bl a b).iu l)=some (.tup [.one (.p a),.one (.p b)],[]):=by cases l<;>rfl
def Pf{f:Int}{e:Int}(h:cX f ls=e)(he:e≠0):Lp f ls=Bl .vK (.int .i64 e):=by unfold Lp;rw[h,aC he]
def Pg{f:Int}(h:cX f ls=0):Lp f ls=Bl (if ls=[] then AM f else nL f.toNat ls) (.int .i64 0):=by unfold Lp;rw[aG h]
def UU(f:Int)(ls:ai)(hl:ls.length<=1000000):aO S 40 [fe f ls] (Lp f ls):=by
 have pc:=WS f ls hl;refine bY c40 ?_;by_cases h1:400<ls.length
 .have jT:(400:Int)<(ls.length:Int):=aa;rw[Pf (e:=7) (by unfold cX;rw[aG (Or.inl h1)]) ae];simp only[go_sem,i40,jT];rfl
 have jT:¬(400:Int)<(ls.length:Int):=aa;by_cases h2:200<aq Let.aD ls
 .have ju:(200:Int)<(aq Let.aD ls:Int):=aa;rw[Pf (e:=7) (by unfold cX;rw[aG (Or.inr h2)]) ae];simp only[go_sem,i40,jT,ju,s24,eF pc];rfl
 have ju:¬(200:Int)<(aq Let.aD ls:Int):=aa;have n1:¬(400<ls.length\/200<aq Let.aD ls):=aa;by_cases h3:f<0
 .rw[Pf (e:=2) (by unfold cX;rw[aC n1,aG (Or.inl h3)]) ae];simp only[go_sem,i40,jT,ju,h3,s24,eF pc];rfl
 by_cases h4:40<f
 .rw[Pf (e:=2) (by unfold cX;rw[aC n1,aG (Or.inr h4)]) ae];simp only[go_sem,i40,jT,ju,h3,h4,s24,eF pc];rfl
 have n2:¬(f<0\/40<f):=aa;obtain⟨F,rfl⟩:=vV (show 0<=f by omega);have jw:S.shared 63=true:=ah;simp only[go_sem,i40,jT,ju,h3,h4,s24,eF pc,jw];refine sY (P:=ZY F ls 1 _) Ba (avg (F:=F) (ls:=ls) ?_ ?_ ?_ ?_ hl aa ?_) ?_
 .refine vg ?_;rw[eD,kL,Lo (g0:=1) (cs:=wA F ls (.p .nils) (.p .nils) (.p .nils) (.p .sA) (.p .nils)) (by simp only[go_sem])];simp
 .intro id h;refine vf ?_;rw[ZD];rcases h with h|h|h<;>rw[h]<;>rfl
 .show(S.sites 63).contains _=true;rw[ZD];rfl
 .show(S.sites 63).contains _=true;rw[ZD];rfl
 .simp only[go_sem]
 rintro v ao ⟨rfl,hk,hr,hz⟩
 unfold Vz;by_cases he:ls=[]
 .have hc:cX F ls=0:=by unfold cX;rw[aC n1,aC n2,aG he]
  have bD:=hz he;rw[Pg hc,aG he];have pR:(decide (ls=[])||mz F ls)=true:=by simp[he]
  rw[pR];subst he;simp only[go_sem] at bD;simp only[go_sem];simp only[go_sem,j6,uH,wD,pO,nU,kJ,bD];rfl
 have pR:decide (ls=[])=false:=by simp[he]
 cases hv:mz F ls with
 |false=>rw[Pf (e:=3) (by unfold cX;rw[aC n1,aC n2,aC he,hv];rfl) ae];rw[pR,CO];simp only[go_sem];rfl
 |true=>
  have hc:cX F ls=0:=by unfold cX;rw[aC n1,aC n2,aC he,hv];rfl
  rw[Pg hc,aC he];obtain⟨g1,g2,g3,g4,g5,bD,bC,bW,nJ,bA,bM⟩:=hr he hv;have hFn:(F:Int).toNat=F:=rfl;rw[hFn];have t1:List.take ls.length (bP (kS ls))=bP (kS ls):=gT (by simp[kS]);have t2:List.take (aI ls).length (nP (aI ls))=nP (aI ls):=gT af;have t3:List.take ls.length (nP (jO ls ls.length))=nP (jO ls ls.length):=gT (by simp[jO]);have t4:List.take (F+1) (nP (counts ls F))=nP (counts ls F):=gT (by simp[counts]);have n1:ls.length<=(kS ls).length:=by simp[kS]
  have n3:ls.length<=(jO ls ls.length).length:=by simp[jO]
  have n4:F+1<=(counts ls F).length:=by simp[counts]
  rw[pR,CO];simp only[go_sem];simp only[go_sem,j6,uH,wD,pO,nU,kJ,ahY,bD,bW,bA,nJ,bC,bM,ZK,t1,t2,t3,t4,n1,n3,n4];rfl
def akS(f:Int)(ls:ai)(hl:ls.length<=1000000):aO S 31 [fe f ls] (ri (cX f ls)):=by
 have pr:=UU f ls hl;refine bY c31 ?_;unfold Lp at pr;by_cases h:cX f ls=0
 .rw[aG h] at pr;simp only[go_sem,i31,s40,aY pr bK,h]
 rw[aC h] at pr;simp only[go_sem,i31,s40,aY pr bK]
abbrev ql(k a b c:Int)(l o:Bool)(s:Int):V:=.agg [.p (.int .i64 k),.p (.int .i64 a),.p (.int .i64 b),.p (.int .i64 c),.p (.bool l),.p (.bool o),.p (.int .i64 s)]
abbrev sE(e:Int):RV:=.tup [.agg [.p (.int .i64 0),.p .nils],.one (.p (.int .i64 e))]
def apx{aj:aE}{s:Nat}{e:Int}{l:Bool}:land aj [] s ((sE e).iu l)=some (.tup [.agg [.p (.int .i64 0),.p .nils],.one (.p (.int .i64 e))],[]):=by cases l<;>rfl
section
variable {f:Int} {ls:ai} {e:Int}
abbrev kinds(k:Nat):a_:=(List.range k).map (· +1)
end
def fZ(n v:Nat)(fw:Bool):Nat:=if fw then 2*((v+n-1)%n) else 2*v+1
def lvV(n e:Nat):Nat:=if e%2=0 then e/2 else (e/2+1)%n
def vH{n v:Nat}(hv:v<n):((v+n-1)%n+1)%n=v:=by
 by_cases h:v=0
 .subst h;rw[jr,fX (show n-1<n by omega),show n-1+1=n by omega,EO]
 rw[show v+n-1=(v-1)+n by omega,n9,fX (show v-1<n by omega),show v-1+1=v by omega,fX hv]
def vI{n v:Nat}(hv:v<n):((v+1)%n+n-1)%n=v:=by
 by_cases h:v+1=n
 .rw[h,EO,jr,fX (show n-1<n by omega)];omega
 rw[fX (show v+1<n by omega),show v+1+n-1=v+n by omega,n9,fX hv]
def afR{n v:Nat}(hv:v<n)(g:Bool):lvV n (dB n v g)=v/\(dB n v g%2==0)=g:=by
 unfold lvV dB;cases g with
 |true=>have h1:(2*v)%2=0:=aa;simp only[if_true,h1];exact⟨aa,rfl⟩
 |false=>have h1:(2*((v+n-1)%n)+1)%2=1:=aa;have h2:(2*((v+n-1)%n)+1)/2=(v+n-1)%n:=aa;simp only[dR,if_false,h1,h2,Ma,vH hv];exact⟨trivial,rfl⟩
def Lk(ls:ai)(ax:a_)(e:Nat):Nat:=
 if 2*ls.length<=e then
  if e%2=0 then fZ ls.length (ax.getD ((e-2*ls.length)/2) 0) (dn ls (ax.getD ((e-2*ls.length)/2) 0))
  else fZ ls.length (ax.getD (((e-2*ls.length)/2+1)%ax.length) 0) (!dn ls (ax.getD (((e-2*ls.length)/2+1)%ax.length) 0))
 else
  let v:=lvV ls.length e
  let g:=e%2==0
  match ls[v]? with
  |none=>0
  |some l=>if l.kind==2 then
    match ls[fQ ls v]? with
    |some u=>fZ ls.length (fQ ls v) (g==(u.over==(u.sign==1)))
    |none=>0
   else if g==dn ls v then 2*ls.length+2*ax.idxOf v+1 else 2*ls.length+2*((ax.idxOf v+ax.length-1)%ax.length)
def sD(hr:mI ls=true){i:Nat}{l:Let}(hl:ls[i]?=some l)(hc:l.aD=true):fQ ls (fQ ls i)=i/\ ∃m,ls[fQ ls i]?=some m/\m.aD=true/\m.id=l.id/\m.over= !l.over/\m.sign=l.sign:=by
 obtain⟨h1,h2⟩:=UD hr hl hc;obtain⟨_,h3⟩:=Iz h1;obtain⟨m,hm,mc,mi,mo⟩:=BS h3;have hp:Il ls:=by have:=hr;unfold mI at this;simp only[cJ,dh,gj,iv] at this;exact(IC.1 this.1.2).2
 have aK:i≠fQ ls i:=by intro e;rw[<- e,hl] at hm;cases hm;revert mo;cases l.over<;>simp
 obtain⟨h4,h5⟩:=UD hr hm mc;obtain⟨_,h6⟩:=Iz h4;obtain⟨x,hx,xc,xi,xo⟩:=BS h6;refine⟨?_,m,hm,mc,mi,mo,((hp i _ l m hl hm hc mc mi.symm aK).2).symm⟩;refine Decidable.byContradiction fun hn=>?_;have:=(hp _ i x l hx hl xc hc (by rw[xi,mi]) hn).1;rw[xo,mo] at this;revert this;cases l.over<;>simp
def aiw{ax:a_}{d v:Nat}{fw:Bool}{l:Let}(h:¬2*ls.length<=d)(zx:(d%2==0)=fw)(hv:v=if fw then (d/2+1)%ls.length else d/2)(hl:ls[v]?=some l):
  iA ls ax d=if l.kind==2 then dB ls.length (fQ ls v) (fw==(l.over==(l.sign==1)))
   else if dn ls v==fw then 2*ls.length+2*ax.idxOf v else 2*ls.length+2*((ax.idxOf v+ax.length-1)%ax.length)+1:=by
 subst zx;subst hv;unfold iA;rw[aC h];simp only[hl]
def agZ(ok:fN F ls){d:Nat}(hd:d<2*ls.length+2*(aI ls).length):Lk ls (aI ls) (iA ls (aI ls) d)=d:=by
 have kD:∀x∈aI ls,x<ls.length/\ ∃l,ls[x]?=some l/\l.aF=true:=fun x hx=>by obtain⟨l,h1,h2⟩:=uz.1 hx;exact⟨(aW.1 h1).1,l,h1,h2⟩
 have XN:∀ {p v:Nat},(aI ls)[p]?=some v->(aI ls).idxOf v=p:=fun {p v} hp=>by obtain⟨l,hl,ni,he⟩:=BA ok.ax hp;rw[EX ok.ax hl ni,he]
 have along_small:∀ {v:Nat} (g:Bool),v<ls.length-> ¬2*ls.length<=dB ls.length v g:=fun {v} g hv=>by have:=Ja (n:=ls.length) (fw:=g) hv;omega
 have notC:∀ {l:Let},l.aF=true->(l.kind==2)=false:=fun {l} h=>qV h;have fromAxis:∀ {p v:Nat} (g:Bool),(aI ls)[p]?=some v->Lk ls (aI ls) (dB ls.length v g)=if g==dn ls v then 2*ls.length+2*p+1 else 2*ls.length+2*((p+(aI ls).length-1)%(aI ls).length):=by intro p v g hp;obtain⟨hv,l,hl,ni⟩:=kD v (aZ hp);obtain⟨e1,e2⟩:=afR hv g;unfold Lk;rw[aC (along_small g hv)];simp only[e1,e2,hl,notC ni,XN hp];rfl
 by_cases h:2*ls.length<=d
 .unfold iA;rw[aG h];have hm:=dk ((d-2*ls.length)/2+1) (show 0<(aI ls).length by omega);by_cases h2:d%2=0
  .rw[aG h2];obtain⟨v,hv⟩:=aN hm;have qP:(aI ls).getD (((d-2*ls.length)/2+1)%(aI ls).length) 0=v:=by rw[dK,hv];rfl
   rw[qP,fromAxis _ hv];have hb:((!dn ls v)==dn ls v)=false:=by cases dn ls v<;>rfl
   rw[hb,vI (show(d-2*ls.length)/2<(aI ls).length by omega)];simp only[dR,if_false];omega
  rw[aC h2];obtain⟨v,hv⟩:=aN (ls:=aI ls) (k:=(d-2*ls.length)/2) aa;have qP:(aI ls).getD ((d-2*ls.length)/2) 0=v:=by rw[dK,hv];rfl
  rw[qP,fromAxis _ hv];simp only[Ak,if_true];omega
 have hn:0<ls.length:=aa;have qL:=dk (d/2+1) hn;have key:∀(v:Nat) (fw:Bool),v<ls.length->(d%2==0)=fw->v=(if fw then (d/2+1)%ls.length else d/2)->fZ ls.length v fw=d:=by
  intro v fw hv zx fO;unfold fZ;cases fw with
  |true=>
   have zx:d%2=0:=by simpa using zx
   simp only[if_true] at fO |-;rw[fO,vI (show d/2<ls.length by omega)];omega
  |false=>
   have zx:d%2≠0:=by simpa using zx
   simp only[dR,if_false] at fO |-;omega
 generalize hv:(if (d%2==0)=true then (d/2+1)%ls.length else d/2)=v;generalize zx:(d%2==0)=fw at hv;have tx:v<ls.length:=by rw[<- hv];split<;>omega
 have FH:=key v fw tx zx hv.symm;obtain⟨l,hl⟩:=aN tx;rw[aiw h zx hv.symm hl];cases hk:(l.kind==2) with
 |true=>
  have hc:l.aD=true:=hk;obtain⟨hb,m,hm,mc,mi,mo,ms⟩:=sD ok.cr hl hc;have OA:=(UD ok.cr hl hc).2;rw[aG rfl];obtain⟨e1,e2⟩:=afR OA (fw==(l.over==(l.sign==1)));unfold Lk;rw[aC (along_small _ OA)];have mk:(m.kind==2)=true:=mc;simp only[e1,e2,hm,mk,if_true,hb,hl];have xZ:((fw==(l.over==(l.sign==1)))==(l.over==(l.sign==1)))=fw:=by cases fw<;>cases (l.over==(l.sign==1))<;>rfl
  rw[xZ];exact FH
 |false=>
  have hp:=ok.Ul hl hk;have DK:=EX ok.ax hl hp;have bd:=Je ok.ax hl hp;have hpT:=(aW.1 bd).1;rw[aC af,DK];cases hq:(dn ls v==fw) with
  |true=>
   simp only[if_true];unfold Lk;rw[aG aa,aG aa];have e1:(2*ls.length+2*dD ls l-2*ls.length)/2=dD ls l:=aa;have e2:(aI ls).getD (dD ls l) 0=v:=by rw[dK,bd];rfl
   rw[e1,e2,show dn ls v=fw by simpa using hq];exact FH
  |false=>
   have kY:=dk (dD ls l+(aI ls).length-1) (show 0<(aI ls).length by omega);simp only[dR,if_false];unfold Lk;rw[aG aa,aC aa];have e1:(2*ls.length+2*((dD ls l+(aI ls).length-1)%(aI ls).length)+1-2*ls.length)/2=(dD ls l+(aI ls).length-1)%(aI ls).length:=aa;have e2:(aI ls).getD (dD ls l) 0=v:=by rw[dK,bd];rfl
   rw[e1,vH hpT,e2,show(!dn ls v)=fw by revert hq;cases dn ls v<;>cases fw<;>simp];exact FH
def avb(ok:fN F ls){d e:Nat}(hd:d<2*ls.length+2*(aI ls).length)(he:e<2*ls.length+2*(aI ls).length)(h:aQ ls d=aQ ls e):d=e:=by have h1:=agZ ok hd;have h2:=agZ ok he;rw[<- h1,<- h2];exact congrArg _ h
def pwF(next:Nat->Nat)(n2:Nat):Nat->Nat->l_->a_×l_
 |0,_,sp=>([],sp)
 |k+1,x,sp=>if x<n2 then
   if sp.getD x true then ([],sp) else (x::(pwF next n2 k (next x) (sp.set x true)).1,(pwF next n2 k (next x) (sp.set x true)).2)
  else (x::(pwF next n2 k (next x) sp).1,(pwF next n2 k (next x) sp).2)
abbrev sn(S:l_)(x:Nat):Bool:=S.getD x true
def Po{S:l_}{y:Nat}(hx:x<S.length):sn (S.set x true) y=if y=x then true else sn S y:=by
 unfold sn;rw[dK,dK,rh];by_cases h:x=y
 .subst h;simp[hx]
 rw[aC h,aC (fun e=>h e.symm)]
structure An (next:Nat->Nat) (n2 N:Nat):Prop where
 le:n2<=N
 lt:∀x,x<N->next x<N
 inj:∀x y,x<N->y<N->next x=next y->x=y
 ax:∀x,x<N->n2<=x->next x<n2
def Mb(next:Nat->Nat)(N:Nat)(S:l_):Prop:=∀y,y<N->sn S y=sn S (next y)
structure Inv (next:Nat->Nat) (N d:Nat) (S:l_) (x:Nat):Prop where
 i1:∀y,y<N->sn S (next y)=true->sn S y=true\/next y=d
 i2:∀y,y<N->sn S y=true->sn S (next y)=true\/next y=x
 i4:sn S x=true->x=d
 pr:(x=d/\sn S x=false)\/ ∃p,p<N/\next p=x/\sn S p=true
def Inv.start{next:Nat->Nat}{N d:Nat}{S:l_}(h:Mb next N S)(hd:sn S d=false):Inv next N d S d:=
 ⟨fun y hy hs=>.inl (by rw[h y hy];exact hs),fun y hy hs=>.inl (by rw[<- h y hy];exact hs),fun _=>rfl,.inl ⟨rfl,hd⟩⟩
def Inv.stop{next:Nat->Nat}{N d:Nat}{S:l_}(m:An next n2 N)(h:Inv next N d S x)(hx:sn S x=true):Mb next N S:=by
 have hxd:=h.i4 hx;subst hxd;intro y hy;cases h1:sn S y with
 |true=>
  rcases h.i2 y hy h1 with h2|h2
  .rw[h2]
  rw[h2,hx]
 |false=>
  cases h2:sn S (next y) with
  |false=>rfl
  |true=>
   rcases h.i1 y hy h2 with h3|h3
   .rw[h3] at h1;cases h1
   rcases h.pr with ⟨_,h4⟩|⟨p,hp,jN,dX⟩
   .rw[hx] at h4;cases h4
   have:=m.inj y p hy hp (by rw[h3,jN]);rw[this,dX] at h1;cases h1
def Inv.step{next:Nat->Nat}{N d:Nat}{S:l_}(m:An next n2 N)(hl:S.length=N)(Cd:x<N)(h:Inv next N d S x)(hx:sn S x=false):Inv next N d (S.set x true) (next x):=by
 have wX:x<S.length:=aa;refine⟨fun y hy hs=>?_,fun y hy hs=>?_,fun hs=>?_,.inr ⟨x,Cd,rfl,by rw[Po wX,aG rfl]⟩⟩
 .rw[Po wX] at hs |-;by_cases e:next y=x
  .rcases h.pr with ⟨h1,_⟩|⟨p,hp,jN,dX⟩
   .exact .inr (by rw[e,h1])
   have:=m.inj y p hy hp (by rw[e,jN]);left;rw[this];split
   .rfl
   exact dX
  rw[aC e] at hs;rcases h.i1 y hy hs with h2|h2
  .left;split
   .rfl
   exact h2
  exact .inr h2
 .rw[Po wX] at hs |-;by_cases e:y=x
  .subst e;exact .inr rfl
  rw[aC e] at hs;rcases h.i2 y hy hs with h2|h2
  .left;split
   .rfl
   exact h2
  left;rw[aG h2]
 rw[Po wX] at hs;by_cases e:next x=x
 .rcases h.pr with ⟨h1,_⟩|⟨p,hp,jN,dX⟩
  .rw[e,h1]
  have:=m.inj p x hp Cd (by rw[jN,e]);rw[this,hx] at dX;cases dX
 rw[aC e] at hs;rcases h.i1 x Cd hs with h2|h2
 .rw[hx] at h2;cases h2
 exact h2
def ZG{S:l_}(hx:x<n2)(hl:n2<=S.length):(S.take n2).getD x true=sn S x:=by unfold sn;rw[dK,dK,l8,aG hx]
def ail{S:l_}:(S.take n2).set x true=(S.set x true).take n2:=by rw[<- List.take_set]
def aik{S:l_}(hx:n2<=x):(S.set x true).take n2=S.take n2:=by rw[List.take_set];exact List.set_eq_of_length_le (by rw[iH];omega)
def avr{next:Nat->Nat}{N d:Nat}(m:An next n2 N)(hd:d<n2):∀(fuel x:Nat) (S:l_),S.length=N->x<N->Inv next N d S x->Aa S<fuel->
  Mb next N (fK next fuel x S).2/\pwF next n2 fuel x (S.take n2)=((fK next fuel x S).1,(fK next fuel x S).2.take n2):=by
 intro fuel
 induction fuel with
 |zero=>intro x S _ _ _ h;omega
 |succ fuel ih=>
  intro x S hl hx hi hu;have hle:=m.le;unfold fK pwF;cases hs:S.getD x true with
  |true=>have hxd:=hi.i4 hs;have aB:x<n2:=aa;rw[aG aB,ZG aB aa,show sn S x=true from hs];exact⟨hi.stop m hs,rfl⟩
  |false=>
   have DY:S[x]?=some false:=by
    rw[dK] at hs;cases h1:S[x]? with
    |none=>rw[h1] at hs;cases hs
    |some b=>rw[h1] at hs;exact congrArg some hs
   have FR:=Pt DY;obtain⟨c1,c2⟩:=ih (next x) (S.set x true) (by rw[nA,hl]) (m.lt x hx) (hi.step m hl hx hs) aa;simp only[dR,if_false];refine⟨c1,?_⟩;by_cases aB:x<n2
   .rw[aG aB,ZG aB aa,show sn S x=false from hs];simp only[dR,if_false];rw[ail,c2]
   rw[aC aB];rw[aik aa] at c2;rw[c2]
def fN.kD(_:fN F ls):∀x∈aI ls,x<ls.length:=fun _ h=>Qb h
def fN.hp(ok:fN F ls):∀v l,ls[v]?=some l->(l.kind==2)=false->v∈aI ls:=fun _ l hv h2=>uz.2 ⟨l,hv,ok.Ul hv h2⟩
abbrev nD(ls:ai):Nat:=2*ls.length+2*(aI ls).length
def maps(ok:fN F ls):An (aQ ls) (2*ls.length) (nD ls):=by
 refine⟨by unfold nD;omega,fun x hx=>Vx ok.kD ok.hp hx,fun x y hx hy h=>avb ok hx hy h,fun x hx hn=>?_⟩;have hx:x<2*ls.length+2*(aI ls).length:=hx;have DJ:∀k,k<(aI ls).length->(aI ls).getD k 0<ls.length:=fun k hk=>by obtain⟨v,hv⟩:=aN hk;rw[dK,hv];exact ok.kD v (aZ hv)
 have hm:=dk ((x-2*ls.length)/2+1) (show 0<(aI ls).length by omega);show iA ls (aI ls) x<_;unfold iA;rw[aG hn];split
 .exact Ja (DJ _ hm)
 exact Ja (DJ _ aa)
def aiG(next:Nat->Nat):∀(k x:Nat) (S:l_) (y:Nat),sn S y=true->sn (fK next k x S).2 y=true:=by
 intro k
 induction k with
 |zero=>intro x S y h;exact h
 |succ k ih=>
  intro x S y h;unfold fK;split
  .exact h
  refine ih _ _ _ ?_;unfold sn;rw[dK,rh];split
  .split<;>rfl
  rw[<- dK];exact h
def aiE(next:Nat->Nat)(k x:Nat)(S:l_)(hk:Aa S<k):sn (fK next k x S).2 x=true:=by
 cases k with
 |zero=>omega
 |succ k=>
  unfold fK;cases hs:S.getD x true with
  |true=>simpa using hs
  |false=>
   simp only[dR,if_false];refine aiG _ _ _ _ _ ?_;unfold sn;rw[dK,rh];split
   .split<;>rfl
   rename_i h;exact absurd rfl h
section
variable {next:Nat->Nat} {n2 N:Nat}
def ZF(h:x<N):sn (List.replicate N false) x=false:=by unfold sn;rw[dK,List.getElem?_replicate,aG h];rfl
def VD(m:An next n2 N):∀k,k<=n2->Mb next N (eB next N k).2/\ ∀x,x<k->sn (eB next N k).2 x=true:=by
 intro k
 induction k with
 |zero=>intro _;refine⟨fun y hy=>?_,fun x h=>absurd h (o9 x)⟩;show sn (List.replicate N false) y=sn (List.replicate N false) (next y);rw[ZF hy,ZF (m.lt y hy)]
 |succ k ih=>
  intro hk;obtain⟨c,s⟩:=ih aa;have hlen:=IA next N k;have hle:=m.le;rw[Ab];unfold vT;cases hs:(eB next N k).2.getD k true with
  |true=>
   simp only[if_true];refine⟨c,fun x hx=>?_⟩;rcases og.1 hx with h|rfl
   .exact s x h
   exact hs
  |false=>
   simp only[dR,if_false];have hul:=LQ (eB next N k).2;obtain⟨c1,_⟩:=avr m (show k<n2 by omega) ((eB next N k).2.length+1) k (eB next N k).2 hlen aa (Inv.start c hs) aa;refine⟨c1,fun x hx=>?_⟩;rcases og.1 hx with h|rfl
   .exact aiG _ _ _ _ _ (s x h)
   exact aiE _ _ _ _ aa
def Z7(m:An next n2 N):∀k,n2<=k->k<=N->eB next N k=eB next N n2:=by
 intro k
 induction k with
 |zero=>intro h _;rw[show n2=0 by omega]
 |succ k ih=>
  intro h1 h2;by_cases e:n2=k+1
  .rw[e]
  rw[Ab,ih aa aa];obtain⟨c,s⟩:=VD m n2 (cD _);unfold vT;have:(eB next N n2).2.getD k true=true:=by have h3:=c k aa;have h4:=s (next k) (m.ax k aa aa);show sn (eB next N n2).2 k=true;rw[h3,h4]
  rw[this];rfl
end

abbrev qp(o:v_):s_:=o.map fun p=>[PV.int .i64 (p.1:Int),PV.int .i64 (p.2:Int)]
def tH(g r to:Nat):v_:=(g,r)::(List.range (to-g)).map fun i=>(g+1+i,0)
def uX(g to:Nat):a_:=(List.range (to-g)).map fun i=>g+1+i
abbrev El:Nat:=166
def gN (ls:ai)(i:Nat):Nat:=match ls[i]? with|some l=>l.gate.toNat|none=>0
def rN (ls:ai)(i:Nat):Nat:=match ls[i]? with|some l=>l.aA.toNat|none=>0
def AQ{i:Nat}{l:Let}(h:ls[i]?=some l):gN ls i=l.gate.toNat:=by simp[gN,h]
def Zr{i:Nat}{l:Let}(h:ls[i]?=some l):rN ls i=l.aA.toNat:=by simp[rN,h]
def qX(F:Nat)(ls:ai)(j:Nat):v_:=
 let u:=(aI ls).getD j 0
 let v:=(aI ls).getD ((j+1)%(aI ls).length) 0
 if j+1<(aI ls).length then tH (gN ls u) (rN ls u) (gN ls v) else tH (gN ls u) (rN ls u) F++tH 0 0 (gN ls v)
def Ek(F:Nat)(ls:ai)(j:Nat):a_:=
 let u:=(aI ls).getD j 0
 let v:=(aI ls).getD ((j+1)%(aI ls).length) 0
 if j+1<(aI ls).length then uX (gN ls u) (gN ls v) else uX (gN ls u) F++uX 0 (gN ls v)
def Li(a b:v_):qp (a++b)=qp a++qp b:=af
def KZ(a b:a_):nP (a++b)=nP a++nP b:=af
def Bn(g r to:Nat):(tH g r to).length=to-g+1:=by simp[tH]
def Vm(g to:Nat):(uX g to).length=to-g:=by simp[uX]
def Mk(ok:fN F ls)(hj:j<(aI ls).length):∃u l,(aI ls)[j]?=some u/\(aI ls).getD j 0=u/\ls[u]?=some l/\l.aF=true/\vq F ls l:=by obtain⟨u,hu⟩:=aN hj;obtain⟨l,h1,h2⟩:=uz.1 (aZ hu);exact⟨u,l,hu,by rw[dK,hu];rfl,h1,h2,ok.ax.fq l (aZ h1) h2⟩
structure Fc where
 ig:Bool
 cG:a_
 places:v_
 y7:a_
 outer:Bool
abbrev q_:=List Fc
def Fc.ps(f:Fc):b_:=[.bool f.ig,.sl (nP f.cG),.sl (qp f.places),.sl (nP f.y7),.bool f.outer]
def Fc.add(F:Nat)(ls:ai)(f:Fc)(x:Nat):Fc:=
 if x<2*ls.length then {f with cG:=f.cG++[x]}
 else {f with places:=f.places++(if x%2=0 then qX F ls ((x-2*ls.length)/2) else (qX F ls ((x-2*ls.length)/2)).reverse),y7:=f.y7++(if x%2=0 then Ek F ls ((x-2*ls.length)/2) else (Ek F ls ((x-2*ls.length)/2)).reverse),outer:=f.outer||decide ((x-2*ls.length)/2+1=(aI ls).length)}
def Fc.new(ls:ai)(d:Nat):Fc:=⟨dn ls (d/2+1),[],[],[],false⟩
def mf(F:Nat)(ls:ai)(w:a_):Fc:=w.foldl (Fc.add F ls) (Fc.new ls (w.headD 0))
def ff(F:Nat)(ls:ai):q_:=(gO (aQ ls) (nD ls)).map (mf F ls)
def TE(ok:fN F ls)(hj:j<(aI ls).length):gN ls ((aI ls).getD j 0)<=F:=by obtain⟨u,l,_,du,hl,_,hg⟩:=Mk ok hj;rw[du,AQ hl];have:=hg.g1;have:=hg.g0;omega
def agP(ok:fN F ls)(hj:j<(aI ls).length):(qX F ls j).length<=2*F+2:=by have h1:=TE ok hj;have h2:=TE ok (dk (j+1) (show 0<(aI ls).length by omega));unfold qX;simp only;split<;>simp only[gJ,Bn]<;>omega
def agO(ok:fN F ls)(hj:j<(aI ls).length):(Ek F ls j).length<=2*F+2:=by have h1:=TE ok hj;have h2:=TE ok (dk (j+1) (show 0<(aI ls).length by omega));unfold Ek;simp only;split<;>simp only[gJ,Vm]<;>omega
def avn(next:Nat->Nat):∀(k x:Nat) (S:l_),∀y∈(fK next k x S).1,y<S.length:=by
 intro k
 induction k with
 |zero=>intro x S y h;simp[fK] at h
 |succ k ih=>
  intro x S y h;unfold fK at h;cases hs:S.getD x true with
  |true=>rw[hs] at h;simp at h
  |false=>
   rw[hs] at h;have hx:x<S.length:=by
    rcases Nat.lt_or_ge x S.length with h1|h1
    .exact h1
    rw[dK,nZ h1] at hs;cases hs
   simp only[dR,if_false,ch] at h;rcases h with rfl|h
   .exact hx
   have:=ih _ _ y h
   simpa using this
def avo(next:Nat->Nat):∀(k x:Nat) (S:l_),(fK next k x S).1.length<=Aa S:=by
 intro k
 induction k with
 |zero=>intro x S;simp[fK]
 |succ k ih=>
  intro x S;unfold fK;cases hs:S.getD x true with
  |true=>simp
  |false=>
   have DY:S[x]?=some false:=by
    rw[dK] at hs;cases h1:S[x]? with
    |none=>rw[h1] at hs;cases hs
    |some b=>rw[h1] at hs;exact congrArg some hs
   have FR:=Pt DY;have:=ih (next x) (S.set x true);simp only[dR,if_false,dL];omega
def aiD(next:Nat->Nat){k:Nat}{S:l_}(h:S.getD x true=false):∃t,(fK next (k+1) x S).1=x::t:=by unfold fK;rw[h];exact⟨_,rfl⟩
def aiI(next:Nat->Nat)(N:Nat):∀k,∀w∈(eB next N k).1,(∃d t,w=d::t/\d<k)/\w.length<=N/\ ∀y∈w,y<N:=by
 intro k
 induction k with
 |zero=>intro w h;simp[eB] at h
 |succ k ih=>
  intro w h;rw[Ab] at h;unfold vT at h;have hlen:=IA next N k;have old:w∈(eB next N k).1->(∃d t,w=d::t/\d<k+1)/\w.length<=N/\ ∀y∈w,y<N:=fun h=>by obtain⟨⟨d,t,h1,h2⟩,h3⟩:=ih w h;exact⟨⟨d,t,h1,aa⟩,h3⟩
  cases hs:(eB next N k).2.getD k true with
  |true=>simp only[hs,if_true] at h;exact old h
  |false=>
   simp only[hs,dR,if_false,eX,lQ] at h;rcases h with h|rfl
   .exact old h
   obtain⟨t,ht⟩:=aiD next (k:=(eB next N k).2.length) hs;refine⟨⟨k,t,ht,aa⟩,?_,fun y hy=>?_⟩
   .have h1:=avo next ((eB next N k).2.length+1) k (eB next N k).2;have h2:=LQ (eB next N k).2;omega
   have:=avn next _ _ _ y hy;omega
def Py(ok:fN F ls):∀w∈gO (aQ ls) (nD ls),(∃d t,w=d::t/\d<2*ls.length)/\w.length<=nD ls/\ ∀y∈w,y<nD ls:=by intro w h;unfold gO at h;rw[Z7 (maps ok) (nD ls) (by unfold nD;omega) (cD _)] at h;exact aiI (aQ ls) (nD ls) _ w h
abbrev BE:Nat:=146
def auX{a b:PV}{id g z o l:Nat}{cp cf:C}:CK [[.p a,.hsl id g z o l,cp,cf,.p b]]=none:=rfl
def al0{aj:aE}{s g ty sd td zd sp tp zp sf tf zf:Nat}{a o:Bool}{cd cp cf:C}{D P G:s_}(hb:aj s=(g,some (.jg ty 5 [[.p (.bool a),cd,cp,cf,.p (.bool o)]])))(gd:grown sd td zd D (.one cd) aj)(gp:grown sp tp zp P (.one cp) aj)(gf:grown sf tf zf G (.one cf) aj):
  ∃fr,gb aj (.one (.hsl s g 5 0 1))=some ([[.bool a,.sl D,.sl P,.sl G,.bool o]],[s],fr)/\pG aj fr/\ ∀i∈fr,i=sd\/i=sp\/i=sf:=by
 obtain⟨r1,n1,a1,q1⟩:=gd.Vh;obtain⟨r2,n2,a2,q2⟩:=gp.Vh;obtain⟨r3,n3,a3,q3⟩:=gf.Vh;refine⟨r1++(r2++r3),?_,a1.app (a2.app a3),fun i hi=>?_⟩
 .simp only[gb,hb];simp[collect,n1,n2,n3,Vk,PV.norm]
 simp only[eX] at hi;rcases hi with hi|hi|hi
 .rcases q1 with rfl|rfl<;>simp at hi;exact .inl hi
 .rcases q2 with rfl|rfl<;>simp at hi;exact .inr (.inl hi)
 rcases q3 with rfl|rfl<;>simp at hi;exact .inr (.inr hi)
abbrev uF(l:q_):s_:=l.map Fc.ps
def ajp(F:Nat)(ls:ai):∀(w:a_) (f:Fc),f.cG≠[]->(w.foldl (Fc.add F ls) f).cG≠[]:=by
 intro w
 induction w with
 |nil=>intro f h;exact h
 |cons x w ih=>
  intro f h;refine ih _ ?_;unfold Fc.add;split
  .simp
  exact h
def amz{d:Nat}{t:a_}(h:d<2*ls.length):(mf F ls (d::t)).cG≠[]:=by unfold mf;refine ajp F ls t _ ?_;unfold Fc.add;rw[show(d::t).headD 0=d from rfl,aG h];simp
def vh(ls:ai)(k:Nat):l_:=(List.range ls.length).map fun i=>decide (i<k)&& !dn ls (i+1)
def aa3(ls:ai)(k:Nat):(vh ls k).length=ls.length:=by simp[vh]
def akh(ls:ai):vh ls 0=List.replicate ls.length false:=by
 refine xA fun i=>?_;simp only[vh,gk,List.getElem?_replicate];by_cases h:i<ls.length
 .simp[h]
 rw[nZ (by simpa using h),aC h];rfl
def akg(ls:ai)(k:Nat):vh ls (k+1)=(vh ls k).set k (!dn ls (k+1)):=by
 refine xA fun i=>?_;rw[rh,aa3];simp only[vh,gk];by_cases h:i<ls.length
 .rw[tM h];by_cases e:k=i
  .subst e;simp[h]
  simp only[nE,e,if_false];congr 2;exact decide_eq_decide.2 aa
 rw[nZ (by simpa using h)];by_cases e:k=i
 .subst e;rw[aG rfl,aC h];rfl
 rw[aC e];rfl
abbrev Dd(ls:ai):l_:=vh ls ls.length
def aki{i:Nat}(h:i<ls.length):(Dd ls)[i]?=some (!dn ls (i+1)):=by simp[vh,h]
def akk(ok:fN F ls):aO S 99 [.one (.p (nL F ls))] (.one (.own 4 1 (bP (Dd ls)))):=by
 have hl:=ok.hl;have lf:ls.length<=140737488355328:=aa;have DV:List.replicate ls.length [PV.bool false]=bP (vh ls 0):=by rw[akh];simp
 refine bY c99 ?_;simp only[go_sem,i99,lf,DV];refine dG (fun k ak aj=>ak 0=.one (.p (nL F ls))/\ak 3=.one (.hsl 6336064384 1 1 0 ls.length)/\aj 6336064384=(1,some (.arr 4 1 (bP (vh ls k))))/\
   ak 4=vb (!dn ls k)/\ak 18=.one (.p (dJ ls))/\ak 19=vi ls.length/\ak 20=vi k) 0 ls.length (cA _) ?_ ?_
 .simp only[go_sem];first|exact⟨rfl,rfl⟩|exact⟨rfl,rfl,rfl⟩|exact⟨rfl,rfl,rfl,rfl⟩|exact rfl
 rintro k ak aj hk ⟨h0,h3,hA,h4,gE,gV,zb⟩
 by_cases aB:k<ls.length
 .obtain⟨l,dp⟩:=aN aB;have hi:=jo dp;have aP:((k:Int)<(ls.length:Int)):=aa;have w1:=df (n:=k) aa;have hlen:k<(vh ls k).length:=by rw[aa3];exact aB
  obtain⟨b0,s0⟩:=aN hlen;have kV:=tR s0;have iF:=Jf (vh ls k) k (!dn ls (k+1));rw[<- akg] at iF;cases hp:(l.kind==1) with
  |true=>have hd:=MF dp hp;have anS:=tR (Qu dp hp);rw[hd] at iF;rw[Bool.not_not] at iF;simp only[go_sem,i99_l1,h0,h3,hA,h4,gE,gV,zb,hi,Let.ps,aB,aP,w1,hp,anS,kV,iF,hd]
  |false=>have hd:=MG dp hp;rw[hd] at iF;simp only[go_sem,i99_l1,h0,h3,hA,h4,gE,gV,zb,hi,Let.ps,aB,aP,w1,hp,kV,iF,hd]
 have:k=ls.length:=aa;subst this;simp only[go_sem,i99_l1,i99_r2,h3,gV,zb,fh];exact Le hA (by simp[vh])
abbrev FZ(id:Nat):Prop:=jH id=154
def ah4{g r T k:Nat}(h:k<=T-g):(tH g r T)[k]?=some (g+k,if k=0 then r else 0):=by
 cases k with
 |zero=>rfl
 |succ k=>unfold tH;rw[List.getElem?_cons_succ,gk,tM aa];simp;omega
def aum{g T k:Nat}(h:k<T-g):(uX g T)[k]?=some (g+1+k):=by unfold uX;rw[gk,tM h];rfl
def Jl(g r T:Nat)(ps fs:s_)(i1 i2:Nat)(aj:aE)(v:V)(ao:aE):Prop:=
 ∃c1 c2 j2,v=.tup [.one c1,.one c2]/\grown 9856320192 El 2 (ps++qp (tH g r T)) (.one c1) ao/\grown j2 3 1 (fs++nP (uX g T)) (.one c2) ao/\(j2=i2\/j2=9856256256)/\
  Kept (fun id=>FZ id\/id=i1\/id=i2) aj ao
def bt1:a_:=[9856000000,9856000064,9856128128,9856256192,9856256256,9856320128]
def bt2:a_:=[9856000000,9856000064,9856128128,9856128192,9856256192,9856320128,9856320192]
def Mq{al:Al}{aj:aE}{g r T t i1 i2:Nat}{ps fs:s_}{c1 c2:C}(okf:∀id,FZ id->al.ok id=true)(o1:al.ok i1=true)(o2:al.ok i2=true)(hT:g<=T)(ht:t=if T=g then r else 0)(hb:T<=1000)(dX:ps.length<=1000000)(te:fs.length<=1000000)
  (n12:i1≠i2) (nb1:i1∉bt1) (nb2:i2∉bt2) (h1:grown i1 El 2 ps (.one c1) aj) (h2:grown i2 3 1 fs (.one c2) aj):
  ∃v ao,jd S 154 [.agg [.p (.int .i64 g),.p (.int .i64 r)],.agg [.p (.int .i64 T),.p (.int .i64 t)],.one c1,.one c2] al aj v ao/\Jl g r T ps fs i1 i2 aj v ao:=by
 have k0:al.ok 9856000000=true:=okf _ rfl;have k64:al.ok 9856000064=true:=okf _ rfl;have kb1:al.ok 9856128128=true:=okf _ rfl;have ka1:al.ok 9856128192=true:=okf _ rfl;have OU:al.ok 9856256192=true:=okf _ rfl;have ka2:al.ok 9856256256=true:=okf _ rfl;have kb3:al.ok 9856320128=true:=okf _ rfl;have ka3:al.ok 9856320192=true:=okf _ rfl;refine nH c154 (iI rfl) ?_;simp only[go_sem,i154,k0,k64];have lenP:=Bn g r T;have lenF:=Vm g T;refine dG (fun k ak ao=>ak 4=.one (.bt 9856000000 ((aj 9856000000).1+1) 0)/\ak 5=.one (.bt 9856000064 ((aj 9856000064).1+1) 0)/\
   ao 9856000000=((aj 9856000000).1+1,some (.var [.p (.int .i64 ((g+k:Nat):Int)),.p (.int .i64 ((if k=0 then r else 0:Nat):Int))]))/\ao 9856000064=((aj 9856000064).1+1,some (.var [.p (.int .i64 T),.p (.int .i64 t)]))/\
   ∃d1 d2 j1 j2,ak 2=.one d1/\ak 3=.one d2/\(j1=i1\/j1=9856128192)/\(j2=i2\/j2=9856256256)/\grown j1 El 2 (ps++qp ((tH g r T).take k)) (.one d1) ao/\grown j2 3 1 (fs++nP ((uX g T).take k)) (.one d2) ao/\Kept (fun id=>FZ id\/id=i1\/id=i2) aj ao) 0 (T-g) (cA _) ?_ ?_
 .simp only[go_sem];refine⟨rfl,c1,c2,i1,i2,rfl,rfl,.inl rfl,.inl rfl,?_,?_,?_⟩
  .exact(h1.of_eq (bn (Uv nb1 (by simp[bt1])))).of_eq (bn (Uv nb1 (by simp[bt1])))
  .exact(h2.of_eq (bn (Uv nb2 (by simp[bt2])))).of_eq (bn (Uv nb2 (by simp[bt2])))
  exact((Kept.refl _ _).eH (.inl rfl) _).eH (.inl rfl) _
 rintro k ak ao hk ⟨h4,h5,hA,hB,d1,d2,j1,j2,e2,e3,q1,q2,g1,g2,dQ⟩
 have oj1:al.ok j1=true:=by rcases q1 with rfl|rfl<;>assumption
 have oj2:al.ok j2=true:=by rcases q2 with rfl|rfl<;>assumption
 have n1:∀a,a∈bt1->j1≠a:=fun a ha e=>by
  rcases q1 with rfl|rfl
  .exact nb1 (e▸ha)
  exact absurd (e▸ha) ae
 have n2:∀a,a∈bt2->j2≠a:=fun a ha e=>by
  rcases q2 with rfl|rfl
  .exact nb2 (e▸ha)
  exact absurd (e▸ha) ae
 have n3:j1≠j2:=fun e=>by
  rcases q1 with rfl|rfl
  .rcases q2 with rfl|rfl
   .exact n12 e
   exact n1 _ ae e
  exact n2 _ ae e.symm
 have kj1:FZ j1\/j1=i1\/j1=i2:=by
  rcases q1 with rfl|rfl
  .exact .inr (.inl rfl)
  exact .inl rfl
 have kj2:FZ j2\/j2=i1\/j2=i2:=by
  rcases q2 with rfl|rfl
  .exact .inr (.inr rfl)
  exact .inl rfl
 have ltk:((tH g r T).take k).length=k:=by rw[iH];omega
 have ltf:((uX g T).take k).length=k:=by rw[iH];omega
 by_cases aB:k<T-g
 .have aP:(((g+k:Nat):Int)<(T:Int)):=aa;have w1:IntKind.i64.wrap (((g+k:Nat):Int)+1)=((g+(k+1):Nat):Int):=df (n:=g+k) aa;have hp:qp ((tH g r T).take (k+1))=qp ((tH g r T).take k)++[[.int .i64 ((g+k:Nat):Int),.int .i64 ((if k=0 then r else 0:Nat):Int)]]:=by
   rw[nC,ah4 aa,Li];rfl
  have hf:nP ((uX g T).take (k+1))=nP ((uX g T).take k)++[[.int .i64 ((g+(k+1):Nat):Int)]]:=by rw[nC,aum aB,KZ,show g+1+k=g+(k+1) by omega];rfl
  simp only[go_sem,i154_l1,h4,h5,hA,hB,e2,aP,k0,k64,kb1];refine TG (id:=j1) (site:=9856128192) (bytes:=16) (xs:=[[.int .i64 ((g+k:Nat):Int),.int .i64 ((if k=0 then r else 0:Nat):Int)]]) (rd:=[9856128128]) (by simp[ka1,oj1,kb1]) (g1.of_eq (bn (n1 _ ae))) (by simp[gb,aU]) (.inl rfl) (by simp only[gJ,cU,ltk,dL,fv];omega) fun c bN hc bR=>?_;have hA2:=(bR 9856000000 ae (n1 _ ae).symm).trans ((bn ae).trans hA);have nM:=(bR 9856000064 ae (n1 _ ae).symm).trans ((bn ae).trans hB);simp only[go_sem,h4,hA2,e3,w1,k0,OU]
  refine TG (id:=j2) (site:=9856256256) (bytes:=8) (xs:=[[.int .i64 ((g+(k+1):Nat):Int)]]) (rd:=[9856256192]) (by simp[ka2,oj2,OU]) (g2.of_eq ((bn (n2 _ ae)).trans ((bn (n2 _ ae)).trans ((bR _ (n2 _ ae) n3.symm).trans (bn (n2 _ ae)))))) (by simp[gb,aU]) (.inl rfl) (by simp only[gJ,cU,ltf,dL,fv];omega) fun c' je iz lV=>?_;have hA3:=(lV 9856000000 ae (n2 _ ae).symm).trans ((bn ae).trans Bp);have hB3:=(lV 9856000064 ae (n2 _ ae).symm).trans ((bn ae).trans ((bn ae).trans nM));simp only[go_sem,h4,h5,hA3,hB3,e2,e3,aB];refine⟨rfl,c,c',9856128192,9856256256,rfl,rfl,.inr rfl,.inr rfl,?_,?_,fun id hn=>?_⟩
  .rw[hp,<- vW];exact hc.of_eq ((lV _ ae (n2 _ ae).symm).trans ((bn ae).trans (bn ae)))
  .rw[hf,<- vW];exact iz
  have a:∀x,FZ x->id≠x:=fun x hx e=>hn (.inl (e▸hx));have b1:id≠j1:=fun e=>hn (e▸kj1);have b2:id≠j2:=fun e=>hn (e▸kj2);exact(lV id (a _ rfl) b2).trans ((bn (a _ rfl)).trans ((bn (a _ rfl)).trans ((bR id (a _ rfl) b1).trans ((bn (a _ rfl)).trans (dQ id hn)))))
 have:k=T-g:=aa;subst this;have aP:¬(((g+(T-g):Nat):Int)<(T:Int)):=aa;simp only[go_sem,i154_l1,i154_r2,h4,h5,hA,hB,e2,aP,k0,k64,kb3];have XP:qp (tH g r T)=qp ((tH g r T).take (T-g))++[[.int .i64 (T:Int),.int .i64 (t:Int)]]:=by
  have h1:=nC (l:=tH g r T) (i:=T-g);rw[ah4 (cD _),gT (show(tH g r T).length<=T-g+1 by omega)] at h1;have e1:g+(T-g)=T:=aa;have e2:(if T-g=0 then r else 0)=t:=by
   rw[ht];by_cases h:T=g
   .rw[aG h,aG aa]
   rw[aC h,aC aa]
  rw[e1,e2] at h1;exact(congrArg (fun l:v_=>qp l) h1).trans (Li _ _)
 have dV:(uX g T).take (T-g)=uX g T:=gT aa;refine TG (id:=j1) (site:=9856320192) (bytes:=16) (xs:=[[.int .i64 (T:Int),.int .i64 (t:Int)]]) (rd:=[9856320128]) (by simp[ka3,oj1,kb3]) (g1.of_eq (bn (n1 _ ae))) (by simp[gb,aU]) (.inl rfl) (by simp only[gJ,cU,ltk,dL,fv];omega) fun c bN hc bR=>?_;simp only[go_sem,e3];refine⟨c,d2,j2,rfl,?_,?_,q2,fun id hn=>?_⟩
 .rw[XP,<- vW];exact hc
 .rw[dV] at g2;exact g2.of_eq ((bR _ (n2 _ ae) n3.symm).trans (bn (n2 _ ae)))
 have a:∀x,FZ x->id≠x:=fun x hx e=>hn (.inl (e▸hx));have b1:id≠j1:=fun e=>hn (e▸kj1);exact(bR id (a _ rfl) b1).trans ((bn (a _ rfl)).trans (dQ id hn))
def aaX(ok:fN F ls)(hj:j<(aI ls).length):∃u l,(aI ls)[j]?=some u/\(aI ls).getD j 0=u/\ls[u]?=some l/\l.aF=true/\vq F ls l/\dD ls l=j:=by obtain⟨u,l,h1,h2,h3,h4,h5⟩:=Mk ok hj;obtain⟨l',k1,k2,k3⟩:=BA ok.ax h1;rw[h3] at k1;cases k1;exact⟨u,l,h1,h2,h3,h4,h5,k3⟩
def aj4{pg pr qg qr:Nat}{p q:Let}(gp:vq F ls p)(gq:vq F ls q)(hp:dD ls p=j)(hq:dD ls q=j+1)(h1:p.gate=(pg:Int))(h2:p.aA=(pr:Int))(h3:q.gate=(qg:Int))(h4:q.aA=(qr:Int)):
  pg<=qg/\qr-1=if qg=pg then pr else 0:=by
 obtain⟨_,_,p1,p2⟩:=gp;obtain⟨_,_,q1,q2⟩:=gq;unfold dD at hp hq;rw[h1,h2] at hp;rw[h3,h4] at hq;rw[h2] at p1;rw[h1,h2] at p2;rw[h4] at q1;rw[h3,h4] at q2;simp only[tL] at hp hq p2 q2;have sp:=uG ls pg;have sq:=uG ls qg;have hle:pg<=qg:=by
  rcases Nat.lt_or_ge qg pg with h|h
  .have:=BH (ls:=ls) (show qg+1<=pg by omega);omega
  exact h
 refine⟨hle,?_⟩;by_cases e:qg=pg
 .subst e;rw[aG rfl];omega
 rw[aC e];have:=BH (ls:=ls) (show pg+1<=qg by omega);omega
def aj2{qg qr:Nat}{q:Let}(gq:vq F ls q)(hq:dD ls q=0)(h3:q.gate=(qg:Int))(h4:q.aA=(qr:Int)):qr-1=0:=by obtain⟨_,_,q1,q2⟩:=gq;unfold dD at hq;rw[h3,h4] at hq;rw[h4] at q1;simp only[tL] at hq;omega
def atV:S.sites 154=[154]:=ah
def ve{vs:e_}{aj:aE}:∀id,FZ id->(allow (S.ctx .all) 154 vs aj).ok id=true:=fun id h=>vf (by rw[atV,h];simp)
def asL(ok:fN F ls)(hF:F<=1000)(hj:j<(aI ls).length):
  aO S 125 [.one (.p (nL F ls)),vi j] (.tup [.one (bh El 2 (qp (qX F ls j))),.one (bh 3 1 (nP (Ek F ls j)))]):=by
 have hl:=ok.hl;have iC:(aI ls).length<=1000000:=oZ (xN ls ls.length) hl;have hm:=dk (j+1) (show 0<(aI ls).length by omega);obtain⟨u,p,hu,du,hp,pp,gp,xp⟩:=aaX ok hj;obtain⟨v,q,hv,dv,hq,pq,gq,xq⟩:=aaX ok hm;unfold qX Ek;simp only[du,dv,AQ hp,AQ hq,Zr hp];have fG:=jo hp;have DU:=jo hq;have ym:=kI hu;have BZ:=kI hv;have e1:=xv (j+1) (aI ls).length;have w1:=df (n:=j) aa;have w2:=LU (a:=(aI ls).length) aa aa;have qL:¬(((aI ls).length:Int)=0):=aa
 have hg0:=gp.g0;have Hw:=gp.g1;have DL:=gq.g0;have dp:=gq.g1;have yq:=gp.r0;have k9:=gp.r1;have qO:=gq.r0;have kG:=gq.r1;have hcg:cg ls p.gate.toNat<=ls.length:=sR _ _;have hcq:cg ls q.gate.toNat<=ls.length:=sR _ _;obtain⟨pg,h1⟩:=vV (show 0<=p.gate by omega);obtain⟨pr,h2⟩:=vV (show 0<=p.aA by omega);obtain⟨qg,h3⟩:=vV (show 0<=q.gate by omega);obtain⟨qr,h4⟩:=vV (show 0<=q.aA by omega);have wr:=LU (a:=qr) (by rw[h4] at qO;omega) aa;have jw:S.shared 154=true:=ah;have FJ:=fun h=>aj4 gp gq xp (h:dD ls q=j+1) h1 h2 h3 h4;have XL:=fun h=>aj2 gq (h:dD ls q=0) h3 h4
 rw[h1] at Hw k9 hcg hg0;rw[h2] at k9 yq;rw[h3] at DL dp kG hcq;rw[h4] at qO kG;rw[h1,h2,h3];simp only[tL] at k9 hcg kG hcq |-;refine bY c125 ?_;by_cases aB:j+1<(aI ls).length
 .have aP:(j:Int)<(((aI ls).length-1:Nat):Int):=aa;rw[fX aB] at xq;obtain⟨n1,n2⟩:=FJ xq;simp only[aG aB];simp only[go_sem,i125,ym,BZ,fG,DU,Let.ps,w1,e1,w2,wr,aP,qL,h1,h2,h3,h4,jw];refine⟨aL,?_⟩;refine sY (P:=Jl pg pr qg [] [] 9856128192 9856256256 _) Ba (Mq (g:=pg) (r:=pr) (T:=qg) (t:=qr-1) (c1:=.p .nils) (c2:=.p .nils) ve (ve _ rfl) (ve _ rfl) n1 n2 aa (cA _) (cA _) ae ae ae grown.nil grown.nil) ?_;rintro v ao ⟨c1,c2,j2,rfl,g1,g2,nh,dQ⟩
  have nh:j2=9856256256:=by rcases nh with h|h<;>exact h
  subst nh;simp only[go_sem];exact TJ ae g1 g2
 have aP:¬(j:Int)<(((aI ls).length-1:Nat):Int):=aa;have Hy:(j+1)%(aI ls).length=0:=by rw[show j+1=(aI ls).length by omega,EO]
 rw[Hy] at xq;have n2:=XL xq;simp only[aC aB];have XP:∃t:Nat,t=(if F=pg then pr else 0):=⟨_,rfl⟩;obtain⟨t,ht⟩:=XP;have fin:∀(ak:Env) (aj:aE) (c1 c2:C),True:=fun _ _ _ _=>trivial;have ini:(((pg:Int)==(F:Int))=true/\t=pr/\F=pg)\/(((pg:Int)==(F:Int))=false/\t=0):=by
  by_cases h:F=pg
  .subst h;rw[aG rfl] at ht;exact .inl ⟨af,ht,rfl⟩
  rw[aC h] at ht;exact .inr ⟨by simp;omega,ht⟩
 rcases ini with ⟨hb,r9,hFp⟩|⟨hb,r9⟩
 .subst hFp;simp only[go_sem,i125,ym,BZ,fG,DU,Let.ps,w1,e1,w2,wr,aP,qL,h1,h2,h3,h4,jw,hb];refine⟨aL,?_⟩;refine⟨aL,?_⟩;refine sY (P:=Jl F pr F [] [] 9856128192 9856256256 _) Ba (Mq (g:=F) (r:=pr) (T:=F) (t:=pr) (c1:=.p .nils) (c2:=.p .nils) ve (ve _ rfl) (ve _ rfl) aa (by rw[aG rfl]) aa (cA _) (cA _) ae ae ae grown.nil grown.nil) ?_;rintro v cZ ⟨c1,c2,j2,rfl,g1,g2,nh,dQ⟩
  have nh:j2=9856256256:=by rcases nh with h|h<;>exact h
  subst nh;rw[gR] at g1 g2;have hA:=dQ 8000256384 ae;simp only[go_sem] at hA;simp only[go_sem,hA,jw];refine sY (P:=Jl 0 0 qg (qp (tH F pr F)) (nP (uX F F)) 9856320192 9856256256 _) Ba (Mq (g:=0) (r:=0) (T:=qg) (t:=qr-1) (c1:=c1) (c2:=c2) ve (ve _ rfl) (ve _ rfl) (cA _) (by rw[n2];split<;>rfl) aa (by simp only[cU,Bn];omega) (by simp only[cU,Vm];omega) ae ae ae g1 g2) ?_;rintro v bN ⟨d1,d2,j3,rfl,k1,k2,A6,_⟩
  have A6:j3=9856256256:=by rcases A6 with h|h<;>exact h
  subst A6;simp only[go_sem];rw[Li,KZ];exact TJ ae k1 k2
 simp only[go_sem,i125,ym,BZ,fG,DU,Let.ps,w1,e1,w2,wr,aP,qL,h1,h2,h3,h4,jw,hb];refine⟨aL,?_⟩;refine⟨aL,?_⟩;refine sY (P:=Jl pg pr F [] [] 9856128192 9856256256 _) Ba (Mq (g:=pg) (r:=pr) (T:=F) (t:=0) (c1:=.p .nils) (c2:=.p .nils) ve (ve _ rfl) (ve _ rfl) aa (by rw[r9] at ht;exact ht) aa (cA _) (cA _) ae ae ae grown.nil grown.nil) ?_;rintro v cZ ⟨c1,c2,j2,rfl,g1,g2,nh,dQ⟩
 have nh:j2=9856256256:=by rcases nh with h|h<;>exact h
 subst nh;rw[gR] at g1 g2;have hA:=dQ 8000256384 ae;simp only[go_sem] at hA;simp only[go_sem,hA,jw];refine sY (P:=Jl 0 0 qg (qp (tH pg pr F)) (nP (uX pg F)) 9856320192 9856256256 _) Ba (Mq (g:=0) (r:=0) (T:=qg) (t:=qr-1) (c1:=c1) (c2:=c2) ve (ve _ rfl) (ve _ rfl) (cA _) (by rw[n2];split<;>rfl) aa (by simp only[cU,Bn];omega) (by simp only[cU,Vm];omega) ae ae ae g1 g2) ?_;rintro v bN ⟨d1,d2,j3,rfl,k1,k2,A6,_⟩
 have A6:j3=9856256256:=by rcases A6 with h|h<;>exact h
 subst A6;simp only[go_sem];rw[Li,KZ];exact TJ ae k1 k2
end
end Go.Abs
