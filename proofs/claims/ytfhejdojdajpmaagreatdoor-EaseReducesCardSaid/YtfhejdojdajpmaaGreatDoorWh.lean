/- A part. -/
import Derived.Test.YtfhejdojdajpmaaGreatDoorWa
set_option linter.all false
set_option maxRecDepth 100000
set_option maxHeartbeats 16000000
namespace Go.Abs
section
variable{F j n2 v x:Nat}{ls:List Let}
abbrev rM(F:Nat)(ls:List Let):PV:=Jr F ls (.sl (bP (nj ls))) (.sl (nP (aC ls))) (.sl (nP (iN ls ls.length))) (.mp true (nK ls ls.length)) (.sl (nP (counts ls F)))
structure dU (F:Nat) (ls:List Let):Prop where
 hl:ls.length<=1000000
 ax:Ai F ls
 cr:kr ls=true
 kinds:∀l∈ls,l.aG=true\/l.aB=true
theorem ux{a:Nat}(h:a<=9223372036854775807):IntKind.i64.wrap ((a:Int)-1)=(a:Int)-1:=by
 cases a with
 |zero=>decide
 |succ a=>rw[DB aa h];omega
theorem afu{a n:Nat}(hn:1<=n)(h:a+n<=9223372036854775807):IntKind.i64.wrap (((a:Int)-1)+(n:Int))=((a+n-1:Nat):Int):=by have e:((a:Int)-1)+(n:Int)=((a+n-1:Nat):Int):=aa;rw[e];exact wrap_small aa
theorem Ta(F:Nat)(ls:List Let)(i:Nat)(hl:ls.length<=1000000)(hi:i<ls.length):aJ S 152 [.one (.p (rM F ls)),vi i] (ri (dw ls.length i true)):=by refine bc c152 ?_;have e:=qL (a:=i) aa;simp only[go_sem,i152,e,dw]
theorem Qh(F:Nat)(ls:List Let)(i:Nat)(hl:ls.length<=1000000)(hi:i<ls.length):aJ S 151 [.one (.p (rM F ls)),vi i] (ri (dw ls.length i false)):=by refine bc c151 ?_;have e1:=ux (a:=i) aa;have e2:=afu (a:=i) (n:=ls.length) aa aa;have e3:=qK (i+ls.length-1) ls.length;have hm:=dK (i+ls.length-1) (show 0<ls.length by omega);have e4:=qL (a:=(i+ls.length-1)%ls.length) aa;have e5:=bQ (n:=2*((i+ls.length-1)%ls.length)) aa;have hz:¬((ls.length:Int)=0):=aa;simp only[go_sem,i151,e1,e2,e3,e4,e5,hz,dw]
theorem MI{l:Let}(h:ls[v]?=some l)(hp:l.aG=true):(nj ls)[v]?=some (dn ls v):=by have:=(aY.1 h).1;simp[nj,sI this,gY,h,hp]
theorem anR{l:Let}(h:ls[v]?=some l)(hp:l.aG=true):(iN ls ls.length)[v]?=some (dE ls l):=by have:=(aY.1 h).1;simp[iN,this,Fg h hp]
theorem dU.NU(ok:dU F ls){l:Let}(h:ls[v]?=some l)(h2:(l.kind==2)=false):l.aG=true:=by
 rcases ok.kinds l (aW h) with hp|hc
 .exact hp
 unfold Let.aB at hc;rw[h2] at hc;cases hc
theorem Yg(ok:dU F ls)(d:Nat)(hd:d<2*ls.length+2*(aC ls).length):aJ S 126 [.one (.p (rM F ls)),vi d] (ri (fN ls (aC ls) d)):=by
 have hl:=ok.hl;have fO:(aC ls).length<=1000000:=lf (qQ ls ls.length) hl;have iT:∀x∈aC ls,x<ls.length/\ ∃l,ls[x]?=some l/\l.aG=true:=fun x hx=>by obtain⟨l,h1,h2⟩:=qR.1 hx;exact⟨(aY.1 h1).1,l,h1,h2⟩
 have m1:IntKind.i64.wrap (2*(ls.length:Int))=((2*ls.length:Nat):Int):=qL aa;unfold fN;by_cases h:2*ls.length<=d
 .rw[aE h];refine bc c126 ?_;have h':((2*ls.length:Nat):Int)<=(d:Int):=aa;have m2:=Pj (a:=d) (b:=2*ls.length) h aa;have m3:=wrap_small (n:=(d-2*ls.length)/2) aa;have hm:=dK ((d-2*ls.length)/2+1) (show 0<(aC ls).length by omega);have pN:¬(((aC ls).length:Int)=0):=aa;obtain⟨u,hu⟩:=aN (ls:=aC ls) (k:=(d-2*ls.length)/2) aa;have ye:=ia hu;by_cases h2:d%2=0
  .rw[aE h2];have m4:=bQ (n:=(d-2*ls.length)/2) aa;have iS:(((d%2:Nat):Int)==0)=true:=by simp[h2]
   have m5:=qK ((d-2*ls.length)/2+1) (aC ls).length;obtain⟨v,hv⟩:=aN hm;have oG:(aC ls).getD (((d-2*ls.length)/2+1)%(aC ls).length) 0=v:=by rw[cU,hv];rfl
   rw[oG];obtain⟨qF,l,mK,Bc⟩:=iT v (aW hv);have pO:=ia hv;have dV:=qo (MI mK Bc);have pf:=Ta F ls v hl qF;have pb:=Qh F ls v hl qF;cases hq:dn ls v with
   |true=>rw[hq] at dV;simp only[go_sem,i126,m1,m2,m3,m4,m5,h',iS,ye,pO,dV,pN,ig,eL,dF,s151,dJ pb];exact⟨aH,aH⟩
   |false=>rw[hq] at dV;simp only[go_sem,i126,m1,m2,m3,m4,m5,h',iS,ye,pO,dV,pN,ig,eL,dF,s152,dJ pf];exact⟨aH,aH⟩
  rw[aD h2];have iS:(((d%2:Nat):Int)==0)=false:=by simp;omega
  have oG:(aC ls).getD ((d-2*ls.length)/2) 0=u:=by rw[cU,hu];rfl
  rw[oG];obtain⟨qF,l,mK,Bc⟩:=iT u (aW hu);have dV:=qo (MI mK Bc);have pf:=Ta F ls u hl qF;have pb:=Qh F ls u hl qF;cases hq:dn ls u with
  |true=>rw[hq] at dV;simp only[go_sem,i126,m1,m2,m3,h',iS,ye,dV,ig,eL,dF,s152,dJ pf];exact aH
  |false=>rw[hq] at dV;simp only[go_sem,i126,m1,m2,m3,h',iS,ye,dV,ig,eL,dF,s151,dJ pb];exact aH
 rw[aD h];have h':¬(((2*ls.length:Nat):Int)<=(d:Int)):=aa;have m3:=wrap_small (n:=d/2) aa;have fP:¬((ls.length:Int)=0):=aa;have pN:=dK (d/2+1) (show 0<ls.length by omega);have m4:=bQ (n:=d/2) aa;have m5:=qK (d/2+1) ls.length;have body:∀v:Nat,v<ls.length->∀fw:Bool,v=(if fw then (d/2+1)%ls.length else d/2)->(((d%2:Nat):Int)==0)=fw->aJ S 126 [.one (.p (rM F ls)),vi d] (ri ((match ls[v]? with
   |none=>0
   |some l=>if l.kind==2 then dw ls.length (fh ls v) (fw==(l.over==(l.sign==1)))
    else if dn ls v==fw then 2*ls.length+2*(aC ls).idxOf v else 2*ls.length+2*(((aC ls).idxOf v+(aC ls).length-1)%(aC ls).length)+1:Nat):Int)):=by
  intro v hv fw eK pL;obtain⟨l,mK⟩:=aN hv;have fR:=gE mK;rw[mK];simp only;refine bc c126 ?_;cases hk:(l.kind==2) with
  |true=>
   have hc:l.aB=true:=hk;have cH:(l.kind==1)=false:=by simp only[dk] at hk;rw[hk];rfl
   obtain⟨CR,KL⟩:=Oi ok.cr mK hc;have hf:=ZO ls ls.length l.id;rw[aE (NJ (aW mK) hc)] at hf;have pf:=Ta F ls (fh ls v) hl KL;have pb:=Qh F ls (fh ls v) hl KL;cases ho:l.over with
   |true=>
    rw[ho] at CR;have CR:fy ls ls.length l.id false=some (fh ls v):=CR;simp only[pG,CR] at hf;simp only[zT] at hf;cases hs:(l.sign==1) with
    |true=>
     cases fw with
     |true=>have eK:v=(d/2+1)%ls.length:=eK;rw[eK] at fR hf pf pb ⊢;simp only[go_sem,i126,m1,m3,m4,m5,h',pL,fR,Let.ps,fP,cH,ho,hs,ig,eL,dF,mapOf,mapVal,iK,hf,s152,dJ pf];exact⟨aH,aH⟩
     |false=>have eK:v=d/2:=eK;rw[eK] at fR hf pf pb ⊢;simp only[go_sem,i126,m1,m3,h',pL,fR,Let.ps,cH,ho,hs,ig,eL,dF,mapOf,mapVal,iK,hf,s151,dJ pb];exact⟨aH,aH⟩
    |false=>
     cases fw with
     |true=>have eK:v=(d/2+1)%ls.length:=eK;rw[eK] at fR hf pf pb ⊢;simp only[go_sem,i126,m1,m3,m4,m5,h',pL,fR,Let.ps,fP,cH,ho,hs,ig,eL,dF,mapOf,mapVal,iK,hf,s151,dJ pb];exact⟨aH,aH⟩
     |false=>have eK:v=d/2:=eK;rw[eK] at fR hf pf pb ⊢;simp only[go_sem,i126,m1,m3,h',pL,fR,Let.ps,cH,ho,hs,ig,eL,dF,mapOf,mapVal,iK,hf,s152,dJ pf];exact⟨aH,aH⟩
   |false=>
    rw[ho] at CR;have CR:fy ls ls.length l.id true=some (fh ls v):=CR;simp only[pG,CR] at hf;simp only[zT] at hf;cases hs:(l.sign==1) with
    |true=>
     cases fw with
     |true=>have eK:v=(d/2+1)%ls.length:=eK;rw[eK] at fR hf pf pb ⊢;simp only[go_sem,i126,m1,m3,m4,m5,h',pL,fR,Let.ps,fP,cH,ho,hs,ig,eL,dF,mapOf,mapVal,iK,hf,s151,dJ pb];exact⟨aH,aH⟩
     |false=>have eK:v=d/2:=eK;rw[eK] at fR hf pf pb ⊢;simp only[go_sem,i126,m1,m3,h',pL,fR,Let.ps,cH,ho,hs,ig,eL,dF,mapOf,mapVal,iK,hf,s152,dJ pf];exact⟨aH,aH⟩
    |false=>
     cases fw with
     |true=>have eK:v=(d/2+1)%ls.length:=eK;rw[eK] at fR hf pf pb ⊢;simp only[go_sem,i126,m1,m3,m4,m5,h',pL,fR,Let.ps,fP,cH,ho,hs,ig,eL,dF,mapOf,mapVal,iK,hf,s152,dJ pf];exact⟨aH,aH⟩
     |false=>have eK:v=d/2:=eK;rw[eK] at fR hf pf pb ⊢;simp only[go_sem,i126,m1,m3,h',pL,fR,Let.ps,cH,ho,hs,ig,eL,dF,mapOf,mapVal,iK,hf,s151,dJ pb];exact⟨aH,aH⟩
  |false=>
   have hp:=ok.NU mK hk;have cH:(l.kind==1)=true:=hp;have dV:=qo (MI mK hp);have bG:=ia (anR mK hp);have KA:=Ja ok.ax mK hp;have hpT:=Va (ok.ax.eJ l (aW mK) hp);rw[DJ ok.ax.pJ] at hpT;rw[KA];have KE:¬(((aC ls).length:Int)=0):=aa;have u9:=dK (dE ls l+(aC ls).length-1) (show 0<(aC ls).length by omega);have n1:=qL (a:=dE ls l) aa;have n2:=wrap_add (a:=2*ls.length) (b:=2*dE ls l) aa;have n3:=ux (a:=dE ls l) aa;have n4:=afu (a:=dE ls l) (n:=(aC ls).length) aa aa;have n5:=qK (dE ls l+(aC ls).length-1) (aC ls).length;have n6:=qL (a:=(dE ls l+(aC ls).length-1)%(aC ls).length) aa;have n7:=wrap_add (a:=2*ls.length) (b:=2*((dE ls l+(aC ls).length-1)%(aC ls).length)) aa
   have n8:=bQ (n:=2*ls.length+2*((dE ls l+(aC ls).length-1)%(aC ls).length)) aa;cases fw with
   |true=>
    have eK:v=(d/2+1)%ls.length:=eK;cases Kl:dn ls v with
    |true=>rw[Kl] at dV;rw[eK] at fR dV bG;simp only[go_sem,i126,m1,m3,m4,m5,h',pL,fR,Let.ps,fP,cH,ig,eL,dF,dV,bG,n1,n2];exact aH
    |false=>rw[Kl] at dV;rw[eK] at fR dV bG;simp only[go_sem,i126,m1,m3,m4,m5,h',pL,fR,Let.ps,fP,cH,ig,eL,dF,dV,bG,n3,n4,n5,n6,n7,n8,KE];exact aH
   |false=>
    have eK:v=d/2:=eK;cases Kl:dn ls v with
    |true=>rw[Kl] at dV;rw[eK] at fR dV bG;simp only[go_sem,i126,m1,m3,h',pL,fR,Let.ps,cH,ig,eL,dF,dV,bG,n3,n4,n5,n6,n7,n8,KE];exact aH
    |false=>rw[Kl] at dV;rw[eK] at fR dV bG;simp only[go_sem,i126,m1,m3,h',pL,fR,Let.ps,cH,ig,eL,dF,dV,bG,n1,n2];exact aH
 have qF:(if (d%2==0)=true then (d/2+1)%ls.length else d/2)<ls.length:=by
  split
  .exact pN
  omega
 have:=body _ qF (d%2==0) rfl (by cases hq:(d%2==0)<;>simp at hq ⊢ <;>omega);exact this
abbrev aV(ls:List Let):Nat->Nat:=fN ls (aC ls)
theorem ajE(ok:dU F ls){Q:dS}:
  ∀(fuel x:Nat) (sn:List Bool) (ak:Env) (aj:aA),ak 0=.one (.p (rM F ls))->ak 4=.one (.hsl 6848128064 1 1 0 sn.length)->aj 6848128064=(1,some (.arr 4 1 (bP sn)))->
   ak 7=vi x->x<sn.length->sn.length=2*ls.length+2*(aC ls).length->wV sn<fuel->
   (∀aI ao,aI 0=ak 0->aI 4=ak 4->aI 5=ak 5->aI 24=ak 24->aI 25=ak 25->ao 6848128064=(1,some (.arr 4 1 (bP (eD (aV ls) fuel x sn).2)))->Q .normal aI ao)->
   W S .all (.loop i107_l1) (pF 2 Q) ak aj:=by
 have fO:(aC ls).length<=1000000:=lf (qQ ls ls.length) ok.hl;have iT:∀x∈aC ls,x<ls.length:=fun x h=>Mx h;have hp:∀v l,ls[v]?=some l->(l.kind==2)=false->v∈aC ls:=fun v l hv h2=>qR.2 ⟨l,hv,ok.NU hv h2⟩;intro fuel
 induction fuel with
 |zero=>intro x sn ak aj _ _ _ _ _ _ h;omega
 |succ fuel ih=>
  intro x sn ak aj h0 h4 hS h7 hx hsl hu hq;obtain⟨b,hb⟩:=aN hx;have nv:=qo hb;have xU:sn.getD x true=b:=by rw[cU,hb];rfl
  unfold eD at hq;rw[xU] at hq;refine lU ?_;cases b with
  |true=>simp only[go_sem,i107_l1,h4,hS,h7,hx,nv];refine hq _ _ ?_ ?_ ?_ ?_ ?_ hS;all_goals simp only[go_sem,h4]
  |false=>
   have CQ:=LW hb;have pt:=Yg ok x aa;have iV:=O8 (d:=x) iT hp aa;have jl:=F4 sn x true;simp only[go_sem,i107_l1,h0,h4,hS,h7,hx,nv,jl,s126,dJ pt];refine ih (fN ls (aC ls) x) (sn.set x true) _ _ ?_ ?_ ?_ ?_ (by simpa [hsl] using iV) (by simpa using hsl) aa ?_
   .simp only[go_sem,h0]
   .simp only[go_sem,h4,rD]
   .simp only[go_sem]
   .simp only[go_sem]
   intro aI ao q0 q4 q5 oO zH b1;refine hq aI ao ?_ ?_ ?_ ?_ ?_ b1
   .rw[q0];simp only[go_sem]
   .rw[q4];simp only[go_sem]
   .rw[q5];simp only[go_sem]
   .rw[oO];simp only[go_sem]
   rw[zH];simp only[go_sem]
theorem ajH(ok:dU F ls):aJ S 107 [.one (.p (rM F ls))] (rb (ky ls==ay Let.aG ls+ay Let.aB ls/2+2)):=by
 have hl:=ok.hl;have fO:(aC ls).length<=ls.length:=qQ ls ls.length;have m1:=qL (a:=ls.length) aa;have m2:=qL (a:=(aC ls).length) aa;have m3:=wrap_add (a:=2*ls.length) (b:=2*(aC ls).length) aa;have jC:2*ls.length+2*(aC ls).length<=140737488355328:=aa;have ED:List.replicate (2*ls.length+2*(aC ls).length) [PV.bool false]=bP (List.replicate (2*ls.length+2*(aC ls).length) false):=af;have u9:(nK ls ls.length).length=ay Let.aB ls/2:=by have:=ok.cr;unfold kr at this;simp only[cE,dk] at this;simp[nK,this.2]
 have qA:ay Let.aB ls<=ls.length:=qt _ _;refine bc c107 ?_;simp only[go_sem,i107,m1,m2,m3,jC,ED];refine⟨aH,?_⟩;generalize hN:2*ls.length+2*(aC ls).length=N at jC;refine cS (fun k ak aj=>ak 0=.one (.p (rM F ls))/\ak 4=.one (.hsl 6848128064 1 1 0 N)/\aj 6848128064=(1,some (.arr 4 1 (bP (dt (aV ls) N k).2)))/\
   ak 5=vi (dt (aV ls) N k).1.length/\ak 24=vi N/\ak 25=vi k) 0 N (bn _) ?_ ?_
 .simp only[go_sem];exact⟨rfl,rfl,rfl⟩
 rintro k ak aj hk ⟨h0,h4,hS,h5,rX,rY⟩
 have hlen:=Fq (aV ls) N k;have CJ:=IA (aV ls) N k;by_cases au:k<N
 .have aL:((k:Int)<(N:Int)):=aa;have w1:=bQ (n:=k) aa;have hs:=wW (aV ls) N k;generalize cJ:dt (aV ls) N k=st at hlen hs hS h5 CJ;obtain⟨out,sn⟩:=st;simp only at hlen hS h5 CJ;obtain⟨b,hb⟩:=aN (ls:=sn) (k:=k) aa;have nv:=qo hb;unfold tq at hs;have xU:sn.getD k true=b:=by rw[cU,hb];rfl
  simp only[xU] at hs;cases b with
  |true=>have hs:dt (aV ls) N (k+1)=(out,sn):=hs;simp only[go_sem,i107_l3,i107_r2,h0,h4,hS,h5,rX,rY,au,aL,nv,w1,hs]
  |false=>
   have hs:dt (aV ls) N (k+1)=(out++[(eD (aV ls) (N+1) k sn).1],(eD (aV ls) (N+1) k sn).2):=by rw[hs,hlen];rfl
   have hul:=Ix sn;have w2:=bQ (n:=out.length) aa;simp only[go_sem,i107_l3,h4,hS,h5,rX,rY,au,aL,nv,w2];refine ajE ok (N+1) k sn _ _ ?_ ?_ ?_ ?_ aa aa aa ?_
   .simp only[go_sem,h0]
   .simp only[go_sem,h4,hlen]
   .simp only[go_sem,hS]
   .simp only[go_sem]
   intro aI ao q0 q4 q5 oO zH b1;simp only[go_sem,h0,h4,h5,rX,rY] at q0 q4 q5 oO zH;simp only[go_sem,i107_r2,q0,q4,q5,oO,zH,b1,w1,hs,au];simp
 have:k=N:=aa;subst this;have he:ky ls=(dt (aV ls) k k).1.length:=by unfold ky dR aV;rw[hN]
 rw[<- he] at h5;have w3:=wrap_add (a:=(aC ls).length) (b:=ay Let.aB ls/2) aa;have w4:IntKind.i64.wrap ((((aC ls).length+ay Let.aB ls/2:Nat):Int)+2)=(((aC ls).length+ay Let.aB ls/2+2:Nat):Int):=wrap_add (a:=(aC ls).length+ay Let.aB ls/2) (b:=2) aa;have hb:(((ky ls:Nat):Int)==(((aC ls).length+ay Let.aB ls/2+2:Nat):Int))=(ky ls==ay Let.aG ls+ay Let.aB ls/2+2):=by
  rw[I9];cases h:(ky ls==ay Let.aG ls+ay Let.aB ls/2+2) with
  |true=>simp at h ⊢;omega
  |false=>simp at h ⊢;omega
 simp only[go_sem,i107_l3,i107_r4,h0,h5,rX,rY,dI,zt,u9,w3,w4,hb];exact aH
abbrev IZ(id:Nat):Prop:=id=2432320128\/(mr id=76\/mr id=105\/mr id=106)
def aiw(F:Nat)(ls:List Let)(g:Nat)(aj:aA):Prop:= ∃g1 g2 g3 g4 g5,
 aj 2432320128=(g,some (.var (tM F ls (hs 6720128448 g2 ls.length) (hs 6721344128 g5 (aC ls).length) (hs 6720192448 g3 ls.length) (.jP 6784256064 g4) (hs 6720064448 g1 (F+1)))))/\
 aj 6720064448=(g1,some (.arr 3 1 (nP (counts ls F))))/\aj 6720128448=(g2,some (.arr 4 1 (bP (nj ls))))/\aj 6720192448=(g3,some (.arr 3 1 (nP (iN ls ls.length))))/\
 aj 6721344128=(g5,some (.arr 3 1 (nP (aC ls))))/\aj 6784256064=(g4,some (.map true (nK ls ls.length)))
def Pa(F:Nat)(ls:List Let):Bool:=decide (ls=[])||ki F ls
def VR(F:Nat)(ls:List Let)(g:Nat)(nh:aA)(v:V)(ao:aA):Prop:=v=vb (Pa F ls)/\Kept IZ nh ao/\(ls≠[]->ki F ls=true->aiw F ls g ao)/\(ls=[]->ao 2432320128=nh 2432320128)
theorem Vx:S.sites 76=[76,105,106]:=ah
theorem aeA:S.sites 105=[105]:=ah
theorem aeD:S.sites 106=[106]:=ah
theorem Kept.Pe{K K':Nat->Prop}{a b:aA}(h:Kept K a b)(hk:∀id,K id->K' id):Kept K' a b:=fun id hn=>h id fun hh=>hn (hk id hh)
abbrev BB(g:Nat):List (List C):=[[.hfn 103 [.ba 2432320128 g 0] []],[.hfn 104 [.ba 2432320128 g 0] []],[.hfn 105 [.ba 2432320128 g 0] []],[.hfn 106 [.ba 2432320128 g 0] []],[.hfn 107 [.ba 2432320128 g 0] []]]
section
variable {al:Al} {Q:dS} {ak:Env} {aj:aA} {g g0:Nat}
theorem VV(k:Nat){f:Nat}{dv:PV}{r:List Nat}{b:Bool}(hk:k<5)(hf:(BB g)[k]?=some [.hfn f [.ba 2432320128 g 0] []])(Hi:S.shared f=false)(oV:al.ok 4864192640=true)
  (uV:ak 22=.one (hs 4864192640 g0 5)) (vO:ak 23=vi 5) (rX:ak 24=vi k) (bV:aj 4864192640=(g0,some (.gQ 25 1 (BB g))))
  (lI:mu aj (.one (.ba 2432320128 g 0))=some (.one (.p dv),r)) (hr:al.fE r=true) (hp:aJ S f [.one (.p dv)] (rb b))
  (TC:b=false->∀aI,aI 2=vb false->Q .ret aI aj)
  (T7:b=true->∀aI,aI 22=.one (hs 4864192640 g0 5)->aI 23=vi 5->aI 24=vi ((k+1:Nat):Int)->W S al (.loop i76_l1) Q aI aj):W S al (.loop i76_l1) Q ak aj:=by
 refine lU ?_;have au:((k:Int)<5):=aa;have w1:=bQ (n:=k) aa;cases b with
 |false=>simp only[go_sem,i76_l1,uV,vO,rX,bV,au,hk,hf,Hi,oV,↓lI,aaa hp,hr];exact TC rfl _ (by simp only[go_sem])
 |true=>
  simp only[go_sem,i76_l1,uV,vO,rX,bV,au,hk,hf,Hi,oV,↓lI,aaa hp,hr,w1];refine T7 rfl _ ?_ ?_ ?_
  .simp only[go_sem,uV]
  .simp only[go_sem,vO]
  simp only[go_sem]
theorem afj(k:Nat){f:Nat}{P:V->aA->Prop}{b:Bool}(hk:k<5)(hf:(BB g)[k]?=some [.hfn f [.ba 2432320128 g 0] []])(Hi:S.shared f=true)(oV:al.ok 4864192640=true)
  (uV:ak 22=.one (hs 4864192640 g0 5)) (vO:ak 23=vi 5) (rX:ak 24=vi k) (bV:aj 4864192640=(g0,some (.gQ 25 1 (BB g))))
  (hh:al.holds (allow (S.ctx al) f [.one (.ba 2432320128 g 0)] aj)=true) (h:∃v ao,iA S f [.one (.ba 2432320128 g 0)] (allow (S.ctx al) f [.one (.ba 2432320128 g 0)] aj) aj v ao/\P v ao)
  (hP:∀v ao,P v ao->v=vb b)
  (TC:b=false->∀v aI ao,P v ao->aI 2=vb false->Q .ret aI ao)
  (T7:b=true->∀v aI ao,P v ao->aI 22=.one (hs 4864192640 g0 5)->aI 23=vi 5->aI 24=vi ((k+1:Nat):Int)->W S al (.loop i76_l1) Q aI ao):W S al (.loop i76_l1) Q ak aj:=by
 refine lU ?_;have au:((k:Int)<5):=aa;have w1:=bQ (n:=k) aa;simp only[go_sem,i76_l1,uV,vO,rX,bV,au,hk,hf,Hi,oV];refine rV hh h fun v ao hp=>?_;have hv:=hP v ao hp;subst hv;cases b with
 |false=>simp only[go_sem];exact TC rfl _ _ _ hp (by simp only[go_sem])
 |true=>
  simp only[go_sem,rX,w1];refine T7 rfl _ _ _ hp ?_ ?_ ?_
  .simp only[go_sem,uV]
  .simp only[go_sem,vO]
  simp only[go_sem]
end
theorem arA{al:Al}(okD:al.ok 2432320128=true)(okf:∀id,(mr id=76\/mr id=105\/mr id=106)->al.ok id=true)(f1:al.fs.contains 105=true)(f2:al.fs.contains 106=true)
  {aj:aA} {g F:Nat} {ls:List Let} (hl:ls.length<=1000000) (hF:F<=1000000)
  (bD:aj 2432320128=(g,some (.var (tM F ls (.p .nils) (.p .nils) (.p .nils) (.p .pW) (.p .nils))))):∃v ao,iA S 76 [.one (.ba 2432320128 g 0)] al aj v ao/\VR F ls g aj v ao:=by
 have oV:=okf 4864192640 (.inl rfl);refine mz c76 (gj rfl) ?_;by_cases he:ls=[]
 .subst he;have hz:(((0:Nat):Int)==0)=true:=ae;simp only[go_sem,i76,bD,hz,okD];exact⟨rfl,Kept.refl _ _,fun h=>absurd rfl h,fun _=>rfl⟩
 have iI:=kY.2 he;have Ez:(((ls.length:Nat):Int)==0)=false:=by simp;omega
 obtain⟨l0,h0⟩:=aN iI;have qB:decide (ls=[])=false:=by simp[he]
 have pl:=aix F ls (.sl []) (.sl []) (.sl []) .pW (.sl []) hl ⟨rfl,rfl,rfl,rfl,rfl⟩;have pb:=aiq F ls l0 (.sl []) (.sl []) (.sl []) .pW (.sl []) hl h0;have aaW:=Ux (F:=F) (ls:=ls);have fail:∀aI ao,Kept IZ aj ao->ki F ls=false->aI 2=vb false->pF 0 (wU S al i76_r2 (qT al [(2,none)] (VR F ls g aj))) .ret aI ao:=fun aI ao hk hv h2=>by simp only[go_sem,h2];exact⟨by rw[Pa,qB,hv];rfl,hk,fun _ h=>(by rw[hv] at h;cases h),fun h=>absurd h he⟩
 have noL:vk F ls=false->ki F ls=false:=fun h=>by simp[ki,h]
 have UH:¬(ls.any (dr F)=false/\wQ ls=true/\kr ls=true)->ki F ls=false:=fun h=>noL (by
  cases hq:vk F ls with
  |false=>rfl
  |true=>exact absurd (aaW.1 hq) h)
 simp only[go_sem,i76,bD,Ez,okD,oV];have cH:Kept IZ aj (df aj 4864192640 ((aj 4864192640).1+1,some (.gQ 25 1 (BB g)))):=Kept.df (Kept.refl _ _) (.inr (.inl rfl)) _;generalize cQ:df aj 4864192640 ((aj 4864192640).1+1,some (.gQ 25 1 (BB g)))=bt;rw[cQ] at cH;have bV:bt 4864192640=((aj 4864192640).1+1,some (.gQ 25 1 (BB g))):=by rw[<- cQ];simp only[go_sem]
 have bD:bt 2432320128=(g,some (.var (tM F ls (.p .nils) (.p .nils) (.p .nils) (.p .pW) (.p .nils)))):=by rw[<- cQ];simp only[go_sem,bD]
 clear cQ;have lI:mu bt (.one (.ba 2432320128 g 0))=some (.one (.p (Jr F ls (.sl []) (.sl []) (.sl []) .pW (.sl []))),[2432320128]):=by simp only[go_sem,bD]
 have oF:al.fE [2432320128]=true:=by simp only[go_sem,okD]
 refine VV 0 aa rfl s103 oV (by simp only[go_sem]) (by simp only[go_sem];rfl) (by simp only[go_sem];rfl) bV lI oF pl (fun hb aI h2=>fail aI bt cH (UH fun h=>by simp[h.1] at hb) h2) (fun hb aI yv sC oO=>?_);have cQ:ls.any (dr F)=false:=by simpa using hb
 have AZ:∀l∈ls,dr F l=false:=fun l hl=>by simpa using Fz.1 cQ l hl
 have hg:pJ F ls:=fun l hl hp=>((sB hp).1 (AZ l hl)).1.1.1;refine VV 1 aa rfl s104 oV yv sC oO bV lI oF pb (fun hb aI h2=>fail aI bt cH (by simp only[ki,h0,hb];rfl) h2) (fun hbg aI yv sC oO=>?_);clear hb;have hre:jr bt (.one (.ba 2432320128 g 0))=[2432320128]:=by rw[Vl bD];simp[Vk]
 refine afj (b:=wQ ls) 2 aa rfl ah oV yv sC oO bV ?_ (aoL (xl (by simp[hre])) (fun id h=>Ae (by rw[aeA,h];rfl)) hl hF hg bD) (fun v ao h=>h.1) ?_ ?_
 .refine holds_of ?_ ?_
  .show al.fE ([V.one (.ba 2432320128 g 0)].map (jr bt)).flatten=true;simp only[eE,kZ,hre,kX,Wi,qh];exact oF
  show(S.sites 105).all al.fs.contains=true;rw[aeA];simp only[qM,tv,f1];rfl
 .intro hb v aI ao hp h2;exact fail aI ao (cH.trans (hp.2.1.Pe fun id h=>h.elim .inl fun h=>.inr (.inr (.inl h)))) (UH fun h=>by rw[h.2.1] at hb;cases hb) h2
 intro jj v aI bd hp yv sC oO;obtain⟨_,nz,rj⟩:=hp;obtain⟨g1,g2,g3,g5,bD,bC,bW,ng,bA⟩:=rj jj;have iT:Ai F ls:=by obtain⟨a,b⟩:=(Lw hg).1 jj;exact⟨a,b⟩
 rw[aha iT] at bA;rw[DJ hg] at bD;have bV:bd 4864192640=((aj 4864192640).1+1,some (.gQ 25 1 (BB g))):=by rw[<- bV];exact nz _ ae
 have aaU:Kept IZ aj bd:=cH.trans (nz.Pe fun id h=>h.elim .inl fun h=>.inr (.inr (.inl h)));have oC:=okf 6720064448 (.inr (.inl rfl));have oW:=okf 6720128448 (.inr (.inl rfl));have oP:=okf 6720192448 (.inr (.inl rfl));have oA:=okf 6721344128 (.inr (.inl rfl));have oM:=okf 6784256064 (.inr (.inr rfl));have KS:jr bd (.one (.ba 2432320128 g 0))=[2432320128,6720128448,6721344128,6720192448,6720064448]:=by rw[Vl bD];simp only[eE,kZ,Vk,HY bW,HY bA,HY ng,HY bC,kX,Wi,gi,qh,DD]
 refine afj (b:=kr ls) 3 aa rfl ah oV yv sC oO bV ?_ (ais (xl (by simp[KS])) (fun id h=>Ae (by rw[aeD,h];rfl)) hl bD) (fun v ao h=>h.1) ?_ ?_
 .refine holds_of ?_ ?_
  .show al.fE ([V.one (.ba 2432320128 g 0)].map (jr bd)).flatten=true;simp only[eE,kZ,KS,kX,Wi,qh,UR,US,okD,oC,oW,oP,oA,Fy]
  show(S.sites 106).all al.fs.contains=true;rw[aeD];simp only[qM,tv,f2];rfl
 .intro hb v aI ao hp h2;exact fail aI ao (aaU.trans (hp.2.1.Pe fun id h=>h.elim .inl fun h=>.inr (.inr (.inr h)))) (UH fun h=>by rw[h.2.2] at hb;cases hb) h2
 intro fk v aI iQ hp yv sC oO;obtain⟨_,G0,hr3⟩:=hp;obtain⟨g4,bD,bM⟩:=hr3 fk;have kp:∀id,mr id=105->iQ id=bd id:=fun id h=>G0 id (by
  rintro (e|e)
  .rw[e] at h;revert h;decide
  rw[e] at h;revert h;decide)
 rw[<- kp _ rfl] at bC bW ng bA;have bV:iQ 4864192640=((aj 4864192640).1+1,some (.gQ 25 1 (BB g))):=by rw[<- bV];exact G0 _ ae
 have aaV:Kept IZ aj iQ:=aaU.trans (G0.Pe fun id h=>h.elim .inl fun h=>.inr (.inr (.inr h)));have ok:dU F ls:=⟨hl,iT,fk,fun l hl=>Am (AZ l hl)⟩;have pf:=ajH ok;have hlR:vk F ls=true:=aaW.2 ⟨cQ,jj,fk⟩;have hvr:ki F ls=(ky ls==ay Let.aG ls+ay Let.aB ls/2+2):=by
  have aaD:(l0.kind==1)=true/\(ay Let.aG ls%2==0)=true:=by simpa using hbg
  simp only[ki,h0,aaD.1,aaD.2,hlR,IJ]
 have t1:List.take ls.length (bP (nj ls))=bP (nj ls):=eY (by simp[nj]);have t2:List.take (aC ls).length (nP (aC ls))=nP (aC ls):=eY af;have t3:List.take ls.length (nP (iN ls ls.length))=nP (iN ls ls.length):=eY (by simp[iN]);have t4:List.take (F+1) (nP (counts ls F))=nP (counts ls F):=eY (by simp[counts]);have n1:ls.length<=(nj ls).length:=by simp[nj]
 have n3:ls.length<=(iN ls ls.length).length:=by simp[iN]
 have n4:F+1<=(counts ls F).length:=by simp[counts]
 have lI:mu iQ (.one (.ba 2432320128 g 0))=some (.one (.p (rM F ls)),[2432320128,6720128448,6721344128,6720192448,6784256064,6720064448]):=by simp only[go_sem,aeL,bD,bW,bA,ng,bC,bM,VD,t1,t2,t3,t4,n1,n3,n4]
 have oF:al.fE [2432320128,6720128448,6721344128,6720192448,6784256064,6720064448]=true:=by simp only[UR,US,okD,oC,oW,oP,oA,oM,Fy]
 refine VV 4 aa rfl s107 oV yv sC oO bV lI oF pf (fun hb aI h2=>fail aI iQ aaV (by rw[hvr];exact hb) h2) (fun tU aI yv sC oO=>?_);have hv:ki F ls=true:=by rw[hvr];exact tU
 refine lU ?_;have n5:¬((((4+1:Nat)):Int)<5):=ae;simp only[go_sem,i76_l1,i76_r2,sC,oO,n5];exact⟨by rw[Pa,qB,hv];rfl,aaV,fun _ _=>⟨g1,g2,g3,g4,g5,bD,bC,bW,ng,bA,bM⟩,fun h=>absurd h he⟩
abbrev dgE(f:Int):PV:=Jr f [] (.sl []) (.sl []) (.sl []) .pW (.sl [])
abbrev yx(a b:PV):RV:=.tup [.one (.p a),.one (.p b)]
def H0(f:Int)(ls:List Let):RV:=if dT f ls=0 then yx (if ls=[] then dgE f else rM f.toNat ls) (.int .i64 0) else yx .th (.int .i64 (dT f ls))
theorem gn{aj:aA}{s:Nat}{a b:PV}{l:Bool}:land aj [] s ((yx a b).eG l)=some (.tup [.one (.p a),.one (.p b)],[]):=by cases l<;>rfl
theorem Lx{f:Int}{e:Int}(h:dT f ls=e)(he:e≠0):H0 f ls=yx .th (.int .i64 e):=by unfold H0;rw[h,aD he]
theorem OH{f:Int}(h:dT f ls=0):H0 f ls=yx (if ls=[] then dgE f else rM f.toNat ls) (.int .i64 0):=by unfold H0;rw[aE h]
theorem Vm(f:Int)(ls:List Let)(hl:ls.length<=1000000):aJ S 38 [cY f ls] (H0 f ls):=by
 have pc:=QH f ls hl;refine bc c38 ?_;by_cases h1:400<ls.length
 .have jK:(400:Int)<(ls.length:Int):=aa;rw[Lx (e:=7) (by unfold dT;rw[aE (Or.inl h1)]) ae];simp only[go_sem,i38,jK];rfl
 have jK:¬(400:Int)<(ls.length:Int):=aa;by_cases h2:200<ay Let.aB ls
 .have iS:(200:Int)<(ay Let.aB ls:Int):=aa;rw[Lx (e:=7) (by unfold dT;rw[aE (Or.inr h2)]) ae];simp only[go_sem,i38,jK,iS,s75,dJ pc];rfl
 have iS:¬(200:Int)<(ay Let.aB ls:Int):=aa;have n1:¬(400<ls.length\/200<ay Let.aB ls):=aa;by_cases h3:f<0
 .rw[Lx (e:=2) (by unfold dT;rw[aD n1,aE (Or.inl h3)]) ae];simp only[go_sem,i38,jK,iS,h3,s75,dJ pc];rfl
 by_cases h4:40<f
 .rw[Lx (e:=2) (by unfold dT;rw[aD n1,aE (Or.inr h4)]) ae];simp only[go_sem,i38,jK,iS,h3,h4,s75,dJ pc];rfl
 have n2:¬(f<0\/40<f):=aa;obtain⟨F,rfl⟩:=tu (show 0<=f by omega);have iu:S.shared 76=true:=ah;simp only[go_sem,i38,jK,iS,h3,h4,s75,dJ pc,iu];refine rV (P:=VR F ls 1 _) wB (arA (F:=F) (ls:=ls) ?_ ?_ ?_ ?_ hl aa ?_) ?_
 .refine xl ?_;rw[eE,kZ,Vl (g0:=1) (cs:=tM F ls (.p .nils) (.p .nils) (.p .nils) (.p .pW) (.p .nils)) (by simp only[go_sem])];simp
 .intro id h;refine Ae ?_;rw[Vx];rcases h with h|h|h<;>rw[h]<;>rfl
 .show(S.sites 76).contains _=true;rw[Vx];rfl
 .show(S.sites 76).contains _=true;rw[Vx];rfl
 .simp only[go_sem]
 rintro v ao ⟨rfl,hk,hr,hz⟩
 unfold Pa;by_cases he:ls=[]
 .have hc:dT F ls=0:=by unfold dT;rw[aD n1,aD n2,aE he]
  have bD:=hz he;rw[OH hc,aE he];have qB:(decide (ls=[])||ki F ls)=true:=by simp[he]
  rw[qB];subst he;simp only[go_sem] at bD;simp only[go_sem];simp only[go_sem,fv,ll,qU,jx,iY,fm,bD];rfl
 have qB:decide (ls=[])=false:=by simp[he]
 cases hv:ki F ls with
 |false=>rw[Lx (e:=3) (by unfold dT;rw[aD n1,aD n2,aD he,hv];rfl) ae];rw[qB,DC];simp only[go_sem];rfl
 |true=>
  have hc:dT F ls=0:=by unfold dT;rw[aD n1,aD n2,aD he,hv];rfl
  rw[OH hc,aD he];obtain⟨g1,g2,g3,g4,g5,bD,bC,bW,ng,bA,bM⟩:=hr he hv;have hFn:(F:Int).toNat=F:=rfl;rw[hFn];have t1:List.take ls.length (bP (nj ls))=bP (nj ls):=eY (by simp[nj]);have t2:List.take (aC ls).length (nP (aC ls))=nP (aC ls):=eY af;have t3:List.take ls.length (nP (iN ls ls.length))=nP (iN ls ls.length):=eY (by simp[iN]);have t4:List.take (F+1) (nP (counts ls F))=nP (counts ls F):=eY (by simp[counts]);have n1:ls.length<=(nj ls).length:=by simp[nj]
  have n3:ls.length<=(iN ls ls.length).length:=by simp[iN]
  have n4:F+1<=(counts ls F).length:=by simp[counts]
  rw[qB,DC];simp only[go_sem];simp only[go_sem,fv,ll,qU,jx,iY,fm,aeL,bD,bW,bA,ng,bC,bM,VD,t1,t2,t3,t4,n1,n3,n4];rfl
theorem XD(f:Int)(ls:List Let)(hl:ls.length<=1000000):aJ S 18 [cY f ls] (ri (dT f ls)):=by
 have pr:=Vm f ls hl;refine bc c18 ?_;unfold H0 at pr;by_cases h:dT f ls=0
 .rw[aE h] at pr;simp only[go_sem,i18,s38,cK pr gn,h]
 rw[aD h] at pr;simp only[go_sem,i18,s38,cK pr gn]
abbrev ft(k a b c:Int)(l o:Bool)(s:Int):V:=.agg [.p (.int .i64 k),.p (.int .i64 a),.p (.int .i64 b),.p (.int .i64 c),.p (.bool l),.p (.bool o),.p (.int .i64 s)]
abbrev pZ(e:Int):RV:=.tup [.agg [.p (.int .i64 0),.p .nils],.one (.p (.int .i64 e))]
theorem ama{aj:aA}{s:Nat}{e:Int}{l:Bool}:land aj [] s ((pZ e).eG l)=some (.tup [.agg [.p (.int .i64 0),.p .nils],.one (.p (.int .i64 e))],[]):=by cases l<;>rfl
section
variable {f:Int} {ls:List Let} {e:Int}
abbrev kinds(k:Nat):List Nat:=(List.range k).map (· +1)
end
def ir(n v:Nat)(fw:Bool):Nat:=if fw then 2*((v+n-1)%n) else 2*v+1
def lvV(n e:Nat):Nat:=if e%2=0 then e/2 else (e/2+1)%n
theorem vn{n:Nat}(hv:v<n):((v+n-1)%n+1)%n=v:=by
 by_cases h:v=0
 .subst h;rw[jt,gV (show n-1<n by omega),show n-1+1=n by omega,Aa]
 rw[show v+n-1=(v-1)+n by omega,w9,gV (show v-1<n by omega),show v-1+1=v by omega,gV hv]
theorem Dc{n:Nat}(hv:v<n):((v+1)%n+n-1)%n=v:=by
 by_cases h:v+1=n
 .rw[h,Aa,jt,gV (show n-1<n by omega)];omega
 rw[gV (show v+1<n by omega),show v+1+n-1=v+n by omega,w9,gV hv]
theorem acN{n:Nat}(hv:v<n)(g:Bool):lvV n (dw n v g)=v/\(dw n v g%2==0)=g:=by
 unfold lvV dw;cases g with
 |true=>have h1:(2*v)%2=0:=aa;simp only[if_true,h1];exact⟨aa,rfl⟩
 |false=>have h1:(2*((v+n-1)%n)+1)%2=1:=aa;have h2:(2*((v+n-1)%n)+1)/2=(v+n-1)%n:=aa;simp only[eH,if_false,h1,h2,PE,vn hv];exact⟨trivial,rfl⟩
def HU(ls:List Let)(ax:List Nat)(e:Nat):Nat:=
 if 2*ls.length<=e then
  if e%2=0 then ir ls.length (ax.getD ((e-2*ls.length)/2) 0) (dn ls (ax.getD ((e-2*ls.length)/2) 0))
  else ir ls.length (ax.getD (((e-2*ls.length)/2+1)%ax.length) 0) (!dn ls (ax.getD (((e-2*ls.length)/2+1)%ax.length) 0))
 else
  let v:=lvV ls.length e
  let g:=e%2==0
  match ls[v]? with
  |none=>0
  |some l=>if l.kind==2 then
    match ls[fh ls v]? with
    |some u=>ir ls.length (fh ls v) (g==(u.over==(u.sign==1)))
    |none=>0
   else if g==dn ls v then 2*ls.length+2*ax.idxOf v+1 else 2*ls.length+2*((ax.idxOf v+ax.length-1)%ax.length)
theorem pX(hr:kr ls=true){i:Nat}{l:Let}(hl:ls[i]?=some l)(hc:l.aB=true):fh ls (fh ls i)=i/\ ∃m,ls[fh ls i]?=some m/\m.aB=true/\m.id=l.id/\m.over= !l.over/\m.sign=l.sign:=by
 obtain⟨h1,h2⟩:=Oi hr hl hc;obtain⟨_,h3⟩:=Fp h1;obtain⟨m,hm,mc,mi,mo⟩:=yX h3;have hp:Fb ls:=by have:=hr;unfold kr at this;simp only[cE,dk,ij,fJ] at this;exact(Fu.1 this.1.2).2
 have aM:i≠fh ls i:=by intro e;rw[<- e,hl] at hm;cases hm;revert mo;cases l.over<;>simp
 obtain⟨h4,h5⟩:=Oi hr hm mc;obtain⟨_,h6⟩:=Fp h4;obtain⟨x,hx,xc,xi,xo⟩:=yX h6;refine⟨?_,m,hm,mc,mi,mo,((hp i _ l m hl hm hc mc mi.symm aM).2).symm⟩;refine Decidable.byContradiction fun hn=>?_;have:=(hp _ i x l hx hl xc hc (by rw[xi,mi]) hn).1;rw[xo,mo] at this;revert this;cases l.over<;>simp
theorem afa{ax:List Nat}{d:Nat}{fw:Bool}{l:Let}(h:¬2*ls.length<=d)(wh:(d%2==0)=fw)(hv:v=if fw then (d/2+1)%ls.length else d/2)(hl:ls[v]?=some l):
  fN ls ax d=if l.kind==2 then dw ls.length (fh ls v) (fw==(l.over==(l.sign==1)))
   else if dn ls v==fw then 2*ls.length+2*ax.idxOf v else 2*ls.length+2*((ax.idxOf v+ax.length-1)%ax.length)+1:=by
 subst wh;subst hv;unfold fN;rw[aD h];simp only[hl]
theorem adU(ok:dU F ls){d:Nat}(hd:d<2*ls.length+2*(aC ls).length):HU ls (aC ls) (fN ls (aC ls) d)=d:=by
 have iT:∀x∈aC ls,x<ls.length/\ ∃l,ls[x]?=some l/\l.aG=true:=fun x hx=>by obtain⟨l,h1,h2⟩:=qR.1 hx;exact⟨(aY.1 h1).1,l,h1,h2⟩
 have TG:∀ {p v:Nat},(aC ls)[p]?=some v->(aC ls).idxOf v=p:=fun {p v} hp=>by obtain⟨l,hl,Bc,he⟩:=Aj ok.ax hp;rw[Ja ok.ax hl Bc,he]
 have along_small:∀ {v:Nat} (g:Bool),v<ls.length-> ¬2*ls.length<=dw ls.length v g:=fun {v} g hv=>by have:=FY (n:=ls.length) (fw:=g) hv;omega
 have notC:∀ {l:Let},l.aG=true->(l.kind==2)=false:=fun {l} h=>oN h;have fromAxis:∀ {p v:Nat} (g:Bool),(aC ls)[p]?=some v->HU ls (aC ls) (dw ls.length v g)=if g==dn ls v then 2*ls.length+2*p+1 else 2*ls.length+2*((p+(aC ls).length-1)%(aC ls).length):=by intro p v g hp;obtain⟨hv,l,hl,Bc⟩:=iT v (aW hp);obtain⟨e1,e2⟩:=acN hv g;unfold HU;rw[aD (along_small g hv)];simp only[e1,e2,hl,notC Bc,TG hp];rfl
 by_cases h:2*ls.length<=d
 .unfold fN;rw[aE h];have hm:=dK ((d-2*ls.length)/2+1) (show 0<(aC ls).length by omega);by_cases h2:d%2=0
  .rw[aE h2];obtain⟨v,hv⟩:=aN hm;have oG:(aC ls).getD (((d-2*ls.length)/2+1)%(aC ls).length) 0=v:=by rw[cU,hv];rfl
   rw[oG,fromAxis _ hv];have hb:((!dn ls v)==dn ls v)=false:=by cases dn ls v<;>rfl
   rw[hb,Dc (show(d-2*ls.length)/2<(aC ls).length by omega)];simp only[eH,if_false];omega
  rw[aD h2];obtain⟨v,hv⟩:=aN (ls:=aC ls) (k:=(d-2*ls.length)/2) aa;have oG:(aC ls).getD ((d-2*ls.length)/2) 0=v:=by rw[cU,hv];rfl
  rw[oG,fromAxis _ hv];simp only[Mj,if_true];omega
 have hn:0<ls.length:=aa;have pN:=dK (d/2+1) hn;have key:∀(v:Nat) (fw:Bool),v<ls.length->(d%2==0)=fw->v=(if fw then (d/2+1)%ls.length else d/2)->ir ls.length v fw=d:=by
  intro v fw hv wh eK;unfold ir;cases fw with
  |true=>
   have wh:d%2=0:=by simpa using wh
   simp only[if_true] at eK ⊢;rw[eK,Dc (show d/2<ls.length by omega)];omega
  |false=>
   have wh:d%2≠0:=by simpa using wh
   simp only[eH,if_false] at eK ⊢;omega
 generalize hv:(if (d%2==0)=true then (d/2+1)%ls.length else d/2)=v;generalize wh:(d%2==0)=fw at hv;have qF:v<ls.length:=by rw[<- hv];split<;>omega
 have Cy:=key v fw qF wh hv.symm;obtain⟨l,hl⟩:=aN qF;rw[afa h wh hv.symm hl];cases hk:(l.kind==2) with
 |true=>
  have hc:l.aB=true:=hk;obtain⟨hb,m,hm,mc,mi,mo,ms⟩:=pX ok.cr hl hc;have KL:=(Oi ok.cr hl hc).2;rw[aE rfl];obtain⟨e1,e2⟩:=acN KL (fw==(l.over==(l.sign==1)));unfold HU;rw[aD (along_small _ KL)];have mk:(m.kind==2)=true:=mc;simp only[e1,e2,hm,mk,if_true,hb,hl];have sU:((fw==(l.over==(l.sign==1)))==(l.over==(l.sign==1)))=fw:=by cases fw<;>cases (l.over==(l.sign==1))<;>rfl
  rw[sU];exact Cy
 |false=>
  have hp:=ok.NU hl hk;have KA:=Ja ok.ax hl hp;have bG:=Qg ok.ax hl hp;have hpT:=(aY.1 bG).1;rw[aD af,KA];cases hq:(dn ls v==fw) with
  |true=>
   simp only[if_true];unfold HU;rw[aE aa,aE aa];have e1:(2*ls.length+2*dE ls l-2*ls.length)/2=dE ls l:=aa;have e2:(aC ls).getD (dE ls l) 0=v:=by rw[cU,bG];rfl
   rw[e1,e2,show dn ls v=fw by simpa using hq];exact Cy
  |false=>
   have u9:=dK (dE ls l+(aC ls).length-1) (show 0<(aC ls).length by omega);simp only[eH,if_false];unfold HU;rw[aE aa,aD aa];have e1:(2*ls.length+2*((dE ls l+(aC ls).length-1)%(aC ls).length)+1-2*ls.length)/2=(dE ls l+(aC ls).length-1)%(aC ls).length:=aa;have e2:(aC ls).getD (dE ls l) 0=v:=by rw[cU,bG];rfl
   rw[e1,vn hpT,e2,show(!dn ls v)=fw by revert hq;cases dn ls v<;>cases fw<;>simp];exact Cy
theorem aru(ok:dU F ls){d e:Nat}(hd:d<2*ls.length+2*(aC ls).length)(he:e<2*ls.length+2*(aC ls).length)(h:aV ls d=aV ls e):d=e:=by have h1:=adU ok hd;have h2:=adU ok he;rw[<- h1,<- h2];exact congrArg _ h
def HW(next:Nat->Nat)(n2:Nat):Nat->Nat->List Bool->List Nat×List Bool
 |0,_,sp=>([],sp)
 |k+1,x,sp=>if x<n2 then
   if sp.getD x true then ([],sp) else (x::(HW next n2 k (next x) (sp.set x true)).1,(HW next n2 k (next x) (sp.set x true)).2)
  else (x::(HW next n2 k (next x) sp).1,(HW next n2 k (next x) sp).2)
abbrev sn(S:List Bool)(x:Nat):Bool:=S.getD x true
theorem LI{S:List Bool}{y:Nat}(hx:x<S.length):sn (S.set x true) y=if y=x then true else sn S y:=by
 unfold sn;rw[cU,cU,nW];by_cases h:x=y
 .subst h;simp[hx]
 rw[aD h,aD (fun e=>h e.symm)]
structure xg (next:Nat->Nat) (n2 N:Nat):Prop where
 le:n2<=N
 lt:∀x,x<N->next x<N
 inj:∀x y,x<N->y<N->next x=next y->x=y
 ax:∀x,x<N->n2<=x->next x<n2
def IY(next:Nat->Nat)(N:Nat)(S:List Bool):Prop:=∀y,y<N->sn S y=sn S (next y)
structure Inv (next:Nat->Nat) (N d:Nat) (S:List Bool) (x:Nat):Prop where
 i1:∀y,y<N->sn S (next y)=true->sn S y=true\/next y=d
 i2:∀y,y<N->sn S y=true->sn S (next y)=true\/next y=x
 i4:sn S x=true->x=d
 pr:(x=d/\sn S x=false)\/ ∃p,p<N/\next p=x/\sn S p=true
theorem Inv.start{next:Nat->Nat}{N d:Nat}{S:List Bool}(h:IY next N S)(hd:sn S d=false):Inv next N d S d:=
 ⟨fun y hy hs=>.inl (by rw[h y hy];exact hs),fun y hy hs=>.inl (by rw[<- h y hy];exact hs),fun _=>rfl,.inl ⟨rfl,hd⟩⟩
theorem Inv.stop{next:Nat->Nat}{N d:Nat}{S:List Bool}(m:xg next n2 N)(h:Inv next N d S x)(hx:sn S x=true):IY next N S:=by
 have hxd:=h.i4 hx;subst hxd;intro y hy;cases h1:sn S y with
 |true=>
  rcases h.i2 y hy h1 with h2|h2
  .rw[h2]
  rw[h2,hx]
 |false=>
  cases h2:sn S (next y) with
  |false=>rfl
  |true=>
   rcases h.i1 y hy h2 with h3|h3
   .rw[h3] at h1;cases h1
   rcases h.pr with ⟨_,h4⟩|⟨p,hp,iJ,dj⟩
   .rw[hx] at h4;cases h4
   have:=m.inj y p hy hp (by rw[h3,iJ]);rw[this,dj] at h1;cases h1
theorem Inv.step{next:Nat->Nat}{N d:Nat}{S:List Bool}(m:xg next n2 N)(hl:S.length=N)(zj:x<N)(h:Inv next N d S x)(hx:sn S x=false):Inv next N d (S.set x true) (next x):=by
 have yj:x<S.length:=aa;refine⟨fun y hy hs=>?_,fun y hy hs=>?_,fun hs=>?_,.inr ⟨x,zj,rfl,by rw[LI yj,aE rfl]⟩⟩
 .rw[LI yj] at hs ⊢;by_cases e:next y=x
  .rcases h.pr with ⟨h1,_⟩|⟨p,hp,iJ,dj⟩
   .exact .inr (by rw[e,h1])
   have:=m.inj y p hy hp (by rw[e,iJ]);left;rw[this];split
   .rfl
   exact dj
  rw[aD e] at hs;rcases h.i1 y hy hs with h2|h2
  .left;split
   .rfl
   exact h2
  exact .inr h2
 .rw[LI yj] at hs ⊢;by_cases e:y=x
  .subst e;exact .inr rfl
  rw[aD e] at hs;rcases h.i2 y hy hs with h2|h2
  .left;split
   .rfl
   exact h2
  left;rw[aE h2]
 rw[LI yj] at hs;by_cases e:next x=x
 .rcases h.pr with ⟨h1,_⟩|⟨p,hp,iJ,dj⟩
  .rw[e,h1]
  have:=m.inj p x hp zj (by rw[iJ,e]);rw[this,hx] at dj;cases dj
 rw[aD e] at hs;rcases h.i1 x zj hs with h2|h2
 .rw[hx] at h2;cases h2
 exact h2
theorem Vz{S:List Bool}(hx:x<n2)(hl:n2<=S.length):(S.take n2).getD x true=sn S x:=by unfold sn;rw[cU,cU,jY,aE hx]
theorem ae3{S:List Bool}:(S.take n2).set x true=(S.set x true).take n2:=by rw[<- List.take_set]
theorem ae2{S:List Bool}(hx:n2<=x):(S.set x true).take n2=S.take n2:=by rw[List.take_set];exact afQ (by rw[iF];omega)
theorem arL{next:Nat->Nat}{N d:Nat}(m:xg next n2 N)(hd:d<n2):∀(fuel x:Nat) (S:List Bool),S.length=N->x<N->Inv next N d S x->wV S<fuel->
  IY next N (eD next fuel x S).2/\HW next n2 fuel x (S.take n2)=((eD next fuel x S).1,(eD next fuel x S).2.take n2):=by
 intro fuel
 induction fuel with
 |zero=>intro x S _ _ _ h;omega
 |succ fuel ih=>
  intro x S hl hx hi hu;have hle:=m.le;unfold eD HW;cases hs:S.getD x true with
  |true=>have hxd:=hi.i4 hs;have au:x<n2:=aa;rw[aE au,Vz au aa,show sn S x=true from hs];exact⟨hi.stop m hs,rfl⟩
  |false=>
   have Hm:S[x]?=some false:=by
    rw[cU] at hs;cases h1:S[x]? with
    |none=>rw[h1] at hs;cases hs
    |some b=>rw[h1] at hs;exact congrArg some hs
   have CQ:=LW Hm;obtain⟨c1,c2⟩:=ih (next x) (S.set x true) (by rw[rD,hl]) (m.lt x hx) (hi.step m hl hx hs) aa;simp only[eH,if_false];refine⟨c1,?_⟩;by_cases au:x<n2
   .rw[aE au,Vz au aa,show sn S x=false from hs];simp only[eH,if_false];rw[ae3,c2]
   rw[aD au];rw[ae2 aa] at c2;rw[c2]
theorem dU.iT(_:dU F ls):∀x∈aC ls,x<ls.length:=fun _ h=>Mx h
theorem dU.hp(ok:dU F ls):∀v l,ls[v]?=some l->(l.kind==2)=false->v∈aC ls:=fun _ l hv h2=>qR.2 ⟨l,hv,ok.NU hv h2⟩
abbrev nD(ls:List Let):Nat:=2*ls.length+2*(aC ls).length
theorem maps(ok:dU F ls):xg (aV ls) (2*ls.length) (nD ls):=by
 refine⟨by unfold nD;omega,fun x hx=>O8 ok.iT ok.hp hx,fun x y hx hy h=>aru ok hx hy h,fun x hx hn=>?_⟩;have hx:x<2*ls.length+2*(aC ls).length:=hx;have A8:∀k,k<(aC ls).length->(aC ls).getD k 0<ls.length:=fun k hk=>by obtain⟨v,hv⟩:=aN hk;rw[cU,hv];exact ok.iT v (aW hv)
 have hm:=dK ((x-2*ls.length)/2+1) (show 0<(aC ls).length by omega);show fN ls (aC ls) x<_;unfold fN;rw[aE hn];split
 .exact FY (A8 _ hm)
 exact FY (A8 _ aa)
theorem afn(next:Nat->Nat):∀(k x:Nat) (S:List Bool) (y:Nat),sn S y=true->sn (eD next k x S).2 y=true:=by
 intro k
 induction k with
 |zero=>intro x S y h;exact h
 |succ k ih=>
  intro x S y h;unfold eD;split
  .exact h
  refine ih _ _ _ ?_;unfold sn;rw[cU,nW];split
  .split<;>rfl
  rw[<- cU];exact h
theorem afl(next:Nat->Nat)(k x:Nat)(S:List Bool)(hk:wV S<k):sn (eD next k x S).2 x=true:=by
 cases k with
 |zero=>omega
 |succ k=>
  unfold eD;cases hs:S.getD x true with
  |true=>simpa using hs
  |false=>
   simp only[eH,if_false];refine afn _ _ _ _ _ ?_;unfold sn;rw[cU,nW];split
   .split<;>rfl
   rename_i h;exact absurd rfl h
section
variable {next:Nat->Nat} {n2 N:Nat}
theorem Vy(h:x<N):sn (List.replicate N false) x=false:=by unfold sn;rw[cU,List.getElem?_replicate,aE h];rfl
theorem Pd(m:xg next n2 N):∀k,k<=n2->IY next N (dt next N k).2/\ ∀x,x<k->sn (dt next N k).2 x=true:=by
 intro k
 induction k with
 |zero=>intro _;refine⟨fun y hy=>?_,fun x h=>absurd h (mv x)⟩;show sn (List.replicate N false) y=sn (List.replicate N false) (next y);rw[Vy hy,Vy (m.lt y hy)]
 |succ k ih=>
  intro hk;obtain⟨c,s⟩:=ih aa;have hlen:=Fq next N k;have hle:=m.le;rw[wW];unfold tq;cases hs:(dt next N k).2.getD k true with
  |true=>
   simp only[if_true];refine⟨c,fun x hx=>?_⟩;rcases kB.1 hx with h|rfl
   .exact s x h
   exact hs
  |false=>
   simp only[eH,if_false];have hul:=Ix (dt next N k).2;obtain⟨c1,_⟩:=arL m (show k<n2 by omega) ((dt next N k).2.length+1) k (dt next N k).2 hlen aa (Inv.start c hs) aa;refine⟨c1,fun x hx=>?_⟩;rcases kB.1 hx with h|rfl
   .exact afn _ _ _ _ _ (s x h)
   exact afl _ _ _ _ aa
theorem VW(m:xg next n2 N):∀k,n2<=k->k<=N->dt next N k=dt next N n2:=by
 intro k
 induction k with
 |zero=>intro h _;rw[show n2=0 by omega]
 |succ k ih=>
  intro h1 h2;by_cases e:n2=k+1
  .rw[e]
  rw[wW,ih aa aa];obtain⟨c,s⟩:=Pd m n2 (cA _);unfold tq;have:(dt next N n2).2.getD k true=true:=by have h3:=c k aa;have h4:=s (next k) (m.ax k aa aa);show sn (dt next N n2).2 k=true;rw[h3,h4]
  rw[this];rfl
end
theorem aho(f:Int)(ls:List Let)(e:Nat)(hl:ls.length<=1000000)(he:e<ls.length):aJ S 92 [cY f ls,vi e] (rb (!dn ls (e+1))):=by have pd:=Jv f ls (e+1) hl aa;have w1:=bQ (n:=e) aa;refine bc c92 ?_;simp only[go_sem,i92,w1,s81,cq pd]
theorem ao7(w:List Nat)(hw:w.length<=1000000):aJ S 118 [.one (.p (rq w))] (.one (aO 3 1 (nP w.reverse))):=by
 have w0:=ux (a:=w.length) aa;refine bc c118 ?_;simp only[go_sem,i118,w0];refine cS (fun k ak aj=>ak 0=.one (.p (rq w))/\ak 4=vi ((w.length:Int)-1-(k:Int))/\grown 7552320384 3 1 (nP (w.reverse.take k)) (ak 3) aj) 0 w.length (bn _) ?_ ?_
 .simp only[go_sem];refine⟨af,.inl ⟨af,rfl⟩⟩
 rintro k ak aj hk ⟨h0,h4,ho⟩
 by_cases au:k<w.length
 .have e1:((w.length:Int)-1-(k:Int))=((w.length-1-k:Nat):Int):=aa;rw[e1] at h4;have j6:(0:Int)<=((w.length-1-k:Nat):Int):=aa;obtain⟨v,hv⟩:=aN (show w.length-1-k<w.length by omega);have pO:=ia hv;have w1:IntKind.i64.wrap (((w.length-1-k:Nat):Int)-1)=((w.length:Int)-1-((k+1:Nat):Int)):=by
   rw[ux aa];omega
  have zh:w.reverse[k]?=some v:=by rw[afH au];exact hv
  have fS:nP (w.reverse.take (k+1))=nP (w.reverse.take k)++[[.int .i64 (v:Int)]]:=by rw[iw,zh];simp
  have sY:(nP (w.reverse.take k)).length=k:=by simp;omega
  rcases ho with ⟨e,h3⟩|⟨aM,g,h3,hC⟩
  .rw[e] at fS sY;have sW:k=0:=by simpa using sY.symm
   simp only[go_sem,i118_l1,h0,h3,h4,j6,pO,w1,au,eO,eC];refine .inr ⟨by rw[fS];simp,(aj 7552320384).1+1,?_,?_⟩
   .rw[fS];rfl
   simp only[aS,if_true];rw[fS];rfl
  rw[sY] at h3;have ht:List.take k (nP (w.reverse.take k))=nP (w.reverse.take k):=eY aa;have hr:(k+1)*8<=140737488355328:=aa;have u7:k<=(nP (w.reverse.take k)).length:=aa;generalize nP (w.reverse.take k)=es at fS sY hC ht u7;simp only[go_sem,i118_l1,h0,h3,h4,j6,pO,w1,au,hC,ht,hr,u7,eO,eC];refine .inr ⟨by rw[fS];simp,g+1,?_,?_⟩
  .rw[fS];simp[sY]
  simp only[aS,if_true];rw[fS]
 have:k=w.length:=aa;subst this;have j6:¬(0:Int)<=((w.length:Int)-1-(w.length:Int)):=aa;have ht:w.reverse.take w.length=w.reverse:=eY af;rw[ht] at ho;rcases ho with ⟨e,h3⟩|⟨aM,g,h3,hC⟩
 .simp only[go_sem,i118_l1,i118_r2,h3,h4,j6];rw[aO,aE e]
 simp only[go_sem,i118_l1,i118_r2,h3,h4,j6];rw[aO,aD aM];exact Fa hC af
abbrev dD(o:List (Nat×Nat)):List (List PV):=o.map fun p=>[PV.int .i64 (p.1:Int),PV.int .i64 (p.2:Int)]
theorem anW{o:List (Nat×Nat)}{k:Nat}{p:Nat×Nat}(h:o[k]?=some p):(dD o)[k]?=some [.int .i64 (p.1:Int),.int .i64 (p.2:Int)]:=by simp[h]
theorem arx(w:List (Nat×Nat))(hw:w.length<=1000000):aJ S 117 [.one (.p (.sl (dD w)))] (.one (aO 152 2 (dD w.reverse))):=by
 have w0:=ux (a:=w.length) aa;refine bc c117 ?_;simp only[go_sem,i117,w0];refine cS (fun k ak aj=>ak 0=.one (.p (.sl (dD w)))/\ak 4=vi ((w.length:Int)-1-(k:Int))/\grown 7488320384 152 2 (dD (w.reverse.take k)) (ak 3) aj) 0 w.length (bn _) ?_ ?_
 .simp only[go_sem];refine⟨af,.inl ⟨af,rfl⟩⟩
 rintro k ak aj hk ⟨h0,h4,ho⟩
 by_cases au:k<w.length
 .have e1:((w.length:Int)-1-(k:Int))=((w.length-1-k:Nat):Int):=aa;rw[e1] at h4;have j6:(0:Int)<=((w.length-1-k:Nat):Int):=aa;obtain⟨v,hv⟩:=aN (show w.length-1-k<w.length by omega);have pO:=anW hv;have w1:IntKind.i64.wrap (((w.length-1-k:Nat):Int)-1)=((w.length:Int)-1-((k+1:Nat):Int)):=by
   rw[ux aa];omega
  have zh:w.reverse[k]?=some v:=by rw[afH au];exact hv
  have fS:dD (w.reverse.take (k+1))=dD (w.reverse.take k)++[[.int .i64 (v.1:Int),.int .i64 (v.2:Int)]]:=by rw[iw,zh];simp
  have sY:(dD (w.reverse.take k)).length=k:=by simp;omega
  rcases ho with ⟨e,h3⟩|⟨aM,g,h3,hC⟩
  .rw[e] at fS sY;have sW:k=0:=by simpa using sY.symm
   simp only[go_sem,i117_l1,h0,h3,h4,j6,pO,w1,au,eO,eC];refine .inr ⟨by rw[fS];simp,(aj 7488320384).1+1,?_,?_⟩
   .rw[fS];rfl
   simp only[aS,if_true];rw[fS];rfl
  rw[sY] at h3;have ht:List.take k (dD (w.reverse.take k))=dD (w.reverse.take k):=eY aa;have hr:(k+1)*16<=140737488355328:=aa;have u7:k<=(dD (w.reverse.take k)).length:=aa;generalize dD (w.reverse.take k)=es at fS sY hC ht u7;simp only[go_sem,i117_l1,h0,h3,h4,j6,pO,w1,au,hC,ht,hr,u7,eO,eC];refine .inr ⟨by rw[fS];simp,g+1,?_,?_⟩
  .rw[fS];simp[sY]
  simp only[aS,if_true];rw[fS]
 have:k=w.length:=aa;subst this;have j6:¬(0:Int)<=((w.length:Int)-1-(w.length:Int)):=aa;have ht:w.reverse.take w.length=w.reverse:=eY af;rw[ht] at ho;rcases ho with ⟨e,h3⟩|⟨aM,g,h3,hC⟩
 .simp only[go_sem,i117_l1,i117_r2,h3,h4,j6];rw[aO,aE e]
 simp only[go_sem,i117_l1,i117_r2,h3,h4,j6];rw[aO,aD aM];exact Fa hC af
def lM(g r to:Nat):List (Nat×Nat):=(g,r)::(List.range (to-g)).map fun i=>(g+1+i,0)
def qf(g to:Nat):List Nat:=(List.range (to-g)).map fun i=>g+1+i
def jW(g r k:Nat):List (Nat×Nat):=(g,r)::(List.range k).map fun i=>(g+1+i,0)
def oX(g k:Nat):List Nat:=(List.range k).map fun i=>g+1+i
theorem aqF(g r k:Nat):dD (jW g r (k+1))=dD (jW g r k)++[[.int .i64 ((g+1+k:Nat):Int),.int .i64 0]]:=by simp[jW,rH]
theorem aqE(g k:Nat):nP (oX g (k+1))=nP (oX g k)++[[.int .i64 ((g+1+k:Nat):Int)]]:=by simp[oX,rH]
def aqG(g r k:Nat)(v:V)(aj:aA):Prop:=(k=0/\ ∃e,v=.one (.hsl 9152064192 e 2 0 1)/\aj 9152064192=(e,some (.arr 152 2 (dD (jW g r 0)))))\/
 (k≠0/\ ∃e,v=.one (.hsl 9152384256 e 2 0 (k+1))/\aj 9152384256=(e,some (.arr 152 2 (dD (jW g r k)))))
theorem aqH(g r to:Nat)(hg:g<=1000)(hr:r<=1000000)(ht:to<=1000):aJ S 143 [vi g,vi r,vi to] (.tup [.one (.own 152 2 (dD (lM g r to))),.one (aO 3 1 (nP (qf g to)))]):=by
 have w0:=bQ (n:=g) aa;refine bc c143 ?_;simp only[go_sem,i143,w0];refine cS (fun k ak aj=>ak 2=vi to/\ak 10=vi ((g+1+k:Nat):Int)/\aqG g r k (ak 8) aj/\grown 9152448192 3 1 (nP (oX g k)) (ak 9) aj) 0 (to-g) (bn _) ?_ ?_
 .simp only[go_sem];exact⟨.inl ⟨rfl,1,rfl,rfl⟩,.inl ⟨rfl,rfl⟩⟩
 rintro k ak aj hk ⟨h2,dC,hs,ho⟩
 by_cases au:k<to-g
 .have hle:((g+1+k:Nat):Int)<=(to:Int):=aa;have w1:=bQ (n:=g+1+k) aa;have hp:=aqF g r k;have hf:=aqE g k;rcases hs with ⟨rfl,e,h8,hA⟩|⟨sW,e,h8,hA⟩
  .rcases ho with ⟨_,h9⟩|⟨aM,_⟩
   .have u7:(dD (jW g r 0)).length=1:=by simp[jW]
    have t1:List.take 1 (dD (jW g r 0))=dD (jW g r 0):=eY aa;have n1:1<=(dD (jW g r 0)).length:=aa;generalize dD (jW g r 0)=ps at hp hA t1 n1;simp only[go_sem,i143_l1,h2,h8,h9,dC,hA,hle,w1,au,t1,n1,eO,eC];refine⟨.inr ⟨aa,(aj 9152384256).1+1,rfl,?_⟩,.inr ⟨by simp[oX],(aj 9152448192).1+1,?_,?_⟩⟩
    .simp only[aS,if_true,reduceIte,Nat.reduceEqDiff];rw[hp]
    .rfl
    simp only[aS,if_true];rfl
   exact absurd rfl aM
  rcases ho with ⟨h0,_⟩|⟨aM,e2,h9,hB⟩
  .exact absurd h0 (by simp[oX];omega)
  have mJ:(nP (oX g k)).length=k:=by simp[oX]
  have u7:(dD (jW g r k)).length=k+1:=by simp[jW]
  rw[mJ] at h9;have t1:List.take (k+1) (dD (jW g r k))=dD (jW g r k):=eY aa;have t2:List.take k (nP (oX g k))=nP (oX g k):=eY aa;have r1:(k+1+1)*16<=140737488355328:=aa;have r2:(k+1)*8<=140737488355328:=aa;have n1:k+1<=(dD (jW g r k)).length:=aa;have n2:k<=(nP (oX g k)).length:=aa;generalize dD (jW g r k)=ps at hp hA t1 n1;generalize nP (oX g k)=fs at hf hB t2 n2 mJ aM;simp only[go_sem,i143_l1,h2,h8,h9,dC,hA,hB,hle,w1,au,t1,t2,r1,r2,n1,n2,eO,eC];refine⟨rfl,.inr ⟨aa,e+1,rfl,?_⟩,.inr ⟨by rw[hf];simp,e2+1,?_,?_⟩⟩
  .simp only[aS,if_true,reduceIte,Nat.reduceEqDiff];rw[hp]
  .rw[hf];simp[mJ]
  simp only[aS,if_true];rw[hf]
 have:k=to-g:=aa;subst this;have hle:¬((g+1+(to-g):Nat):Int)<=(to:Int):=aa;have e1:lM g r to=jW g r (to-g):=rfl;have e2:qf g to=oX g (to-g):=rfl;rw[e1,e2];generalize hK:to-g=K at hs ho;have u7:(dD (jW g r K)).length=K+1:=by simp[jW]
 have mJ:(nP (oX g K)).length=K:=by simp[oX]
 rw[hK] at hle dC;rcases hs with ⟨rfl,e,h8,hA⟩|⟨sW,e,h8,hA⟩
 .rcases ho with ⟨hz,h9⟩|⟨aM,_⟩
  .have t1:List.take 1 (dD (jW g r 0))=dD (jW g r 0):=eY aa;have n1:1<=(dD (jW g r 0)).length:=aa;rw[aO,aE hz];generalize dD (jW g r 0)=ps at hA t1 n1;simp only[go_sem,i143_l1,i143_r2,h2,h8,h9,dC,hle];simp only[go_sem,fv,ll,qU,jx,iY,fm,hA,t1,n1];rfl
  exact absurd rfl aM
 rcases ho with ⟨h0,_⟩|⟨aM,e3,h9,hB⟩
 .exact absurd h0 (by simp[oX];omega)
 rw[mJ] at h9;have t1:List.take (K+1) (dD (jW g r K))=dD (jW g r K):=eY aa;have t2:List.take K (nP (oX g K))=nP (oX g K):=eY aa;have n1:K+1<=(dD (jW g r K)).length:=aa;have n2:K<=(nP (oX g K)).length:=aa;rw[aO,aD aM];generalize dD (jW g r K)=ps at hA t1 n1;generalize nP (oX g K)=fs at hB t2 n2;simp only[go_sem,i143_l1,i143_r2,h2,h8,h9,dC,hle];simp only[go_sem,fv,ll,qU,jx,iY,fm,hA,hB,t1,t2,n1,n2];rfl
abbrev um:Nat:=152
def gN (ls:List Let)(i:Nat):Nat:=match ls[i]? with|some l=>l.gate.toNat|none=>0
def rN (ls:List Let)(i:Nat):Nat:=match ls[i]? with|some l=>l.aw.toNat|none=>0
theorem AP{i:Nat}{l:Let}(h:ls[i]?=some l):gN ls i=l.gate.toNat:=by simp[gN,h]
theorem ad3{i:Nat}{l:Let}(h:ls[i]?=some l):rN ls i=l.aw.toNat:=by simp[rN,h]
def pY(F:Nat)(ls:List Let)(j:Nat):List (Nat×Nat):=
 let u:=(aC ls).getD j 0
 let v:=(aC ls).getD ((j+1)%(aC ls).length) 0
 if j+1<(aC ls).length then lM (gN ls u) (rN ls u) (gN ls v) else lM (gN ls u) (rN ls u) F++lM 0 0 (gN ls v)
def wP(F:Nat)(ls:List Let)(j:Nat):List Nat:=
 let u:=(aC ls).getD j 0
 let v:=(aC ls).getD ((j+1)%(aC ls).length) 0
 if j+1<(aC ls).length then qf (gN ls u) (gN ls v) else qf (gN ls u) F++qf 0 (gN ls v)
theorem yu(a b:List (Nat×Nat)):dD (a++b)=dD a++dD b:=af
theorem wM(a b:List Nat):nP (a++b)=nP a++nP b:=af
theorem yz(g r to:Nat):(lM g r to).length=to-g+1:=by simp[lM]
theorem LK(g to:Nat):(qf g to).length=to-g:=by simp[qf]
theorem VF(g r to:Nat)(hg:g<=1000)(hr:r<=1000000)(ht:to<=1000):aJ S 143 [vi g,vi r,vi to] (.tup [.one (aO um 2 (dD (lM g r to))),.one (aO 3 1 (nP (qf g to)))]):=by have h:=aqH g r to hg hr ht;have e:aO um 2 (dD (lM g r to))=.own um 2 (dD (lM g r to)):=aD (by simp[lM]);rw[e];exact h
theorem My(ok:dU F ls)(hj:j<(aC ls).length):∃u l,(aC ls)[j]?=some u/\(aC ls).getD j 0=u/\ls[u]?=some l/\l.aG=true/\rW F ls l:=by obtain⟨u,hu⟩:=aN hj;obtain⟨l,h1,h2⟩:=qR.1 (aW hu);exact⟨u,l,hu,by rw[cU,hu];rfl,h1,h2,ok.ax.eJ l (aW h1) h2⟩
theorem anP(ok:dU F ls)(hF:F<=1000)(hj:j<(aC ls).length):
  aJ S 116 [cY F ls,.one (.p (rq (aC ls))),vi j] (.tup [.one (aO um 2 (dD (pY F ls j))),.one (aO 3 1 (nP (wP F ls j)))]):=by
 have hl:=ok.hl;have fO:(aC ls).length<=1000000:=lf (qQ ls ls.length) hl;have hm:=dK (j+1) (show 0<(aC ls).length by omega);obtain⟨u,p,hu,du,hp,pp,gp⟩:=My ok hj;obtain⟨v,q,hv,dv,hq,pq,gq⟩:=My ok hm;unfold pY wP;simp only[du,dv,AP hp,AP hq,ad3 hp];have fg:=gE hp;have ze:=gE hq;have ye:=ia hu;have pO:=ia hv;have e1:=qK (j+1) (aC ls).length;have w1:=bQ (n:=j) aa;have w2:=DB (a:=(aC ls).length) aa aa;have pN:¬(((aC ls).length:Int)=0):=aa
 have hg0:=gp.g0;have A6:=gp.g1;have sW:=gq.g0;have cH:=gq.g1;have CN:=gp.r0;have jT:=gp.r1;have Kh:cg ls p.gate.toNat<=ls.length:=qt _ _;obtain⟨pg,h1⟩:=tu (show 0<=p.gate by omega);obtain⟨pr,h2⟩:=tu (show 0<=p.aw by omega);obtain⟨qg,h3⟩:=tu (show 0<=q.gate by omega);rw[h1] at A6 jT Kh hg0;rw[h2] at jT CN;rw[h3] at sW cH;rw[h1,h2,h3];simp only[wX] at jT Kh ⊢;refine bc c116 ?_;have nI:S.lone 7424192384=false:=ah;have wK:S.lone 7424256384=false:=ah;have Lb:S.lone 7424320128=false:=ah;by_cases au:j+1<(aC ls).length
 .have aL:(j:Int)<(((aC ls).length-1:Nat):Int):=aa;have ps:=VF pg pr qg aa aa aa;simp only[aE au];simp only[go_sem,i116,ye,pO,fg,ze,Let.ps,w1,e1,w2,aL,pN,h1,h2,h3,s143];refine⟨aH,?_⟩;refine GB ps nI fun c e ao hc he hb=>?_;simp only[go_sem];exact GF ae hc he
 have aL:¬(j:Int)<(((aC ls).length-1:Nat):Int):=aa;have ps:=VF pg pr F aa aa aa;have ps':=VF 0 0 qg aa aa aa;have e0:((0:Nat):Int)=0:=rfl;rw[e0] at ps';simp only[aD au];simp only[go_sem,i116,ye,pO,fg,ze,Let.ps,w1,e1,w2,aL,pN,h1,h2,h3,s143];refine⟨aH,?_⟩;refine GB ps wK fun c e bt hc he cQ=>?_;simp only[go_sem,cQ];refine GB ps' Lb fun c2 e2 bd jO v7 aZ=>?_;simp only[go_sem];obtain⟨r1,pS,_⟩:=jO.elems;refine mE (hc.of_eq (aZ _ ae ae)) pS jO.eC (by simp only[cG,yz];omega) fun c3 iQ uY iU=>?_;simp only[go_sem];obtain⟨r2,tc,_⟩:=(v7.of_eq (iU _ ae ae)).elems;refine mE (he.of_eq ((iU _ ae ae).trans (aZ _ ae ae))) tc v7.eC (by simp only[cG,LK];omega) fun c4 xt hc4 eo=>?_
 simp only[go_sem];rw[yu,wM];exact GF ae (uY.of_eq (eo _ ae ae)) hc4
structure Fc where
 eI:Bool
 bj:List Nat
 places:List (Nat×Nat)
 rS:List Nat
 outer:Bool
def Fc.ps(f:Fc):List PV:=[.bool f.eI,.sl (nP f.bj),.sl (dD f.places),.sl (nP f.rS),.bool f.outer]
def Fc.add(F:Nat)(ls:List Let)(f:Fc)(x:Nat):Fc:=
 if x<2*ls.length then {f with bj:=f.bj++[x]}
 else {f with places:=f.places++(if x%2=0 then pY F ls ((x-2*ls.length)/2) else (pY F ls ((x-2*ls.length)/2)).reverse),rS:=f.rS++(if x%2=0 then wP F ls ((x-2*ls.length)/2) else (wP F ls ((x-2*ls.length)/2)).reverse),outer:=f.outer||decide ((x-2*ls.length)/2+1=(aC ls).length)}
def Fc.new(ls:List Let)(d:Nat):Fc:=⟨dn ls (d/2+1),[],[],[],false⟩
def vK(F:Nat)(ls:List Let)(w:List Nat)(k:Nat):Fc:=(w.take k).foldl (Fc.add F ls) (Fc.new ls (w.headD 0))
def iH(F:Nat)(ls:List Let)(w:List Nat):Fc:=w.foldl (Fc.add F ls) (Fc.new ls (w.headD 0))
def de(F:Nat)(ls:List Let):List Fc:=(dR (aV ls) (nD ls)).map (iH F ls)
theorem ajk(F:Nat)(ls:List Let)(w:List Nat):vK F ls w w.length=iH F ls w:=by unfold vK iH;rw[jf]
theorem ZF{w:List Nat}{k:Nat}(h:w[k]?=some x):vK F ls w (k+1)=(vK F ls w k).add F ls x:=by unfold vK;rw[iw,h,Mb];rfl
theorem Ni(ok:dU F ls)(hj:j<(aC ls).length):gN ls ((aC ls).getD j 0)<=F:=by obtain⟨u,l,_,du,hl,_,hg⟩:=My ok hj;rw[du,AP hl];have:=hg.g1;have:=hg.g0;omega
theorem OA(ok:dU F ls)(hj:j<(aC ls).length):(pY F ls j).length<=2*F+2:=by have h1:=Ni ok hj;have h2:=Ni ok (dK (j+1) (show 0<(aC ls).length by omega));unfold pY;simp only;split<;>simp only[fH,yz]<;>omega
theorem Oz(ok:dU F ls)(hj:j<(aC ls).length):(wP F ls j).length<=2*F+2:=by have h1:=Ni ok hj;have h2:=Ni ok (dK (j+1) (show 0<(aC ls).length by omega));unfold wP;simp only;split<;>simp only[fH,LK]<;>omega
theorem ajl(ok:dU F ls){w:List Nat}(hw:∀x∈w,x<nD ls):∀k,k<=w.length->(vK F ls w k).bj.length<=k/\(vK F ls w k).places.length<=k*(2*F+2)/\(vK F ls w k).rS.length<=k*(2*F+2):=by
 intro k
 induction k with
 |zero=>intro _;exact⟨cA _,bn _,bn _⟩
 |succ k ih=>
  intro hk;obtain⟨x,hx⟩:=aN (show k<w.length by omega);obtain⟨i1,i2,i3⟩:=ih aa;have wD:=hw x (aW hx);rw[ZF hx,Nat.succ_mul];unfold Fc.add;by_cases h:x<2*ls.length
  .rw[aE h];simp only[fH,dp,eP];exact⟨aa,aa,aa⟩
  rw[aD h];have hj:(x-2*ls.length)/2<(aC ls).length:=by unfold nD at wD;omega
  have l1:=OA ok hj;have l2:=Oz ok hj;refine⟨by simp only;omega,?_,?_⟩
  .simp only[fH];split<;>(try rw[vA])<;>omega
  simp only[fH];split<;>(try rw[vA])<;>omega
theorem arH(next:Nat->Nat):∀(k x:Nat) (S:List Bool),∀y∈(eD next k x S).1,y<S.length:=by
 intro k
 induction k with
 |zero=>intro x S y h;simp[eD] at h
 |succ k ih=>
  intro x S y h;unfold eD at h;cases hs:S.getD x true with
  |true=>rw[hs] at h;simp at h
  |false=>
   rw[hs] at h;have hx:x<S.length:=by
    rcases Mh x S.length with h1|h1
    .exact h1
    rw[cU,nV h1] at hs;cases hs
   simp only[eH,if_false,dh] at h;rcases h with rfl|h
   .exact hx
   have:=ih _ _ y h
   simpa using this
theorem arI(next:Nat->Nat):∀(k x:Nat) (S:List Bool),(eD next k x S).1.length<=wV S:=by
 intro k
 induction k with
 |zero=>intro x S;simp[eD]
 |succ k ih=>
  intro x S;unfold eD;cases hs:S.getD x true with
  |true=>simp
  |false=>
   have Hm:S[x]?=some false:=by
    rw[cU] at hs;cases h1:S[x]? with
    |none=>rw[h1] at hs;cases hs
    |some b=>rw[h1] at hs;exact congrArg some hs
   have CQ:=LW Hm;have:=ih (next x) (S.set x true);simp only[eH,if_false,dp];omega
theorem afk(next:Nat->Nat){k:Nat}{S:List Bool}(h:S.getD x true=false):∃t,(eD next (k+1) x S).1=x::t:=by unfold eD;rw[h];exact⟨_,rfl⟩
theorem arM(next:Nat->Nat)(N:Nat):∀k,∀w∈(dt next N k).1,(∃d t,w=d::t/\d<k)/\w.length<=N/\ ∀y∈w,y<N:=by
 intro k
 induction k with
 |zero=>intro w h;simp[dt] at h
 |succ k ih=>
  intro w h;rw[wW] at h;unfold tq at h;have hlen:=Fq next N k;have old:w∈(dt next N k).1->(∃d t,w=d::t/\d<k+1)/\w.length<=N/\ ∀y∈w,y<N:=fun h=>by obtain⟨⟨d,t,h1,h2⟩,h3⟩:=ih w h;exact⟨⟨d,t,h1,aa⟩,h3⟩
  cases hs:(dt next N k).2.getD k true with
  |true=>simp only[hs,if_true] at h;exact old h
  |false=>
   simp only[hs,eH,if_false,fi,rF] at h;rcases h with h|rfl
   .exact old h
   obtain⟨t,ht⟩:=afk next (k:=(dt next N k).2.length) hs;refine⟨⟨k,t,ht,aa⟩,?_,fun y hy=>?_⟩
   .have h1:=arI next ((dt next N k).2.length+1) k (dt next N k).2;have h2:=Ix (dt next N k).2;omega
   have:=arH next _ _ _ y hy;omega
theorem IB(ok:dU F ls):∀w∈dR (aV ls) (nD ls),(∃d t,w=d::t/\d<2*ls.length)/\w.length<=nD ls/\ ∀y∈w,y<nD ls:=by intro w h;unfold dR at h;rw[VW (maps ok) (nD ls) (by unfold nD;omega) (cA _)] at h;exact arM (aV ls) (nD ls) _ w h
abbrev sR:Nat:=149
abbrev ID(o:List (List Nat)):List (List PV):=o.map fun w=>[rq w]
theorem arW{o:List (List Nat)}{k:Nat}{w:List Nat}(h:o[k]?=some w):(ID o)[k]?=some [rq w]:=by simp[h]
def gO:List Nat:=[5568000000,5568128064,5568192064,5568576512,5568896448,5569216192,5569280192,5569408192]
structure FB (F:Nat) (ls:List Let) (outs:List (List PV)) (gA gW gF:Nat) (f:Fc) (cd cp cf vo:C) (aj:aA):Prop where
 b0:aj 5568000000=(1,some (.var (n9 F ls)))
 bA:aj 5568128064=(gA,some (.arr 3 1 (nP (aC ls))))
 bW:aj 5568192064=(gW,some (.arr 86 1 (ID (dR (aV ls) (nD ls)))))
 bF:aj 5568576512=(gF,some (.var [.p (.bool f.eI),cd,cp,cf,.p (.bool f.outer)]))
 gd:grown 5568896448 3 1 (nP f.bj) (.one cd) aj
 gp:grown 5569216192 um 2 (dD f.places) (.one cp) aj
 gf:grown 5569280192 3 1 (nP f.rS) (.one cf) aj
 go:grown 5569408192 sR 5 outs (.one vo) aj
theorem ajo{F:Nat}{ls:List Let}(ok:dU F ls)(hF:F<=1000){w:List Nat}(hw:∀x∈w,x<nD ls)(kM:w.length<=nD ls){outs:List (List PV)}{gA gW gF i:Nat}{cd cp cf vo:C}{ak:Env}{aj:aA}{Q:dS}
  (e1:ak 1=.one (.ba 5568000000 1 0)) (e3:ak 3=.one vo) (e4:ak 4=.one (.hsl 5568128064 gA 1 0 (aC ls).length)) (e5:ak 5=.one (.hsl 5568192064 gW 1 0 (dR (aV ls) (nD ls)).length)) (e6:ak 6=vi ls.length) (e7:ak 7=vi i) (e8:ak 8=.one (.p (rq w))) (e9:ak 9=.one (.ba 5568576512 gF 0)) (DW:ak 10=vi 0)
  (hB:FB F ls outs gA gW gF (vK F ls w 0) cd cp cf vo aj)
  (hq:∀aI ao vH lX uJ,aI 1=ak 1->aI 3=ak 3->aI 4=ak 4->aI 5=ak 5->aI 6=ak 6->aI 7=ak 7->aI 9=ak 9->FB F ls outs gA gW gF (iH F ls w) vH lX uJ vo ao->Q .normal aI ao):
  W S .all (.loop i87_l1) (pF 2 Q) ak aj:=by
 have hl:=ok.hl;have fO:(aC ls).length<=1000000:=lf (qQ ls ls.length) hl;have eV:nD ls<=4000000:=by unfold nD;omega
 have m2:=qL (a:=ls.length) aa;refine cS (fun k aI ao=>aI 1=.one (.ba 5568000000 1 0)/\aI 3=.one vo/\aI 4=.one (.hsl 5568128064 gA 1 0 (aC ls).length)/\aI 5=.one (.hsl 5568192064 gW 1 0 (dR (aV ls) (nD ls)).length)/\aI 6=vi ls.length/\aI 7=vi i/\aI 8=.one (.p (rq w))/\aI 9=.one (.ba 5568576512 gF 0)/\aI 10=vi k/\
   ∃cd cp cf,FB F ls outs gA gW gF (vK F ls w k) cd cp cf vo ao) 0 w.length (bn _) ⟨e1,e3,e4,e5,e6,e7,e8,e9,DW,cd,cp,cf,hB⟩ ?_
 rintro k aI aj hk ⟨h1,h3,h4,h5,h6,h7,h8,h9,dC,cd,cp,cf,hB⟩
 by_cases au:k<w.length
 .have aL:((k:Int)<(w.length:Int)):=aa;obtain⟨x,hx⟩:=aN au;have wD:=hw x (aW hx);have wA:=ia hx;have w1:=bQ (n:=k) aa;obtain⟨l1,l2,l3⟩:=ajl ok hw k aa;have hs:=ZF (F:=F) (ls:=ls) hx;have aaE:k*(2*F+2)<=4000000*2002:=Nat.mul_le_mul aa aa;generalize vK F ls w k=f at hB hs l1 l2 l3;unfold Fc.add at hs;by_cases hd:x<2*ls.length
  .rw[aE hd] at hs;have xQ:((x:Int)<((2*ls.length:Nat):Int)):=aa;simp only[go_sem,i87_l1,h6,h8,h9,dC,hB.bF,aL,wA,m2,xQ];generalize hG:(aj 5568896384).1+1=g2;refine tJ (site:=5568896448) (id:=5568896448) (xs:=[[.int .i64 (x:Int)]]) (rd:=[5568896384]) (hB.gd.of_eq (by simp[aS])) (by simp[eN,aS]) (.inl rfl) (by simp only[cG,dp,eP];omega) fun c bt r u hc hb hr=>?_;have mF:∀i∈gO,i≠5568896448->bt i=aj i:=fun i hi hn=>by
    rw[hb i hn hn,aS,aD (Lg hi ae).symm.symm]
   have bF':=(mF 5568576512 (by simp[gO]) ae).trans hB.bF;simp only[go_sem,bF',h1,h3,h4,h5,h6,h7,h8,h9,dC,w1,au];refine⟨?_,c,cp,cf,?_⟩
   .rcases hr with ⟨rfl,rfl⟩|⟨rfl,rfl⟩|⟨rfl,rfl⟩<;>kernel_rfl
   rw[hs];refine⟨?_,?_,?_,?_,?_,?_,?_,?_⟩
   .simp only[aS,Nat.reduceEqDiff,if_false];exact(mF _ (by simp[gO]) ae).trans hB.b0
   .simp only[aS,Nat.reduceEqDiff,if_false];exact(mF _ (by simp[gO]) ae).trans hB.bA
   .simp only[aS,Nat.reduceEqDiff,if_false];exact(mF _ (by simp[gO]) ae).trans hB.bW
   .simp only[aS,if_true]
   .rw[wM];exact hc.of_eq (by simp[aS])
   .exact(hB.gp.of_eq (mF _ (by simp[gO]) ae)).of_eq (by simp[aS])
   .exact(hB.gf.of_eq (mF _ (by simp[gO]) ae)).of_eq (by simp[aS])
   exact(hB.go.of_eq (mF _ (by simp[gO]) ae)).of_eq (by simp[aS])
  rw[aD hd] at hs;have hj:(x-2*ls.length)/2<(aC ls).length:=by unfold nD at wD;omega
  have pp:=anP ok hF hj;have lP:=OA ok hj;have lF:=Oz ok hj;have xQ:¬((x:Int)<((2*ls.length:Nat):Int)):=aa;have ws:=Pj (a:=x) (b:=2*ls.length) aa aa;have wq:=wrap_small (n:=(x-2*ls.length)/2) aa;have w2:=DB (a:=(aC ls).length) aa aa;have t1:List.take (aC ls).length (nP (aC ls))=nP (aC ls):=eY af;have Eo:((((x-2*ls.length)/2:Nat):Int)==(((aC ls).length-1:Nat):Int))=decide ((x-2*ls.length)/2+1=(aC ls).length):=by
   by_cases h:(x-2*ls.length)/2+1=(aC ls).length
   .rw[BP h];simp;omega
   rw[DG h];simp;omega
  have nI:S.lone 5569024192=false:=ah;have wK:S.lone 5569152064=false:=ah;have Lb:S.lone 5569152192=false:=ah;have sc1:∀l:List (Nat×Nat),((dD l).all fun e=>e.all PV.scalar)=true:=fun l=>by simp[PV.scalar]
  have sc2:∀l:List Nat,((nP l).all fun e=>e.all PV.scalar)=true:=fun l=>by simp[PV.scalar]
  generalize pY F ls ((x-2*ls.length)/2)=PP at*;generalize wP F ls ((x-2*ls.length)/2)=FF at*;simp only[go_sem,i87_l1,h1,h4,h6,h8,dC,hB.b0,hB.bA,aL,wA,m2,xQ,ws,wq,dF,eL,t1,s116];refine ajX pp nI (sc1 _) (sc2 _) fun c e bt hc he hb=>?_;have aaC:∀i∈gO,bt i=aj i:=fun i hi=>hb i (Lg hi ae) (Lg hi ae);by_cases dA:x%2=0
  .have EA:((x:Int).tmod 2 !=0)=false:=by rw[ig,dA];rfl
   simp only[aE dA] at hs;have hP:=hc;have hE:=he;have AY:=aaC;have lE:=lF;have bFN:=(AY _ (by simp[gO])).trans hB.bF;simp only[go_sem,dF,EA,wA,bFN,h8,h9,dC];obtain⟨rP,EK,_⟩:=hP.elems;refine mE (site:=5569216192) (id:=5569216192) (bytes:=16) (hB.gp.of_eq (AY _ (by simp[gO]))) EK hP.eC (by simp only[cG];omega) fun c2 bd jO aZ=>?_
   have xr:=(aZ 5568576512 ae ae).trans bFN;simp only[go_sem,xr,h9];obtain⟨rE,EJ,_⟩:=(hE.of_eq (ao:=df bd 5568576512 (gF,some (.var [.p (.bool f.eI),cd,c2,cf,.p (.bool f.outer)]))) ((aT ae).trans (aZ _ ae ae))).elems;refine mE (site:=5569280192) (id:=5569280192) (bytes:=8) (hB.gf.of_eq ((aT ae).trans ((aZ _ ae ae).trans (AY _ (by simp[gO]))))) EJ hE.eC (by simp only[cG];omega) fun c3 iQ uY iU=>?_;have sL:=(iU 5568576512 ae ae).trans (rC (b:=bd) (a:=5568576512) (x:=(gF,some (.var [.p (.bool f.eI),cd,c2,cf,.p (.bool f.outer)]))));have dx:∀i∈gO,i≠5568576512->i≠5569216192->i≠5569280192->iQ i=aj i:=fun i hi n1 n2 n3=>(iU i n3 n3).trans ((aT n1).trans ((aZ i n2 n2).trans (AY i hi)))
   have eo:∀y y2:Nat×Option Ob,∀i,i≠5568576512->df (df iQ 5568576512 y) 5568576512 y2 i=iQ i:=fun y y2 i hi=>(aT hi).trans (aT hi);cases ho:f.outer with
   |true=>
    rw[ho] at sL;simp only[go_sem,sL,h1,h3,h4,h5,h6,h7,h8,h9,dC,w1,au];refine⟨cd,c2,c3,?_⟩;rw[hs];exact⟨(eo _ _ _ ae).trans ((dx _ (by simp[gO]) ae ae ae).trans hB.b0),(eo _ _ _ ae).trans ((dx _ (by simp[gO]) ae ae ae).trans hB.bA),(eo _ _ _ ae).trans ((dx _ (by simp[gO]) ae ae ae).trans hB.bW),(by rw[rC];simp[ho]),
     hB.gd.of_eq ((eo _ _ _ ae).trans (dx _ (by simp[gO]) ae ae ae)),(yu _ _▸jO).of_eq ((eo _ _ _ ae).trans ((iU _ ae ae).trans (aT ae))),(wM _ _▸uY).of_eq (eo _ _ _ ae),hB.go.of_eq ((eo _ _ _ ae).trans (dx _ (by simp[gO]) ae ae ae))⟩
   |false=>
    rw[ho] at sL;simp only[go_sem,sL,h1,h3,h4,h5,h6,h7,h8,h9,dC,w1,w2,au,Eo];refine⟨cd,c2,c3,?_⟩;rw[hs];exact⟨(eo _ _ _ ae).trans ((dx _ (by simp[gO]) ae ae ae).trans hB.b0),(eo _ _ _ ae).trans ((dx _ (by simp[gO]) ae ae ae).trans hB.bA),(eo _ _ _ ae).trans ((dx _ (by simp[gO]) ae ae ae).trans hB.bW),(by rw[rC];simp[ho]),
     hB.gd.of_eq ((eo _ _ _ ae).trans (dx _ (by simp[gO]) ae ae ae)),(yu _ _▸jO).of_eq ((eo _ _ _ ae).trans ((iU _ ae ae).trans (aT ae))),(wM _ _▸uY).of_eq (eo _ _ _ ae),hB.go.of_eq ((eo _ _ _ ae).trans (dx _ (by simp[gO]) ae ae ae))⟩
  have EA:((x:Int).tmod 2 !=0)=true:=by rw[ig,show x%2=1 by omega];rfl
  simp only[aD dA] at hs;obtain⟨r1,sn1,_⟩:=hc.fM;simp only[go_sem,dF,EA,wA,sn1,h8,dC,s117];refine pI (arx PP aa) wK (.inr (mY (sc1 _))) fun c1 bd gK aZ=>?_;have v7:=he.of_eq (aZ _ ae);obtain⟨r2,sn2,_⟩:=v7.fM;simp only[go_sem,sn2,s118];refine pI (ao7 FF aa) Lb (.inr (mY (sc2 _))) fun e1 iQ he1 iU=>?_;have AY:∀i∈gO,iQ i=aj i:=fun i hi=>(iU i (Lg hi ae)).trans ((aZ i (Lg hi ae)).trans (aaC i hi));have hP:=gK.of_eq (iU _ ae);have hE:=he1;have lE:FF.reverse.length<=2*F+2:=by rw[vA];exact lF
  have lP:PP.reverse.length<=2*F+2:=by rw[vA];exact lP
  have bFN:=(AY _ (by simp[gO])).trans hB.bF;simp only[go_sem,bFN,h9];obtain⟨rP,EK,_⟩:=hP.elems;refine mE (site:=5569216192) (id:=5569216192) (bytes:=16) (hB.gp.of_eq (AY _ (by simp[gO]))) EK hP.eC (by simp only[cG,vA];omega) fun c2 bd jO aZ=>?_;have xr:=(aZ 5568576512 ae ae).trans bFN;simp only[go_sem,xr,h9];obtain⟨rE,EJ,_⟩:=(hE.of_eq (ao:=df bd 5568576512 (gF,some (.var [.p (.bool f.eI),cd,c2,cf,.p (.bool f.outer)]))) ((aT ae).trans (aZ _ ae ae))).elems;refine mE (site:=5569280192) (id:=5569280192) (bytes:=8) (hB.gf.of_eq ((aT ae).trans ((aZ _ ae ae).trans (AY _ (by simp[gO]))))) EJ hE.eC (by simp only[cG,vA];omega) fun c3 iQ uY iU=>?_
  have sL:=(iU 5568576512 ae ae).trans (rC (b:=bd) (a:=5568576512) (x:=(gF,some (.var [.p (.bool f.eI),cd,c2,cf,.p (.bool f.outer)]))));have dx:∀i∈gO,i≠5568576512->i≠5569216192->i≠5569280192->iQ i=aj i:=fun i hi n1 n2 n3=>(iU i n3 n3).trans ((aT n1).trans ((aZ i n2 n2).trans (AY i hi)));have eo:∀y y2:Nat×Option Ob,∀i,i≠5568576512->df (df iQ 5568576512 y) 5568576512 y2 i=iQ i:=fun y y2 i hi=>(aT hi).trans (aT hi);cases ho:f.outer with
  |true=>
   rw[ho] at sL;simp only[go_sem,sL,h1,h3,h4,h5,h6,h7,h8,h9,dC,w1,au];refine⟨cd,c2,c3,?_⟩;rw[hs];exact⟨(eo _ _ _ ae).trans ((dx _ (by simp[gO]) ae ae ae).trans hB.b0),(eo _ _ _ ae).trans ((dx _ (by simp[gO]) ae ae ae).trans hB.bA),(eo _ _ _ ae).trans ((dx _ (by simp[gO]) ae ae ae).trans hB.bW),(by rw[rC];simp[ho]),
    hB.gd.of_eq ((eo _ _ _ ae).trans (dx _ (by simp[gO]) ae ae ae)),(yu _ _▸jO).of_eq ((eo _ _ _ ae).trans ((iU _ ae ae).trans (aT ae))),(wM _ _▸uY).of_eq (eo _ _ _ ae),hB.go.of_eq ((eo _ _ _ ae).trans (dx _ (by simp[gO]) ae ae ae))⟩
  |false=>
   rw[ho] at sL;simp only[go_sem,sL,h1,h3,h4,h5,h6,h7,h8,h9,dC,w1,w2,au,Eo];refine⟨cd,c2,c3,?_⟩;rw[hs];exact⟨(eo _ _ _ ae).trans ((dx _ (by simp[gO]) ae ae ae).trans hB.b0),(eo _ _ _ ae).trans ((dx _ (by simp[gO]) ae ae ae).trans hB.bA),(eo _ _ _ ae).trans ((dx _ (by simp[gO]) ae ae ae).trans hB.bW),(by rw[rC];simp[ho]),
    hB.gd.of_eq ((eo _ _ _ ae).trans (dx _ (by simp[gO]) ae ae ae)),(yu _ _▸jO).of_eq ((eo _ _ _ ae).trans ((iU _ ae ae).trans (aT ae))),(wM _ _▸uY).of_eq (eo _ _ _ ae),hB.go.of_eq ((eo _ _ _ ae).trans (dx _ (by simp[gO]) ae ae ae))⟩
 have:k=w.length:=aa;subst this;rw[ajk] at hB;simp only[go_sem,i87_l1,h8,dC,dI];exact hq _ _ cd cp cf (by simp only[go_sem,h1,e1]) (by simp only[go_sem,h3,e3]) (by simp only[go_sem,h4,e4]) (by simp only[go_sem,h5,e5]) (by simp only[go_sem,h6,e6]) (by simp only[go_sem,h7,e7]) (by simp only[go_sem,h9,e9]) hB
theorem ar9{a b:PV}{id g z o l:Nat}{cp cf:C}:zQ [[.p a,.hsl id g z o l,cp,cf,.p b]]=none:=rfl
theorem Yn{aj:aA}{s g ty sd td zd sp tp zp sf tf zf:Nat}{a o:Bool}{cd cp cf:C}{D P G:List (List PV)}(hb:aj s=(g,some (.gQ ty 5 [[.p (.bool a),cd,cp,cf,.p (.bool o)]])))(gd:grown sd td zd D (.one cd) aj)(gp:grown sp tp zp P (.one cp) aj)(gf:grown sf tf zf G (.one cf) aj):
  ∃fr,eN aj (.one (.hsl s g 5 0 1))=some ([[.bool a,.sl D,.sl P,.sl G,.bool o]],[s],fr)/\uG aj fr/\ ∀i∈fr,i=sd\/i=sp\/i=sf:=by
 obtain⟨r1,n1,a1,q1⟩:=gd.OV;obtain⟨r2,n2,a2,q2⟩:=gp.OV;obtain⟨r3,n3,a3,q3⟩:=gf.OV;refine⟨r1++(r2++r3),?_,a1.app (a2.app a3),fun i hi=>?_⟩
 .simp only[eN,hb];simp[collect,n1,n2,n3,OY,PV.norm]
 simp only[fi] at hi;rcases hi with hi|hi|hi
 .rcases q1 with rfl|rfl<;>simp at hi;exact .inl hi
 .rcases q2 with rfl|rfl<;>simp at hi;exact .inr (.inl hi)
 rcases q3 with rfl|rfl<;>simp at hi;exact .inr (.inr hi)
abbrev jw(l:List Fc):List (List PV):=l.map Fc.ps
theorem agt(F:Nat)(ls:List Let):∀(w:List Nat) (f:Fc),f.bj≠[]->(w.foldl (Fc.add F ls) f).bj≠[]:=by
 intro w
 induction w with
 |nil=>intro f h;exact h
 |cons x w ih=>
  intro f h;refine ih _ ?_;unfold Fc.add;split
  .simp
  exact h
theorem ZG{d:Nat}{t:List Nat}(h:d<2*ls.length):(iH F ls (d::t)).bj≠[]:=by unfold iH;refine agt F ls t _ ?_;unfold Fc.add;rw[show(d::t).headD 0=d from rfl,aE h];simp
theorem ajr(ok:dU F ls)(hF:F<=1000)(aM:aC ls≠[]):aJ S 87 [cY F ls] (.one (aO sR 5 (jw (de F ls)))):=by
 have hl:=ok.hl;have fO:(aC ls).length<=1000000:=lf (qQ ls ls.length) hl;have eV:nD ls<=4000000:=by unfold nD;omega
 have akD:=IB ok;have pa:=Xj F ls hl;have pw:=afo F ls hl aM ok.hp;unfold I8 at pa;rw[aD aM] at pa;have kM:(dR (aV ls) (nD ls)).length<=nD ls:=IA (aV ls) (nD ls) _;have hLA:∀aj:aA,land aj [] 5568128064 ((RV.one (.own 3 1 (nP (aC ls)))).eG (S.lone 5568128064))=some (.one (.hsl 5568128064 ((aj 5568128064).1+1) 1 0 (aC ls).length),[(5568128064,((aj 5568128064).1+1,some (.arr 3 1 (nP (aC ls)))))]):=by intro aj;rw[show S.lone 5568128064=false by kernel_rfl,show(aC ls).length=(nP (aC ls)).length by simp];rfl
 have hLW:∀aj:aA,land aj [] 5568192064 ((RV.one (.own 86 1 (ID (dR (aV ls) (nD ls))))).eG (S.lone 5568192064))=some (.one (.hsl 5568192064 ((aj 5568192064).1+1) 1 0 (dR (aV ls) (nD ls)).length),[(5568192064,((aj 5568192064).1+1,some (.arr 86 1 (ID (dR (aV ls) (nD ls))))))]):=by intro aj;rw[show S.lone 5568192064=false by kernel_rfl,show(dR (aV ls) (nD ls)).length=(ID (dR (aV ls) (nD ls))).length by simp];rfl
 refine bc c87 ?_;simp only[go_sem,i87,s43,s24,cK pa (hLA _),cK pw (hLW _)];refine cS (fun k ak aj=>ak 1=.one (.ba 5568000000 1 0)/\ak 4=.one (.hsl 5568128064 1 1 0 (aC ls).length)/\ak 5=.one (.hsl 5568192064 1 1 0 (dR (aV ls) (nD ls)).length)/\ak 6=vi ls.length/\ak 7=vi k/\
   aj 5568000000=(1,some (.var (n9 F ls)))/\aj 5568128064=(1,some (.arr 3 1 (nP (aC ls))))/\aj 5568192064=(1,some (.arr 86 1 (ID (dR (aV ls) (nD ls)))))/\
   ∃vo,ak 3=.one vo/\grown 5569408192 sR 5 (jw (((dR (aV ls) (nD ls)).take k).map (iH F ls))) (.one vo) aj) 0 (dR (aV ls) (nD ls)).length (bn _) ?_ ?_
 .simp only[go_sem];first|exact⟨rfl,_,rfl,.inl ⟨rfl,rfl⟩⟩|exact⟨rfl,rfl,_,rfl,.inl ⟨rfl,rfl⟩⟩|exact⟨rfl,rfl,rfl,_,rfl,.inl ⟨rfl,rfl⟩⟩|exact⟨rfl,rfl,rfl,rfl,_,rfl,.inl ⟨rfl,rfl⟩⟩
 rintro k ak aj hk ⟨h1,h4,h5,h6,h7,b0,bA,bW,vo,h3,go⟩
 by_cases au:k<(dR (aV ls) (nD ls)).length
 .have aL:((k:Int)<((dR (aV ls) (nD ls)).length:Int)):=aa;obtain⟨w,hw⟩:=aN au;obtain⟨⟨d,t,hwd,hd⟩,aln,hwm⟩:=akD w (aW hw);have ji:=arW hw;have w1:=bQ (n:=k) aa;have fP:(nP w)[0]?=some [.int .i64 (d:Int)]:=by rw[hwd];rfl
  have h0l:0<w.length:=by rw[hwd];simp
  have h0l':(0:Int)<(w.length:Int):=aa;have wq:=wrap_small (n:=d/2) aa;have pb:=aho F ls (d/2) hl aa;have Es:w.headD 0=d:=by rw[hwd];rfl
  have fS:jw (((dR (aV ls) (nD ls)).take (k+1)).map (iH F ls))=jw (((dR (aV ls) (nD ls)).take k).map (iH F ls))++[(iH F ls w).ps]:=by rw[iw,hw];simp
  have sY:(jw (((dR (aV ls) (nD ls)).take k).map (iH F ls))).length<=k:=by simp;omega
  generalize jw (((dR (aV ls) (nD ls)).take k).map (iH F ls))=outs at go fS sY;simp only[go_sem,i87_l4,h1,h5,h7,b0,bW,au,aL,ji,fP,dF,eL,wq,s92,kJ pb];refine⟨aH,?_⟩;refine ajo ok hF hwm aln (gA:=1) (gW:=1) (gF:=(aj 5568576512).1+1) (i:=k) (cd:=.p .nils) (cp:=.p .nils) (cf:=.p .nils) (vo:=vo) (outs:=outs) ?_ ?_ ?_ ?_ ?_ ?_ ?_ ?_ ?_ ⟨?_,?_,?_,?_,grown.nil,grown.nil,grown.nil,?_⟩ ?_
  .simp only[go_sem,h1]
  .simp only[go_sem,h3]
  .simp only[go_sem,h4]
  .simp only[go_sem,h5]
  .simp only[go_sem,h6]
  .simp only[go_sem,h7]
  .simp only[go_sem]
  .simp only[go_sem]
  .simp only[go_sem]
  .simp only[go_sem,b0]
  .simp only[go_sem,bA]
  .simp only[go_sem,bW]
  .simp only[go_sem,vK,Fc.new,Es];simp
  .exact go.of_eq (by simp only[go_sem])
  intro aI ao vH lX uJ q1 q3 q4 q5 q6 q7 q9 hB;simp only[go_sem,h1,h3,h4,h5,h6,h7] at q1 q3 q4 q5 q6 q7 q9;have dV:=ZG (F:=F) (t:=t) hd;rw[<- hwd] at dV;generalize iH F ls w=f at hB fS dV;obtain⟨B0,BA,BW,BF,gd,gp,gf,go2⟩:=hB;rcases gd with ⟨e,_⟩|⟨_,gg,e,hbd⟩
  .simp at e;exact absurd e dV
  cases e;simp only[go_sem,i87_r2,i87_r3,q3,q9,BF];have gd:grown 5568896448 3 1 (nP f.bj) (.one (.hsl 5568896448 gg 1 0 (nP f.bj).length)) ao:=.inr ⟨by simpa using dV,gg,rfl,hbd⟩;rw[cG] at gd;obtain⟨fr,hx,wg,A4⟩:=Yn (aj:=df ao 5569408128 ((ao 5569408128).1+1,some (.gQ sR 5 [[.p (.bool f.eI),.hsl 5568896448 gg 1 0 f.bj.length,lX,uJ,.p (.bool f.outer)]]))) (s:=5569408128) rC (gd.of_eq (aT ae)) (gp.of_eq (aT ae)) (gf.of_eq (aT ae));have nf:∀i,i≠5568896448->i≠5569216192->i≠5569280192->i∉fr:=fun i a b c h=>by
   rcases A4 i h with h|h|h
   .exact a h
   .exact b h
   exact c h
  refine Z9 (site:=5569408192) (id:=5569408192) (bytes:=88) (go2.of_eq (aT ae)) hx wg (nf _ ae ae ae) (nf _ ae ae ae) (.inl rfl) (by simp only[dp,eP];omega) fun c bd hc aZ=>?_;have B0':=(aZ 5568000000 ae ae (nf _ ae ae ae)).trans ((aT ae).trans B0);have BA':=(aZ 5568128064 ae ae (nf _ ae ae ae)).trans ((aT ae).trans BA);have BW':=(aZ 5568192064 ae ae (nf _ ae ae ae)).trans ((aT ae).trans BW);simp only[go_sem,q1,q3,q4,q5,q6,q7,B0',BA',BW',w1,au];refine⟨c,rfl,?_⟩;rw[fS];exact hc
 have:k=(dR (aV ls) (nD ls)).length:=aa;subst this;rw[jf] at go;simp only[go_sem,i87_l4,i87_r5,h3,h5,h7,dI];exact xH go
def sM(ls:List Let)(k:Nat):List Bool:=(List.range ls.length).map fun i=>decide (i<k)&& !dn ls (i+1)
theorem Xn(ls:List Let)(k:Nat):(sM ls k).length=ls.length:=by simp[sM]
theorem ahk(ls:List Let):sM ls 0=List.replicate ls.length false:=by
 refine BE fun i=>?_;simp only[sM,gh,List.getElem?_replicate];by_cases h:i<ls.length
 .simp[h]
 rw[nV (by simpa using h),aD h];rfl
theorem ahj(ls:List Let)(k:Nat):sM ls (k+1)=(sM ls k).set k (!dn ls (k+1)):=by
 refine BE fun i=>?_;rw[nW,Xn];simp only[sM,gh];by_cases h:i<ls.length
 .rw[sI h];by_cases e:k=i
  .subst e;simp[h]
  simp only[mw,e,if_false];congr 2;exact decide_eq_decide.2 aa
 rw[nV (by simpa using h)];by_cases e:k=i
 .subst e;rw[aE rfl,aD h];rfl
 rw[aD e];rfl
abbrev An(ls:List Let):List Bool:=sM ls ls.length
theorem ahl{i:Nat}(h:i<ls.length):(An ls)[i]?=some (!dn ls (i+1)):=by simp[sM,h]
theorem ahn(ok:dU F ls):aJ S 127 [.one (.p (rM F ls))] (.one (.own 4 1 (bP (An ls)))):=by
 have hl:=ok.hl;have jC:ls.length<=140737488355328:=aa;have ED:List.replicate ls.length [PV.bool false]=bP (sM ls 0):=by rw[ahk];simp
 refine bc c127 ?_;simp only[go_sem,i127,jC,ED];refine cS (fun k ak aj=>ak 0=.one (.p (rM F ls))/\ak 3=.one (.hsl 8128064384 1 1 0 ls.length)/\aj 8128064384=(1,some (.arr 4 1 (bP (sM ls k))))/\
   ak 4=vb (!dn ls k)/\ak 18=.one (.p (hU ls))/\ak 19=vi ls.length/\ak 20=vi k) 0 ls.length (bn _) ?_ ?_
 .simp only[go_sem];first|exact⟨rfl,rfl⟩|exact⟨rfl,rfl,rfl⟩|exact⟨rfl,rfl,rfl,rfl⟩|exact rfl
 rintro k ak aj hk ⟨h0,h3,hA,h4,qy,xJ,vN⟩
 by_cases au:k<ls.length
 .obtain⟨l,cH⟩:=aN au;have hi:=gE cH;have aL:((k:Int)<(ls.length:Int)):=aa;have w1:=bQ (n:=k) aa;have hlen:k<(sM ls k).length:=by rw[Xn];exact au
  obtain⟨b0,r4⟩:=aN hlen;have nv:=qo r4;have jl:=F4 (sM ls k) k (!dn ls (k+1));rw[<- ahj] at jl;cases hp:(l.kind==1) with
  |true=>have hd:=Js cH hp;have akv:=qo (MI cH hp);rw[hd] at jl;rw[L6] at jl;simp only[go_sem,i127_l1,h0,h3,hA,h4,qy,xJ,vN,hi,Let.ps,au,aL,w1,hp,akv,nv,jl,hd]
  |false=>have hd:=Jt cH hp;rw[hd] at jl;simp only[go_sem,i127_l1,h0,h3,hA,h4,qy,xJ,vN,hi,Let.ps,au,aL,w1,hp,nv,jl,hd]
 have:k=ls.length:=aa;subst this;simp only[go_sem,i127_l1,i127_r2,h3,xJ,vN,dI];exact Fa hA (by simp[sM])
abbrev CX(id:Nat):Prop:=mr id=188
theorem aeQ{g r T k:Nat}(h:k<=T-g):(lM g r T)[k]?=some (g+k,if k=0 then r else 0):=by
 cases k with
 |zero=>rfl
 |succ k=>unfold lM;rw[List.getElem?_cons_succ,gh,sI aa];simp;omega
theorem aqD{g T k:Nat}(h:k<T-g):(qf g T)[k]?=some (g+1+k):=by unfold qf;rw[gh,sI h];rfl
def F9(g r T:Nat)(ps fs:List (List PV))(i1 i2:Nat)(aj:aA)(v:V)(ao:aA):Prop:=
 ∃c1 c2 j2,v=.tup [.one c1,.one c2]/\grown 12032320192 um 2 (ps++dD (lM g r T)) (.one c1) ao/\grown j2 3 1 (fs++nP (qf g T)) (.one c2) ao/\(j2=i2\/j2=12032256256)/\
  Kept (fun id=>CX id\/id=i1\/id=i2) aj ao
def bt1:List Nat:=[12032000000,12032000064,12032128128,12032256192,12032256256,12032320128]
def bt2:List Nat:=[12032000000,12032000064,12032128128,12032128192,12032256192,12032320128,12032320192]
theorem Jf{al:Al}{aj:aA}{g r T t i1 i2:Nat}{ps fs:List (List PV)}{c1 c2:C}(okf:∀id,CX id->al.ok id=true)(o1:al.ok i1=true)(o2:al.ok i2=true)(hT:g<=T)(ht:t=if T=g then r else 0)(hb:T<=1000)(dj:ps.length<=1000000)(hfs:fs.length<=1000000)
  (n12:i1≠i2) (nb1:i1∉bt1) (nb2:i2∉bt2) (h1:grown i1 um 2 ps (.one c1) aj) (h2:grown i2 3 1 fs (.one c2) aj):
  ∃v ao,iA S 188 [.agg [.p (.int .i64 g),.p (.int .i64 r)],.agg [.p (.int .i64 T),.p (.int .i64 t)],.one c1,.one c2] al aj v ao/\F9 g r T ps fs i1 i2 aj v ao:=by
 have k0:al.ok 12032000000=true:=okf _ rfl;have k64:al.ok 12032000064=true:=okf _ rfl;have kb1:al.ok 12032128128=true:=okf _ rfl;have ka1:al.ok 12032128192=true:=okf _ rfl;have K7:al.ok 12032256192=true:=okf _ rfl;have ka2:al.ok 12032256256=true:=okf _ rfl;have kb3:al.ok 12032320128=true:=okf _ rfl;have ka3:al.ok 12032320192=true:=okf _ rfl;refine mz c188 (gj rfl) ?_;simp only[go_sem,i188,k0,k64];have lenP:=yz g r T;have lenF:=LK g T;refine cS (fun k ak ao=>ak 4=.one (.ba 12032000000 ((aj 12032000000).1+1) 0)/\ak 5=.one (.ba 12032000064 ((aj 12032000064).1+1) 0)/\
   ao 12032000000=((aj 12032000000).1+1,some (.var [.p (.int .i64 ((g+k:Nat):Int)),.p (.int .i64 ((if k=0 then r else 0:Nat):Int))]))/\ao 12032000064=((aj 12032000064).1+1,some (.var [.p (.int .i64 T),.p (.int .i64 t)]))/\
   ∃d1 d2 j1 j2,ak 2=.one d1/\ak 3=.one d2/\(j1=i1\/j1=12032128192)/\(j2=i2\/j2=12032256256)/\grown j1 um 2 (ps++dD ((lM g r T).take k)) (.one d1) ao/\grown j2 3 1 (fs++nP ((qf g T).take k)) (.one d2) ao/\Kept (fun id=>CX id\/id=i1\/id=i2) aj ao) 0 (T-g) (bn _) ?_ ?_
 .simp only[go_sem];refine⟨rfl,c1,c2,i1,i2,rfl,rfl,.inl rfl,.inl rfl,?_,?_,?_⟩
  .exact(h1.of_eq (aT (N9 nb1 (by simp[bt1])))).of_eq (aT (N9 nb1 (by simp[bt1])))
  .exact(h2.of_eq (aT (N9 nb2 (by simp[bt2])))).of_eq (aT (N9 nb2 (by simp[bt2])))
  exact((Kept.refl _ _).df (.inl rfl) _).df (.inl rfl) _
 rintro k ak ao hk ⟨h4,h5,hA,hB,d1,d2,j1,j2,e2,e3,q1,q2,g1,g2,cT⟩
 have oj1:al.ok j1=true:=by rcases q1 with rfl|rfl<;>assumption
 have oj2:al.ok j2=true:=by rcases q2 with rfl|rfl<;>assumption
 have n1:∀a,a∈bt1->j1≠a:=fun a ha e=>by
  rcases q1 with rfl|rfl
  .exact nb1 (e▸ha)
  exact absurd (e▸ha) ae
 have n2:∀a,a∈bt2->j2≠a:=fun a ha e=>by
  rcases q2 with rfl|rfl
  .exact nb2 (e▸ha)
  exact absurd (e▸ha) ae
 have n3:j1≠j2:=fun e=>by
  rcases q1 with rfl|rfl
  .rcases q2 with rfl|rfl
   .exact n12 e
   exact n1 _ ae e
  exact n2 _ ae e.symm
 have kj1:CX j1\/j1=i1\/j1=i2:=by
  rcases q1 with rfl|rfl
  .exact .inr (.inl rfl)
  exact .inl rfl
 have kj2:CX j2\/j2=i1\/j2=i2:=by
  rcases q2 with rfl|rfl
  .exact .inr (.inr rfl)
  exact .inl rfl
 have ltk:((lM g r T).take k).length=k:=by rw[iF];omega
 have ltf:((qf g T).take k).length=k:=by rw[iF];omega
 by_cases au:k<T-g
 .have aL:(((g+k:Nat):Int)<(T:Int)):=aa;have w1:IntKind.i64.wrap (((g+k:Nat):Int)+1)=((g+(k+1):Nat):Int):=bQ (n:=g+k) aa;have hp:dD ((lM g r T).take (k+1))=dD ((lM g r T).take k)++[[.int .i64 ((g+k:Nat):Int),.int .i64 ((if k=0 then r else 0:Nat):Int)]]:=by
   rw[iw,aeQ aa,yu];rfl
  have hf:nP ((qf g T).take (k+1))=nP ((qf g T).take k)++[[.int .i64 ((g+(k+1):Nat):Int)]]:=by rw[iw,aqD au,wM,show g+1+k=g+(k+1) by omega];rfl
  simp only[go_sem,i188_l1,h4,h5,hA,hB,e2,aL,k0,k64,kb1];refine Nj (id:=j1) (site:=12032128192) (bytes:=16) (xs:=[[.int .i64 ((g+k:Nat):Int),.int .i64 ((if k=0 then r else 0:Nat):Int)]]) (rd:=[12032128128]) (by simp[ka1,oj1,kb1]) (g1.of_eq (aT (n1 _ ae))) (by simp[eN,aS]) (.inl rfl) (by simp only[fH,cG,ltk,dp,eP];omega) fun c bd hc aZ=>?_;have hA2:=(aZ 12032000000 ae (n1 _ ae).symm).trans ((aT ae).trans hA);have sT:=(aZ 12032000064 ae (n1 _ ae).symm).trans ((aT ae).trans hB);simp only[go_sem,h4,hA2,e3,w1,k0,K7]
  refine Nj (id:=j2) (site:=12032256256) (bytes:=8) (xs:=[[.int .i64 ((g+(k+1):Nat):Int)]]) (rd:=[12032256192]) (by simp[ka2,oj2,K7]) (g2.of_eq ((aT (n2 _ ae)).trans ((aT (n2 _ ae)).trans ((aZ _ (n2 _ ae) n3.symm).trans (aT (n2 _ ae)))))) (by simp[eN,aS]) (.inl rfl) (by simp only[fH,cG,ltf,dp,eP];omega) fun c' iQ jN iU=>?_;have hA3:=(iU 12032000000 ae (n2 _ ae).symm).trans ((aT ae).trans rC);have hB3:=(iU 12032000064 ae (n2 _ ae).symm).trans ((aT ae).trans ((aT ae).trans sT));simp only[go_sem,h4,h5,hA3,hB3,e2,e3,au];refine⟨rfl,c,c',12032128192,12032256256,rfl,rfl,.inr rfl,.inr rfl,?_,?_,fun id hn=>?_⟩
  .rw[hp,<- wY];exact hc.of_eq ((iU _ ae (n2 _ ae).symm).trans ((aT ae).trans (aT ae)))
  .rw[hf,<- wY];exact jN
  have a:∀x,CX x->id≠x:=fun x hx e=>hn (.inl (e▸hx));have b1:id≠j1:=fun e=>hn (e▸kj1);have b2:id≠j2:=fun e=>hn (e▸kj2);exact(iU id (a _ rfl) b2).trans ((aT (a _ rfl)).trans ((aT (a _ rfl)).trans ((aZ id (a _ rfl) b1).trans ((aT (a _ rfl)).trans (cT id hn)))))
 have:k=T-g:=aa;subst this;have aL:¬(((g+(T-g):Nat):Int)<(T:Int)):=aa;simp only[go_sem,i188_l1,i188_r2,h4,h5,hA,hB,e2,aL,k0,k64,kb3];have TH:dD (lM g r T)=dD ((lM g r T).take (T-g))++[[.int .i64 (T:Int),.int .i64 (t:Int)]]:=by
  have h1:=iw (l:=lM g r T) (i:=T-g);rw[aeQ (cA _),eY (show(lM g r T).length<=T-g+1 by omega)] at h1;have e1:g+(T-g)=T:=aa;have e2:(if T-g=0 then r else 0)=t:=by
   rw[ht];by_cases h:T=g
   .rw[aE h,aE aa]
   rw[aD h,aD aa]
  rw[e1,e2] at h1;exact(congrArg (fun l:List (Nat×Nat)=>dD l) h1).trans (yu _ _)
 have dx:(qf g T).take (T-g)=qf g T:=eY aa;refine Nj (id:=j1) (site:=12032320192) (bytes:=16) (xs:=[[.int .i64 (T:Int),.int .i64 (t:Int)]]) (rd:=[12032320128]) (by simp[ka3,oj1,kb3]) (g1.of_eq (aT (n1 _ ae))) (by simp[eN,aS]) (.inl rfl) (by simp only[fH,cG,ltk,dp,eP];omega) fun c bd hc aZ=>?_;simp only[go_sem,e3];refine⟨c,d2,j2,rfl,?_,?_,q2,fun id hn=>?_⟩
 .rw[TH,<- wY];exact hc
 .rw[dx] at g2;exact g2.of_eq ((aZ _ (n2 _ ae) n3.symm).trans (aT (n2 _ ae)))
 have a:∀x,CX x->id≠x:=fun x hx e=>hn (.inl (e▸hx));have b1:id≠j1:=fun e=>hn (e▸kj1);exact(aZ id (a _ rfl) b1).trans ((aT (a _ rfl)).trans (cT id hn))
theorem Xi(ok:dU F ls)(hj:j<(aC ls).length):∃u l,(aC ls)[j]?=some u/\(aC ls).getD j 0=u/\ls[u]?=some l/\l.aG=true/\rW F ls l/\dE ls l=j:=by obtain⟨u,l,h1,h2,h3,h4,h5⟩:=My ok hj;obtain⟨l',k1,k2,k3⟩:=Aj ok.ax h1;rw[h3] at k1;cases k1;exact⟨u,l,h1,h2,h3,h4,h5,k3⟩
theorem ahb{pg pr qg qr:Nat}{p q:Let}(gp:rW F ls p)(gq:rW F ls q)(hp:dE ls p=j)(hq:dE ls q=j+1)(h1:p.gate=(pg:Int))(h2:p.aw=(pr:Int))(h3:q.gate=(qg:Int))(h4:q.aw=(qr:Int)):
  pg<=qg/\qr-1=if qg=pg then pr else 0:=by
 obtain⟨_,_,p1,p2⟩:=gp;obtain⟨_,_,q1,q2⟩:=gq;unfold dE at hp hq;rw[h1,h2] at hp;rw[h3,h4] at hq;rw[h2] at p1;rw[h1,h2] at p2;rw[h4] at q1;rw[h3,h4] at q2;simp only[wX] at hp hq p2 q2;have sp:=rT ls pg;have sq:=rT ls qg;have hle:pg<=qg:=by
  rcases Mh qg pg with h|h
  .have:=yO (ls:=ls) (show qg+1<=pg by omega);omega
  exact h
 refine⟨hle,?_⟩;by_cases e:qg=pg
 .subst e;rw[aE rfl];omega
 rw[aD e];have:=yO (ls:=ls) (show pg+1<=qg by omega);omega
theorem ag9{qg qr:Nat}{q:Let}(gq:rW F ls q)(hq:dE ls q=0)(h3:q.gate=(qg:Int))(h4:q.aw=(qr:Int)):qr-1=0:=by obtain⟨_,_,q1,q2⟩:=gq;unfold dE at hq;rw[h3,h4] at hq;rw[h4] at q1;simp only[wX] at hq;omega
theorem aqg:S.sites 188=[188]:=ah
theorem sK{vs:List V}{aj:aA}:∀id,CX id->(allow (S.ctx .all) 188 vs aj).ok id=true:=fun id h=>Ae (by rw[aqg,h];simp)
theorem ao8(ok:dU F ls)(hF:F<=1000)(hj:j<(aC ls).length):
  aJ S 153 [.one (.p (rM F ls)),vi j] (.tup [.one (aO um 2 (dD (pY F ls j))),.one (aO 3 1 (nP (wP F ls j)))]):=by
 have hl:=ok.hl;have fO:(aC ls).length<=1000000:=lf (qQ ls ls.length) hl;have hm:=dK (j+1) (show 0<(aC ls).length by omega);obtain⟨u,p,hu,du,hp,pp,gp,xp⟩:=Xi ok hj;obtain⟨v,q,hv,dv,hq,pq,gq,xq⟩:=Xi ok hm;unfold pY wP;simp only[du,dv,AP hp,AP hq,ad3 hp];have fg:=gE hp;have ze:=gE hq;have ye:=ia hu;have pO:=ia hv;have e1:=qK (j+1) (aC ls).length;have w1:=bQ (n:=j) aa;have w2:=DB (a:=(aC ls).length) aa aa;have pN:¬(((aC ls).length:Int)=0):=aa
 have hg0:=gp.g0;have A6:=gp.g1;have sW:=gq.g0;have cH:=gq.g1;have CN:=gp.r0;have jT:=gp.r1;have nH:=gq.r0;have jk:=gq.r1;have Kh:cg ls p.gate.toNat<=ls.length:=qt _ _;have hcq:cg ls q.gate.toNat<=ls.length:=qt _ _;obtain⟨pg,h1⟩:=tu (show 0<=p.gate by omega);obtain⟨pr,h2⟩:=tu (show 0<=p.aw by omega);obtain⟨qg,h3⟩:=tu (show 0<=q.gate by omega);obtain⟨qr,h4⟩:=tu (show 0<=q.aw by omega);have wr:=DB (a:=qr) (by rw[h4] at nH;omega) aa;have iu:S.shared 188=true:=ah;have CH:=fun h=>ahb gp gq xp (h:dE ls q=j+1) h1 h2 h3 h4;have TD:=fun h=>ag9 gq (h:dE ls q=0) h3 h4
 rw[h1] at A6 jT Kh hg0;rw[h2] at jT CN;rw[h3] at sW cH jk hcq;rw[h4] at nH jk;rw[h1,h2,h3];simp only[wX] at jT Kh jk hcq ⊢;refine bc c153 ?_;by_cases au:j+1<(aC ls).length
 .have aL:(j:Int)<(((aC ls).length-1:Nat):Int):=aa;rw[gV au] at xq;obtain⟨n1,n2⟩:=CH xq;simp only[aE au];simp only[go_sem,i153,ye,pO,fg,ze,Let.ps,w1,e1,w2,wr,aL,pN,h1,h2,h3,h4,iu];refine⟨aH,?_⟩;refine rV (P:=F9 pg pr qg [] [] 12032128192 12032256256 _) wB (Jf (g:=pg) (r:=pr) (T:=qg) (t:=qr-1) (c1:=.p .nils) (c2:=.p .nils) sK (sK _ rfl) (sK _ rfl) n1 n2 aa (bn _) (bn _) ae ae ae grown.nil grown.nil) ?_;rintro v ao ⟨c1,c2,j2,rfl,g1,g2,lD,cT⟩
  have lD:j2=12032256256:=by rcases lD with h|h<;>exact h
  subst lD;simp only[go_sem];exact GF ae g1 g2
 have aL:¬(j:Int)<(((aC ls).length-1:Nat):Int):=aa;have Eu:(j+1)%(aC ls).length=0:=by rw[show j+1=(aC ls).length by omega,Aa]
 rw[Eu] at xq;have n2:=TD xq;simp only[aD au];have TH:∃t:Nat,t=(if F=pg then pr else 0):=⟨_,rfl⟩;obtain⟨t,ht⟩:=TH;have fin:∀(ak:Env) (aj:aA) (c1 c2:C),True:=fun _ _ _ _=>trivial;have ini:(((pg:Int)==(F:Int))=true/\t=pr/\F=pg)\/(((pg:Int)==(F:Int))=false/\t=0):=by
  by_cases h:F=pg
  .subst h;rw[aE rfl] at ht;exact .inl ⟨af,ht,rfl⟩
  rw[aD h] at ht;exact .inr ⟨by simp;omega,ht⟩
 rcases ini with ⟨hb,Hn,hFp⟩|⟨hb,Hn⟩
 .subst hFp;simp only[go_sem,i153,ye,pO,fg,ze,Let.ps,w1,e1,w2,wr,aL,pN,h1,h2,h3,h4,iu,hb];refine⟨aH,?_⟩;refine⟨aH,?_⟩;refine rV (P:=F9 F pr F [] [] 12032128192 12032256256 _) wB (Jf (g:=F) (r:=pr) (T:=F) (t:=pr) (c1:=.p .nils) (c2:=.p .nils) sK (sK _ rfl) (sK _ rfl) aa (by rw[aE rfl]) aa (bn _) (bn _) ae ae ae grown.nil grown.nil) ?_;rintro v bt ⟨c1,c2,j2,rfl,g1,g2,lD,cT⟩
  have lD:j2=12032256256:=by rcases lD with h|h<;>exact h
  subst lD;rw[gi] at g1 g2;have hA:=cT 9792256384 ae;simp only[go_sem] at hA;simp only[go_sem,hA,iu];refine rV (P:=F9 0 0 qg (dD (lM F pr F)) (nP (qf F F)) 12032320192 12032256256 _) wB (Jf (g:=0) (r:=0) (T:=qg) (t:=qr-1) (c1:=c1) (c2:=c2) sK (sK _ rfl) (sK _ rfl) (bn _) (by rw[n2];split<;>rfl) aa (by simp only[cG,yz];omega) (by simp only[cG,LK];omega) ae ae ae g1 g2) ?_;rintro v bd ⟨d1,d2,j3,rfl,k1,k2,yY,_⟩
  have yY:j3=12032256256:=by rcases yY with h|h<;>exact h
  subst yY;simp only[go_sem];rw[yu,wM];exact GF ae k1 k2
 simp only[go_sem,i153,ye,pO,fg,ze,Let.ps,w1,e1,w2,wr,aL,pN,h1,h2,h3,h4,iu,hb];refine⟨aH,?_⟩;refine⟨aH,?_⟩;refine rV (P:=F9 pg pr F [] [] 12032128192 12032256256 _) wB (Jf (g:=pg) (r:=pr) (T:=F) (t:=0) (c1:=.p .nils) (c2:=.p .nils) sK (sK _ rfl) (sK _ rfl) aa (by rw[Hn] at ht;exact ht) aa (bn _) (bn _) ae ae ae grown.nil grown.nil) ?_;rintro v bt ⟨c1,c2,j2,rfl,g1,g2,lD,cT⟩
 have lD:j2=12032256256:=by rcases lD with h|h<;>exact h
 subst lD;rw[gi] at g1 g2;have hA:=cT 9792256384 ae;simp only[go_sem] at hA;simp only[go_sem,hA,iu];refine rV (P:=F9 0 0 qg (dD (lM pg pr F)) (nP (qf pg F)) 12032320192 12032256256 _) wB (Jf (g:=0) (r:=0) (T:=qg) (t:=qr-1) (c1:=c1) (c2:=c2) sK (sK _ rfl) (sK _ rfl) (bn _) (by rw[n2];split<;>rfl) aa (by simp only[cG,yz];omega) (by simp only[cG,LK];omega) ae ae ae g1 g2) ?_;rintro v bd ⟨d1,d2,j3,rfl,k1,k2,yY,_⟩
 have yY:j3=12032256256:=by rcases yY with h|h<;>exact h
 subst yY;simp only[go_sem];rw[yu,wM];exact GF ae k1 k2
end
end Go.Abs
