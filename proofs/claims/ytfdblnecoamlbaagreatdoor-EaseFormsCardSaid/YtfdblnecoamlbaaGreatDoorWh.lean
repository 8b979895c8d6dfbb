/- A part. -/
import Derived.Test.YtfdblnecoamlbaaGreatDoorWa
set_option linter.all false
set_option maxRecDepth 100000
set_option maxHeartbeats 16000000
namespace Go.Abs
section
variable{ls:ai}{F j n2 x:Nat}
abbrev nY(F:Nat)(ls:ai):PV:=dgP F ls (.sl (bP (ll ls))) (.sl (nP (aG ls))) (.sl (nP (j8 ls ls.length))) (.mp true (qM ls ls.length)) (.sl (nP (counts ls F)))
structure fA (F:Nat) (ls:ai):Prop where
 hl:ls.length<=1000000
 ax:CL F ls
 cr:mO ls=true
 kinds:∀l∈ls,l.aE=true\/l.aA=true
def zD{a:Nat}(h:a<=9223372036854775807):IntKind.i64.wrap ((a:Int)-1)=(a:Int)-1:=by
 cases a with
 |zero=>decide
 |succ a=>rw[Iu aa h];omega
def aiO{a n:Nat}(hn:1<=n)(h:a+n<=9223372036854775807):IntKind.i64.wrap (((a:Int)-1)+(n:Int))=((a+n-1:Nat):Int):=by have e:((a:Int)-1)+(n:Int)=((a+n-1:Nat):Int):=aa;rw[e];exact wrap_small aa
def Wa(F:Nat)(ls:ai)(i:Nat)(hl:ls.length<=1000000)(hi:i<ls.length):aK S 126 [.one (.p (nY F ls)),vi i] (ri (dF ls.length i true)):=by refine bk c126 ?_;have e:=u4 (a:=i) aa;simp only[go_sem,i126,e,dF]
def Tp(F:Nat)(ls:ai)(i:Nat)(hl:ls.length<=1000000)(hi:i<ls.length):aK S 125 [.one (.p (nY F ls)),vi i] (ri (dF ls.length i false)):=by refine bk c125 ?_;have e1:=zD (a:=i) aa;have e2:=aiO (a:=i) (n:=ls.length) aa aa;have e3:=w9 (i+ls.length-1) ls.length;have hm:=dr (i+ls.length-1) (show 0<ls.length by omega);have e4:=u4 (a:=(i+ls.length-1)%ls.length) aa;have e5:=cS (n:=2*((i+ls.length-1)%ls.length)) aa;have hz:¬((ls.length:Int)=0):=aa;simp only[go_sem,i125,e1,e2,e3,e4,e5,hz,dF]
def Pv{v:Nat}{l:Let}(h:ls[v]?=some l)(hp:l.aE=true):(ll ls)[v]?=some (dn ls v):=by have:=(aT.1 h).1;simp[ll,u5 this,iT,h,hp]
def arO{v:Nat}{l:Let}(h:ls[v]?=some l)(hp:l.aE=true):(j8 ls ls.length)[v]?=some (eB ls l):=by have:=(aT.1 h).1;simp[j8,this,Ig h hp]
def fA.QZ(ok:fA F ls){v:Nat}{l:Let}(h:ls[v]?=some l)(h2:(l.kind==2)=false):l.aE=true:=by
 rcases ok.kinds l (aV h) with hp|hc
 .exact hp
 unfold Let.aA at hc;rw[h2] at hc;cases hc
def abj(ok:fA F ls)(d:Nat)(hd:d<2*ls.length+2*(aG ls).length):aK S 101 [.one (.p (nY F ls)),vi d] (ri (iC ls (aG ls) d)):=by
 have hl:=ok.hl;have gR:(aG ls).length<=1000000:=mY (xv ls ls.length) hl;have kQ:∀x∈aG ls,x<ls.length/\ ∃l,ls[x]?=some l/\l.aE=true:=fun x hx=>by obtain⟨l,h1,h2⟩:=ui.1 hx;exact⟨(aT.1 h1).1,l,h1,h2⟩
 have m1:IntKind.i64.wrap (2*(ls.length:Int))=((2*ls.length:Nat):Int):=u4 aa;unfold iC;by_cases h:2*ls.length<=d
 .rw[aD h];refine bk c101 ?_;have h':((2*ls.length:Nat):Int)<=(d:Int):=aa;have m2:=Zi (a:=d) (b:=2*ls.length) h aa;have m3:=wrap_small (n:=(d-2*ls.length)/2) aa;have hm:=dr ((d-2*ls.length)/2+1) (show 0<(aG ls).length by omega);have pY:¬(((aG ls).length:Int)=0):=aa;obtain⟨u,hu⟩:=aM (ls:=aG ls) (k:=(d-2*ls.length)/2) aa;have xN:=kE hu;by_cases h2:d%2=0
  .rw[aD h2];have m4:=cS (n:=(d-2*ls.length)/2) aa;have jH:(((d%2:Nat):Int)==0)=true:=by simp[h2]
   have m5:=w9 ((d-2*ls.length)/2+1) (aG ls).length;obtain⟨v,hv⟩:=aM hm;have qJ:(aG ls).getD (((d-2*ls.length)/2+1)%(aG ls).length) 0=v:=by rw[dA,hv];rfl
   rw[qJ];obtain⟨te,l,pX,Dz⟩:=kQ v (aV hv);have BI:=kE hv;have fg:=tF (Pv pX Dz);have pf:=Wa F ls v hl te;have pb:=Tp F ls v hl te;cases hq:dn ls v with
   |true=>rw[hq] at fg;simp only[go_sem,i101,m1,m2,m3,m4,m5,h',jH,xN,BI,fg,pY,jX,fR,eO,s125,eT pb];exact⟨aJ,aJ⟩
   |false=>rw[hq] at fg;simp only[go_sem,i101,m1,m2,m3,m4,m5,h',jH,xN,BI,fg,pY,jX,fR,eO,s126,eT pf];exact⟨aJ,aJ⟩
  rw[ay h2];have jH:(((d%2:Nat):Int)==0)=false:=by simp;omega
  have qJ:(aG ls).getD ((d-2*ls.length)/2) 0=u:=by rw[dA,hu];rfl
  rw[qJ];obtain⟨te,l,pX,Dz⟩:=kQ u (aV hu);have fg:=tF (Pv pX Dz);have pf:=Wa F ls u hl te;have pb:=Tp F ls u hl te;cases hq:dn ls u with
  |true=>rw[hq] at fg;simp only[go_sem,i101,m1,m2,m3,h',jH,xN,fg,jX,fR,eO,s126,eT pf];exact aJ
  |false=>rw[hq] at fg;simp only[go_sem,i101,m1,m2,m3,h',jH,xN,fg,jX,fR,eO,s125,eT pb];exact aJ
 rw[ay h];have h':¬(((2*ls.length:Nat):Int)<=(d:Int)):=aa;have m3:=wrap_small (n:=d/2) aa;have iY:¬((ls.length:Int)=0):=aa;have pY:=dr (d/2+1) (show 0<ls.length by omega);have m4:=cS (n:=d/2) aa;have m5:=w9 (d/2+1) ls.length;have body:∀v:Nat,v<ls.length->∀fw:Bool,v=(if fw then (d/2+1)%ls.length else d/2)->(((d%2:Nat):Int)==0)=fw->aK S 101 [.one (.p (nY F ls)),vi d] (ri ((match ls[v]? with
   |none=>0
   |some l=>if l.kind==2 then dF ls.length (fJ ls v) (fw==(l.over==(l.sign==1)))
    else if dn ls v==fw then 2*ls.length+2*(aG ls).idxOf v else 2*ls.length+2*(((aG ls).idxOf v+(aG ls).length-1)%(aG ls).length)+1:Nat):Int)):=by
  intro v hv fw fD r5;obtain⟨l,pX⟩:=aM hv;have iF:=iO pX;rw[pX];simp only;refine bk c101 ?_;cases hk:(l.kind==2) with
  |true=>
   have hc:l.aA=true:=hk;have df:(l.kind==1)=false:=by simp only[dk] at hk;rw[hk];rfl
   obtain⟨FA,NK⟩:=Ro ok.cr pX hc;have hf:=ac0 ls ls.length l.id;rw[aD (QM (aV pX) hc)] at hf;have pf:=Wa F ls (fJ ls v) hl NK;have pb:=Tp F ls (fJ ls v) hl NK;cases ho:l.over with
   |true=>
    rw[ho] at FA;have FA:hU ls ls.length l.id false=some (fJ ls v):=FA;simp only[rV,FA] at hf;simp only[Ct] at hf;cases hs:(l.sign==1) with
    |true=>
     cases fw with
     |true=>have fD:v=(d/2+1)%ls.length:=fD;rw[fD] at iF hf pf pb |-;simp only[go_sem,i101,m1,m3,m4,m5,h',r5,iF,Let.ps,iY,df,ho,hs,jX,fR,eO,mapOf,mapVal,iZ,hf,s126,eT pf];exact⟨aJ,aJ⟩
     |false=>have fD:v=d/2:=fD;rw[fD] at iF hf pf pb |-;simp only[go_sem,i101,m1,m3,h',r5,iF,Let.ps,df,ho,hs,jX,fR,eO,mapOf,mapVal,iZ,hf,s125,eT pb];exact⟨aJ,aJ⟩
    |false=>
     cases fw with
     |true=>have fD:v=(d/2+1)%ls.length:=fD;rw[fD] at iF hf pf pb |-;simp only[go_sem,i101,m1,m3,m4,m5,h',r5,iF,Let.ps,iY,df,ho,hs,jX,fR,eO,mapOf,mapVal,iZ,hf,s125,eT pb];exact⟨aJ,aJ⟩
     |false=>have fD:v=d/2:=fD;rw[fD] at iF hf pf pb |-;simp only[go_sem,i101,m1,m3,h',r5,iF,Let.ps,df,ho,hs,jX,fR,eO,mapOf,mapVal,iZ,hf,s126,eT pf];exact⟨aJ,aJ⟩
   |false=>
    rw[ho] at FA;have FA:hU ls ls.length l.id true=some (fJ ls v):=FA;simp only[rV,FA] at hf;simp only[Ct] at hf;cases hs:(l.sign==1) with
    |true=>
     cases fw with
     |true=>have fD:v=(d/2+1)%ls.length:=fD;rw[fD] at iF hf pf pb |-;simp only[go_sem,i101,m1,m3,m4,m5,h',r5,iF,Let.ps,iY,df,ho,hs,jX,fR,eO,mapOf,mapVal,iZ,hf,s125,eT pb];exact⟨aJ,aJ⟩
     |false=>have fD:v=d/2:=fD;rw[fD] at iF hf pf pb |-;simp only[go_sem,i101,m1,m3,h',r5,iF,Let.ps,df,ho,hs,jX,fR,eO,mapOf,mapVal,iZ,hf,s126,eT pf];exact⟨aJ,aJ⟩
    |false=>
     cases fw with
     |true=>have fD:v=(d/2+1)%ls.length:=fD;rw[fD] at iF hf pf pb |-;simp only[go_sem,i101,m1,m3,m4,m5,h',r5,iF,Let.ps,iY,df,ho,hs,jX,fR,eO,mapOf,mapVal,iZ,hf,s126,eT pf];exact⟨aJ,aJ⟩
     |false=>have fD:v=d/2:=fD;rw[fD] at iF hf pf pb |-;simp only[go_sem,i101,m1,m3,h',r5,iF,Let.ps,df,ho,hs,jX,fR,eO,mapOf,mapVal,iZ,hf,s125,eT pb];exact⟨aJ,aJ⟩
  |false=>
   have hp:=ok.QZ pX hk;have df:(l.kind==1)=true:=hp;have fg:=tF (Pv pX hp);have bY:=kE (arO pX hp);have Dv:=Gy ok.ax pX hp;have hpT:=Yi (ok.ax.fy l (aV pX) hp);rw[Gn ok.ax.rY] at hpT;rw[Dv];have Nv:¬(((aG ls).length:Int)=0):=aa;have jq:=dr (eB ls l+(aG ls).length-1) (show 0<(aG ls).length by omega);have n1:=u4 (a:=eB ls l) aa;have n2:=wrap_add (a:=2*ls.length) (b:=2*eB ls l) aa;have n3:=zD (a:=eB ls l) aa;have n4:=aiO (a:=eB ls l) (n:=(aG ls).length) aa aa;have n5:=w9 (eB ls l+(aG ls).length-1) (aG ls).length;have n6:=u4 (a:=(eB ls l+(aG ls).length-1)%(aG ls).length) aa;have n7:=wrap_add (a:=2*ls.length) (b:=2*((eB ls l+(aG ls).length-1)%(aG ls).length)) aa
   have n8:=cS (n:=2*ls.length+2*((eB ls l+(aG ls).length-1)%(aG ls).length)) aa;cases fw with
   |true=>
    have fD:v=(d/2+1)%ls.length:=fD;cases Na:dn ls v with
    |true=>rw[Na] at fg;rw[fD] at iF fg bY;simp only[go_sem,i101,m1,m3,m4,m5,h',r5,iF,Let.ps,iY,df,jX,fR,eO,fg,bY,n1,n2];exact aJ
    |false=>rw[Na] at fg;rw[fD] at iF fg bY;simp only[go_sem,i101,m1,m3,m4,m5,h',r5,iF,Let.ps,iY,df,jX,fR,eO,fg,bY,n3,n4,n5,n6,n7,n8,Nv];exact aJ
   |false=>
    have fD:v=d/2:=fD;cases Na:dn ls v with
    |true=>rw[Na] at fg;rw[fD] at iF fg bY;simp only[go_sem,i101,m1,m3,h',r5,iF,Let.ps,df,jX,fR,eO,fg,bY,n3,n4,n5,n6,n7,n8,Nv];exact aJ
    |false=>rw[Na] at fg;rw[fD] at iF fg bY;simp only[go_sem,i101,m1,m3,h',r5,iF,Let.ps,df,jX,fR,eO,fg,bY,n1,n2];exact aJ
 have te:(if (d%2==0)=true then (d/2+1)%ls.length else d/2)<ls.length:=by
  split
  .exact pY
  omega
 have:=body _ te (d%2==0) rfl (by cases hq:(d%2==0)<;>simp at hq |- <;>omega);exact this
abbrev aW(ls:ai):Nat->Nat:=iC ls (aG ls)
def amY(ok:fA F ls){Q:dO}:
  ∀(fuel x:Nat) (sn:m_) (ak:Env) (aj:aB),ak 0=.one (.p (nY F ls))->ak 4=.one (.hsl 4928128064 1 1 0 sn.length)->aj 4928128064=(1,some (.arr 4 1 (bP sn)))->
   ak 7=vi x->x<sn.length->sn.length=2*ls.length+2*(aG ls).length->zB sn<fuel->
   (∀aF ao,aF 0=ak 0->aF 4=ak 4->aF 5=ak 5->aF 24=ak 24->aF 25=ak 25->ao 4928128064=(1,some (.arr 4 1 (bP (fp (aW ls) fuel x sn).2)))->Q .normal aF ao)->
   W S .all (.loop i77_l1) (nh 2 Q) ak aj:=by
 have gR:(aG ls).length<=1000000:=mY (xv ls ls.length) ok.hl;have kQ:∀x∈aG ls,x<ls.length:=fun x h=>Pk h;have hp:∀v l,ls[v]?=some l->(l.kind==2)=false->v∈aG ls:=fun v l hv h2=>ui.2 ⟨l,hv,ok.QZ hv h2⟩;intro fuel
 induction fuel with
 |zero=>intro x sn ak aj _ _ _ _ _ _ h;omega
 |succ fuel ih=>
  intro x sn ak aj h0 h4 hS h7 hx hsl hu hq;obtain⟨b,hb⟩:=aM hx;have lD:=tF hb;have As:sn.getD x true=b:=by rw[dA,hb];rfl
  unfold fp at hq;rw[As] at hq;refine sF ?_;cases b with
  |true=>simp only[go_sem,i77_l1,h4,hS,h7,hx,lD];refine hq _ _ ?_ ?_ ?_ ?_ ?_ hS;all_goals simp only[go_sem,h4]
  |false=>
   have Fz:=OO hb;have pt:=abj ok x aa;have jZ:=SB (d:=x) kQ hp aa;have iG:=Jb sn x true;simp only[go_sem,i77_l1,h0,h4,hS,h7,hx,lD,iG,s101,eT pt];refine ih (iC ls (aG ls) x) (sn.set x true) _ _ ?_ ?_ ?_ ?_ (by simpa [hsl] using jZ) (by simpa using hsl) aa ?_
   .simp only[go_sem,h0]
   .simp only[go_sem,h4,ud]
   .simp only[go_sem]
   .simp only[go_sem]
   intro aF ao q0 q4 q5 rH Ci b1;refine hq aF ao ?_ ?_ ?_ ?_ ?_ b1
   .rw[q0];simp only[go_sem]
   .rw[q4];simp only[go_sem]
   .rw[q5];simp only[go_sem]
   .rw[rH];simp only[go_sem]
   rw[Ci];simp only[go_sem]
def am1(ok:fA F ls):aK S 77 [.one (.p (nY F ls))] (rb (mT ls==aq Let.aE ls+aq Let.aA ls/2+2)):=by
 have hl:=ok.hl;have gR:(aG ls).length<=ls.length:=xv ls ls.length;have m1:=u4 (a:=ls.length) aa;have m2:=u4 (a:=(aG ls).length) aa;have m3:=wrap_add (a:=2*ls.length) (b:=2*(aG ls).length) aa;have lI:2*ls.length+2*(aG ls).length<=140737488355328:=aa;have kV:List.replicate (2*ls.length+2*(aG ls).length) [PV.bool false]=bP (List.replicate (2*ls.length+2*(aG ls).length) false):=af;have jq:(qM ls ls.length).length=aq Let.aA ls/2:=by have:=ok.cr;unfold mO at this;simp only[cU,dk] at this;simp[qM,this.2]
 have uz:aq Let.aA ls<=ls.length:=sL _ _;refine bk c77 ?_;simp only[go_sem,i77,m1,m2,m3,lI,kV];refine⟨aJ,?_⟩;generalize hN:2*ls.length+2*(aG ls).length=N at lI;refine dy (fun k ak aj=>ak 0=.one (.p (nY F ls))/\ak 4=.one (.hsl 4928128064 1 1 0 N)/\aj 4928128064=(1,some (.arr 4 1 (bP (dX (aW ls) N k).2)))/\
   ak 5=vi (dX (aW ls) N k).1.length/\ak 24=vi N/\ak 25=vi k) 0 N (bG _) ?_ ?_
 .simp only[go_sem];exact⟨rfl,rfl,rfl⟩
 rintro k ak aj hk ⟨h0,h4,hS,h5,ko,nv⟩
 have hlen:=Is (aW ls) N k;have Ft:=OR (aW ls) N k;by_cases aw:k<N
 .have aL:((k:Int)<(N:Int)):=aa;have w1:=cS (n:=k) aa;have hs:=zC (aW ls) N k;generalize cV:dX (aW ls) N k=st at hlen hs hS h5 Ft;obtain⟨out,sn⟩:=st;simp only at hlen hS h5 Ft;obtain⟨b,hb⟩:=aM (ls:=sn) (k:=k) aa;have lD:=tF hb;unfold vR at hs;have As:sn.getD k true=b:=by rw[dA,hb];rfl
  simp only[As] at hs;cases b with
  |true=>have hs:dX (aW ls) N (k+1)=(out,sn):=hs;simp only[go_sem,i77_l3,i77_r2,h0,h4,hS,h5,ko,nv,aw,aL,lD,w1,hs]
  |false=>
   have hs:dX (aW ls) N (k+1)=(out++[(fp (aW ls) (N+1) k sn).1],(fp (aW ls) (N+1) k sn).2):=by rw[hs,hlen];rfl
   have hul:=Lp sn;have w2:=cS (n:=out.length) aa;simp only[go_sem,i77_l3,h4,hS,h5,ko,nv,aw,aL,lD,w2];refine amY ok (N+1) k sn _ _ ?_ ?_ ?_ ?_ aa aa aa ?_
   .simp only[go_sem,h0]
   .simp only[go_sem,h4,hlen]
   .simp only[go_sem,hS]
   .simp only[go_sem]
   intro aF ao q0 q4 q5 rH Ci b1;simp only[go_sem,h0,h4,h5,ko,nv] at q0 q4 q5 rH Ci;simp only[go_sem,i77_r2,q0,q4,q5,rH,Ci,b1,w1,hs,aw];simp
 have:k=N:=aa;subst this;have he:mT ls=(dX (aW ls) k k).1.length:=by unfold mT gU aW;rw[hN]
 rw[<- he] at h5;have w3:=wrap_add (a:=(aG ls).length) (b:=aq Let.aA ls/2) aa;have w4:IntKind.i64.wrap ((((aG ls).length+aq Let.aA ls/2:Nat):Int)+2)=(((aG ls).length+aq Let.aA ls/2+2:Nat):Int):=wrap_add (a:=(aG ls).length+aq Let.aA ls/2) (b:=2) aa;have hb:(((mT ls:Nat):Int)==(((aG ls).length+aq Let.aA ls/2+2:Nat):Int))=(mT ls==aq Let.aE ls+aq Let.aA ls/2+2):=by
  rw[Gx];cases h:(mT ls==aq Let.aE ls+aq Let.aA ls/2+2) with
  |true=>simp at h |-;omega
  |false=>simp at h |-;omega
 simp only[go_sem,i77_l3,i77_r4,h0,h5,ko,nv,eI,AR,jq,w3,w4,hb];exact aJ
abbrev LK(id:Nat):Prop:=id=1664320128\/(jO id=49\/jO id=75\/jO id=76)
def alQ(F:Nat)(ls:ai)(g:Nat)(aj:aB):Prop:= ∃g1 g2 g3 g4 g5,
 aj 1664320128=(g,some (.var (wx F ls (hs 4800128448 g2 ls.length) (hs 4801344128 g5 (aG ls).length) (hs 4800192448 g3 ls.length) (.kU 4864256064 g4) (hs 4800064448 g1 (F+1)))))/\
 aj 4800064448=(g1,some (.arr 3 1 (nP (counts ls F))))/\aj 4800128448=(g2,some (.arr 4 1 (bP (ll ls))))/\aj 4800192448=(g3,some (.arr 3 1 (nP (j8 ls ls.length))))/\
 aj 4801344128=(g5,some (.arr 3 1 (nP (aG ls))))/\aj 4864256064=(g4,some (.map true (qM ls ls.length)))
def SD(F:Nat)(ls:ai):Bool:=decide (ls=[])||mE F ls
def YX(F:Nat)(ls:ai)(g:Nat)(oU:aB)(v:V)(ao:aB):Prop:=v=vb (SD F ls)/\Kept LK oU ao/\(ls≠[]->mE F ls=true->alQ F ls g ao)/\(ls=[]->ao 1664320128=oU 1664320128)
def YF:S.sites 49=[49,75,76]:=ah
def ahP:S.sites 75=[75]:=ah
def ahQ:S.sites 76=[76]:=ah
def Kept.SI{K K':Nat->Prop}{a b:aB}(h:Kept K a b)(hk:∀id,K id->K' id):Kept K' a b:=fun id hn=>h id fun hh=>hn (hk id hh)
abbrev Ed(g:Nat):List f_:=[[.hfn 73 [.aZ 1664320128 g 0] []],[.hfn 74 [.aZ 1664320128 g 0] []],[.hfn 75 [.aZ 1664320128 g 0] []],[.hfn 76 [.aZ 1664320128 g 0] []],[.hfn 77 [.aZ 1664320128 g 0] []]]
section
variable {al:Al} {Q:dO} {ak:Env} {aj:aB} {g g0:Nat}
def Za(k:Nat){f:Nat}{dv:PV}{r:a_}{b:Bool}(hk:k<5)(hf:(Ed g)[k]?=some [.hfn f [.aZ 1664320128 g 0] []])(Kj:S.shared f=false)(oV:al.ok 3136192640=true)
  (rZ:ak 22=.one (hs 3136192640 g0 5)) (mr:ak 23=vi 5) (ko:ak 24=vi k) (bV:aj 3136192640=(g0,some (.ju 26 1 (Ed g))))
  (lJ:pN aj (.one (.aZ 1664320128 g 0))=some (.one (.p dv),r)) (hr:al.fP r=true) (hp:aK S f [.one (.p dv)] (rb b))
  (WI:b=false->∀aF,aF 2=vb false->Q .ret aF aj)
  (Xj:b=true->∀aF,aF 22=.one (hs 3136192640 g0 5)->aF 23=vi 5->aF 24=vi ((k+1:Nat):Int)->W S al (.loop i49_l1) Q aF aj):W S al (.loop i49_l1) Q ak aj:=by
 refine sF ?_;have aw:((k:Int)<5):=aa;have w1:=cS (n:=k) aa;cases b with
 |false=>simp only[go_sem,i49_l1,rZ,mr,ko,bV,aw,hk,hf,Kj,oV,↓lJ,adp hp,hr];exact WI rfl _ (by simp only[go_sem])
 |true=>
  simp only[go_sem,i49_l1,rZ,mr,ko,bV,aw,hk,hf,Kj,oV,↓lJ,adp hp,hr,w1];refine Xj rfl _ ?_ ?_ ?_
  .simp only[go_sem,rZ]
  .simp only[go_sem,mr]
  simp only[go_sem]
def aiz(k:Nat){f:Nat}{P:V->aB->Prop}{b:Bool}(hk:k<5)(hf:(Ed g)[k]?=some [.hfn f [.aZ 1664320128 g 0] []])(Kj:S.shared f=true)(oV:al.ok 3136192640=true)
  (rZ:ak 22=.one (hs 3136192640 g0 5)) (mr:ak 23=vi 5) (ko:ak 24=vi k) (bV:aj 3136192640=(g0,some (.ju 26 1 (Ed g))))
  (hh:al.holds (allow (S.ctx al) f [.one (.aZ 1664320128 g 0)] aj)=true) (h:∃v ao,jm S f [.one (.aZ 1664320128 g 0)] (allow (S.ctx al) f [.one (.aZ 1664320128 g 0)] aj) aj v ao/\P v ao)
  (hP:∀v ao,P v ao->v=vb b)
  (WI:b=false->∀v aF ao,P v ao->aF 2=vb false->Q .ret aF ao)
  (Xj:b=true->∀v aF ao,P v ao->aF 22=.one (hs 3136192640 g0 5)->aF 23=vi 5->aF 24=vi ((k+1:Nat):Int)->W S al (.loop i49_l1) Q aF ao):W S al (.loop i49_l1) Q ak aj:=by
 refine sF ?_;have aw:((k:Int)<5):=aa;have w1:=cS (n:=k) aa;simp only[go_sem,i49_l1,rZ,mr,ko,bV,aw,hk,hf,Kj,oV];refine sR hh h fun v ao hp=>?_;have hv:=hP v ao hp;subst hv;cases b with
 |false=>simp only[go_sem];exact WI rfl _ _ _ hp (by simp only[go_sem])
 |true=>
  simp only[go_sem,ko,w1];refine Xj rfl _ _ _ hp ?_ ?_ ?_
  .simp only[go_sem,rZ]
  .simp only[go_sem,mr]
  simp only[go_sem]
end
def avD{al:Al}(okD:al.ok 1664320128=true)(okf:∀id,(jO id=49\/jO id=75\/jO id=76)->al.ok id=true)(f1:al.fs.contains 75=true)(f2:al.fs.contains 76=true)
  {aj:aB} {g F:Nat} {ls:ai} (hl:ls.length<=1000000) (hF:F<=1000000)
  (bD:aj 1664320128=(g,some (.var (wx F ls (.p .nils) (.p .nils) (.p .nils) (.p .sA) (.p .nils))))):∃v ao,jm S 49 [.one (.aZ 1664320128 g 0)] al aj v ao/\YX F ls g aj v ao:=by
 have oV:=okf 3136192640 (.inl rfl);refine nT c49 (iA rfl) ?_;by_cases he:ls=[]
 .subst he;have hz:(((0:Nat):Int)==0)=true:=ae;simp only[go_sem,i49,bD,hz,okD];exact⟨rfl,Kept.refl _ _,fun h=>absurd rfl h,fun _=>rfl⟩
 have jU:=jl.2 he;have HB:(((ls.length:Nat):Int)==0)=false:=by simp;omega
 obtain⟨l0,h0⟩:=aM jU;have pV:decide (ls=[])=false:=by simp[he]
 have pl:=alR F ls (.sl []) (.sl []) (.sl []) .sA (.sl []) hl ⟨rfl,rfl,rfl,rfl,rfl⟩;have pb:=alL F ls l0 (.sl []) (.sl []) (.sl []) .sA (.sl []) hl h0;have ad9:=XK (F:=F) (ls:=ls);have fail:∀aF ao,Kept LK aj ao->mE F ls=false->aF 2=vb false->nh 0 (zy S al i49_r2 (nj al [(2,none)] (YX F ls g aj))) .ret aF ao:=fun aF ao hk hv h2=>by simp only[go_sem,h2];exact⟨by rw[SD,pV,hv];rfl,hk,fun _ h=>(by rw[hv] at h;cases h),fun h=>absurd h he⟩
 have noL:xU F ls=false->mE F ls=false:=fun h=>by simp[mE,h]
 have X2:¬(ls.any (dL F)=false/\zq ls=true/\mO ls=true)->mE F ls=false:=fun h=>noL (by
  cases hq:xU F ls with
  |false=>rfl
  |true=>exact absurd (ad9.1 hq) h)
 simp only[go_sem,i49,bD,HB,okD,oV];have df:Kept LK aj (dU aj 3136192640 ((aj 3136192640).1+1,some (.ju 26 1 (Ed g)))):=Kept.dU (Kept.refl _ _) (.inr (.inl rfl)) _;generalize dw:dU aj 3136192640 ((aj 3136192640).1+1,some (.ju 26 1 (Ed g)))=bU;rw[dw] at df;have bV:bU 3136192640=((aj 3136192640).1+1,some (.ju 26 1 (Ed g))):=by rw[<- dw];simp only[go_sem]
 have bD:bU 1664320128=(g,some (.var (wx F ls (.p .nils) (.p .nils) (.p .nils) (.p .sA) (.p .nils)))):=by rw[<- dw];simp only[go_sem,bD]
 clear dw;have lJ:pN bU (.one (.aZ 1664320128 g 0))=some (.one (.p (dgP F ls (.sl []) (.sl []) (.sl []) .sA (.sl []))),[1664320128]):=by simp only[go_sem,bD]
 have oE:al.fP [1664320128]=true:=by simp only[go_sem,okD]
 refine Za 0 aa rfl s73 oV (by simp only[go_sem]) (by simp only[go_sem];rfl) (by simp only[go_sem];rfl) bV lJ oE pl (fun hb aF h2=>fail aF bU df (X2 fun h=>by simp[h.1] at hb) h2) (fun hb aF AY uU rH=>?_);have dw:ls.any (dL F)=false:=by simpa using hb
 have sT:∀l∈ls,dL F l=false:=fun l hl=>by simpa using IA.1 dw l hl
 have hg:rY F ls:=fun l hl hp=>((sB hp).1 (sT l hl)).1.1.1;refine Za 1 aa rfl s74 oV AY uU rH bV lJ oE pb (fun hb aF h2=>fail aF bU df (by simp only[mE,h0,hb];rfl) h2) (fun hbg aF AY uU rH=>?_);clear hb;have NS:jN bU (.one (.aZ 1664320128 g 0))=[1664320128]:=by rw[K5 bD];simp[K4]
 refine aiz (b:=zq ls) 2 aa rfl ah oV AY uU rH bV ?_ (asI (tD (by simp[NS])) (fun id h=>vZ (by rw[ahP,h];rfl)) hl hF hg bD) (fun v ao h=>h.1) ?_ ?_
 .refine holds_of ?_ ?_
  .show al.fP ([V.one (.aZ 1664320128 g 0)].map (jN bU)).flatten=true;simp only[eh,lQ,NS,mX,IE,jA];exact oE
  show(S.sites 75).all al.fs.contains=true;rw[ahP];simp only[mH,pQ,f1];rfl
 .intro hb v aF ao hp h2;exact fail aF ao (df.trans (hp.2.1.SI fun id h=>h.elim .inl fun h=>.inr (.inr (.inl h)))) (X2 fun h=>by rw[h.2.1] at hb;cases hb) h2
 intro my v aF bh hp AY uU rH;obtain⟨_,jT,wJ⟩:=hp;obtain⟨g1,g2,g3,g5,bD,bC,bW,qy,bA⟩:=wJ my;have kQ:CL F ls:=by obtain⟨a,b⟩:=(OD hg).1 my;exact⟨a,b⟩
 rw[aj6 kQ] at bA;rw[Gn hg] at bD;have bV:bh 3136192640=((aj 3136192640).1+1,some (.ju 26 1 (Ed g))):=by rw[<- bV];exact jT _ ae
 have ad5:Kept LK aj bh:=df.trans (jT.SI fun id h=>h.elim .inl fun h=>.inr (.inr (.inl h)));have oC:=okf 4800064448 (.inr (.inl rfl));have oW:=okf 4800128448 (.inr (.inl rfl));have oP:=okf 4800192448 (.inr (.inl rfl));have oA:=okf 4801344128 (.inr (.inl rfl));have oM:=okf 4864256064 (.inr (.inr rfl));have NT:jN bh (.one (.aZ 1664320128 g 0))=[1664320128,4800128448,4801344128,4800192448,4800064448]:=by rw[K5 bD];simp only[eh,lQ,K4,DW bW,DW bA,DW qy,DW bC,mX,IE,fZ,jA,mW]
 refine aiz (b:=mO ls) 3 aa rfl ah oV AY uU rH bV ?_ (alN (tD (by simp[NT])) (fun id h=>vZ (by rw[ahQ,h];rfl)) hl bD) (fun v ao h=>h.1) ?_ ?_
 .refine holds_of ?_ ?_
  .show al.fP ([V.one (.aZ 1664320128 g 0)].map (jN bh)).flatten=true;simp only[eh,lQ,NT,mX,IE,jA,KQ,Ia,okD,oC,oW,oP,oA,yg]
  show(S.sites 76).all al.fs.contains=true;rw[ahQ];simp only[mH,pQ,f2];rfl
 .intro hb v aF ao hp h2;exact fail aF ao (ad5.trans (hp.2.1.SI fun id h=>h.elim .inl fun h=>.inr (.inr (.inr h)))) (X2 fun h=>by rw[h.2.2] at hb;cases hb) h2
 intro eV v aF ig hp AY uU rH;obtain⟨_,hk3,hr3⟩:=hp;obtain⟨g4,bD,bM⟩:=hr3 eV;have kp:∀id,jO id=75->ig id=bh id:=fun id h=>hk3 id (by
  rintro (e|e)
  .rw[e] at h;revert h;decide
  rw[e] at h;revert h;decide)
 rw[<- kp _ rfl] at bC bW qy bA;have bV:ig 3136192640=((aj 3136192640).1+1,some (.ju 26 1 (Ed g))):=by rw[<- bV];exact hk3 _ ae
 have ad6:Kept LK aj ig:=ad5.trans (hk3.SI fun id h=>h.elim .inl fun h=>.inr (.inr (.inr h)));have ok:fA F ls:=⟨hl,kQ,eV,fun l hl=>v7 (sT l hl)⟩;have pf:=am1 ok;have hlR:xU F ls=true:=ad9.2 ⟨dw,my,eV⟩;have hvr:mE F ls=(mT ls==aq Let.aE ls+aq Let.aA ls/2+2):=by
  have adN:(l0.kind==1)=true/\(aq Let.aE ls%2==0)=true:=by simpa using hbg
  simp only[mE,h0,adN.1,adN.2,hlR,Eg]
 have t1:List.take ls.length (bP (ll ls))=bP (ll ls):=iz (by simp[ll]);have t2:List.take (aG ls).length (nP (aG ls))=nP (aG ls):=iz af;have t3:List.take ls.length (nP (j8 ls ls.length))=nP (j8 ls ls.length):=iz (by simp[j8]);have t4:List.take (F+1) (nP (counts ls F))=nP (counts ls F):=iz (by simp[counts]);have n1:ls.length<=(ll ls).length:=by simp[ll]
 have n3:ls.length<=(j8 ls ls.length).length:=by simp[j8]
 have n4:F+1<=(counts ls F).length:=by simp[counts]
 have lJ:pN ig (.one (.aZ 1664320128 g 0))=some (.one (.p (nY F ls)),[1664320128,4800128448,4801344128,4800192448,4864256064,4800064448]):=by simp only[go_sem,ah1,bD,bW,bA,qy,bC,bM,YL,t1,t2,t3,t4,n1,n3,n4]
 have oE:al.fP [1664320128,4800128448,4801344128,4800192448,4864256064,4800064448]=true:=by simp only[KQ,Ia,okD,oC,oW,oP,oA,oM,yg]
 refine Za 4 aa rfl s77 oV AY uU rH bV lJ oE pf (fun hb aF h2=>fail aF ig ad6 (by rw[hvr];exact hb) h2) (fun yV aF AY uU rH=>?_);have hv:mE F ls=true:=by rw[hvr];exact yV
 refine sF ?_;have n5:¬((((4+1:Nat)):Int)<5):=ae;simp only[go_sem,i49_l1,i49_r2,uU,rH,n5];exact⟨by rw[SD,pV,hv];rfl,ad6,fun _ _=>⟨g1,g2,g3,g4,g5,bD,bC,bW,qy,bA,bM⟩,fun h=>absurd h he⟩
abbrev Aa(f:Int):PV:=dgP f [] (.sl []) (.sl []) (.sl []) .sA (.sl [])
abbrev uV(a b:PV):RV:=.tup [.one (.p a),.one (.p b)]
def K6(f:Int)(ls:ai):RV:=if bQ f ls=0 then uV (if ls=[] then Aa f else nY f.toNat ls) (.int .i64 0) else uV .vJ (.int .i64 (bQ f ls))
def iB{aj:aB}{s:Nat}{a b:PV}{l:Bool}:land aj [] s ((uV a b).gJ l)=some (.tup [.one (.p a),.one (.p b)],[]):=by cases l<;>rfl
def OE{f:Int}{e:Int}(h:bQ f ls=e)(he:e≠0):K6 f ls=uV .vJ (.int .i64 e):=by unfold K6;rw[h,ay he]
def OF{f:Int}(h:bQ f ls=0):K6 f ls=uV (if ls=[] then Aa f else nY f.toNat ls) (.int .i64 0):=by unfold K6;rw[aD h]
def R5(f:Int)(ls:ai)(hl:ls.length<=1000000):aK S 26 [dY f ls] (K6 f ls):=by
 have pc:=T1 f ls hl;refine bk c26 ?_;by_cases h1:400<ls.length
 .have kn:(400:Int)<(ls.length:Int):=aa;rw[OE (e:=7) (by unfold bQ;rw[aD (Or.inl h1)]) ae];simp only[go_sem,i26,kn];rfl
 have kn:¬(400:Int)<(ls.length:Int):=aa;by_cases h2:200<aq Let.aA ls
 .have jH:(200:Int)<(aq Let.aA ls:Int):=aa;rw[OE (e:=7) (by unfold bQ;rw[aD (Or.inr h2)]) ae];simp only[go_sem,i26,kn,jH,s48,eT pc];rfl
 have jH:¬(200:Int)<(aq Let.aA ls:Int):=aa;have n1:¬(400<ls.length\/200<aq Let.aA ls):=aa;by_cases h3:f<0
 .rw[OE (e:=2) (by unfold bQ;rw[ay n1,aD (Or.inl h3)]) ae];simp only[go_sem,i26,kn,jH,h3,s48,eT pc];rfl
 by_cases h4:40<f
 .rw[OE (e:=2) (by unfold bQ;rw[ay n1,aD (Or.inr h4)]) ae];simp only[go_sem,i26,kn,jH,h3,h4,s48,eT pc];rfl
 have n2:¬(f<0\/40<f):=aa;obtain⟨F,rfl⟩:=tA (show 0<=f by omega);have jI:S.shared 49=true:=ah;simp only[go_sem,i26,kn,jH,h3,h4,s48,eT pc,jI];refine sR (P:=YX F ls 1 _) Az (avD (F:=F) (ls:=ls) ?_ ?_ ?_ ?_ hl aa ?_) ?_
 .refine tD ?_;rw[eh,lQ,K5 (g0:=1) (cs:=wx F ls (.p .nils) (.p .nils) (.p .nils) (.p .sA) (.p .nils)) (by simp only[go_sem])];simp
 .intro id h;refine vZ ?_;rw[YF];rcases h with h|h|h<;>rw[h]<;>rfl
 .show(S.sites 49).contains _=true;rw[YF];rfl
 .show(S.sites 49).contains _=true;rw[YF];rfl
 .simp only[go_sem]
 rintro v ao ⟨rfl,hk,hr,hz⟩
 unfold SD;by_cases he:ls=[]
 .have hc:bQ F ls=0:=by unfold bQ;rw[ay n1,ay n2,aD he]
  have bD:=hz he;rw[OF hc,aD he];have pV:(decide (ls=[])||mE F ls)=true:=by simp[he]
  rw[pV];subst he;simp only[go_sem] at bD;simp only[go_sem];simp only[go_sem,jd,tH,vn,oX,nG,jM,bD];rfl
 have pV:decide (ls=[])=false:=by simp[he]
 cases hv:mE F ls with
 |false=>rw[OE (e:=3) (by unfold bQ;rw[ay n1,ay n2,ay he,hv];rfl) ae];rw[pV,Cw];simp only[go_sem];rfl
 |true=>
  have hc:bQ F ls=0:=by unfold bQ;rw[ay n1,ay n2,ay he,hv];rfl
  rw[OF hc,ay he];obtain⟨g1,g2,g3,g4,g5,bD,bC,bW,qy,bA,bM⟩:=hr he hv;have hFn:(F:Int).toNat=F:=rfl;rw[hFn];have t1:List.take ls.length (bP (ll ls))=bP (ll ls):=iz (by simp[ll]);have t2:List.take (aG ls).length (nP (aG ls))=nP (aG ls):=iz af;have t3:List.take ls.length (nP (j8 ls ls.length))=nP (j8 ls ls.length):=iz (by simp[j8]);have t4:List.take (F+1) (nP (counts ls F))=nP (counts ls F):=iz (by simp[counts]);have n1:ls.length<=(ll ls).length:=by simp[ll]
  have n3:ls.length<=(j8 ls ls.length).length:=by simp[j8]
  have n4:F+1<=(counts ls F).length:=by simp[counts]
  rw[pV,Cw];simp only[go_sem];simp only[go_sem,jd,tH,vn,oX,nG,jM,ah1,bD,bW,bA,qy,bC,bM,YL,t1,t2,t3,t4,n1,n3,n4];rfl
def aaw(f:Int)(ls:ai)(hl:ls.length<=1000000):aK S 28 [dY f ls] (ri (bQ f ls)):=by
 have pr:=R5 f ls hl;refine bk c28 ?_;unfold K6 at pr;by_cases h:bQ f ls=0
 .rw[aD h] at pr;simp only[go_sem,i28,s26,de pr iB,h]
 rw[ay h] at pr;simp only[go_sem,i28,s26,de pr iB]
abbrev lL(k a b c:Int)(l o:Bool)(s:Int):V:=.agg [.p (.int .i64 k),.p (.int .i64 a),.p (.int .i64 b),.p (.int .i64 c),.p (.bool l),.p (.bool o),.p (.int .i64 s)]
abbrev nJ(e:Int):RV:=.tup [.agg [.p (.int .i64 0),.p .nils],.one (.p (.int .i64 e))]
def apL{aj:aB}{s:Nat}{e:Int}{l:Bool}:land aj [] s ((nJ e).gJ l)=some (.tup [.agg [.p (.int .i64 0),.p .nils],.one (.p (.int .i64 e))],[]):=by cases l<;>rfl
section
variable {f:Int} {ls:ai} {e:Int}
abbrev kinds(k:Nat):a_:=(List.range k).map (· +1)
end
def gE(n v:Nat)(fw:Bool):Nat:=if fw then 2*((v+n-1)%n) else 2*v+1
def lvV(n e:Nat):Nat:=if e%2=0 then e/2 else (e/2+1)%n
def vH{n v:Nat}(hv:v<n):((v+n-1)%n+1)%n=v:=by
 by_cases h:v=0
 .subst h;rw[js,gY (show n-1<n by omega),show n-1+1=n by omega,En]
 rw[show v+n-1=(v-1)+n by omega,qV,gY (show v-1<n by omega),show v-1+1=v by omega,gY hv]
def xY{n v:Nat}(hv:v<n):((v+1)%n+n-1)%n=v:=by
 by_cases h:v+1=n
 .rw[h,En,js,gY (show n-1<n by omega)];omega
 rw[gY (show v+1<n by omega),show v+1+n-1=v+n by omega,qV,gY hv]
def afY{n v:Nat}(hv:v<n)(g:Bool):lvV n (dF n v g)=v/\(dF n v g%2==0)=g:=by
 unfold lvV dF;cases g with
 |true=>have h1:(2*v)%2=0:=aa;simp only[if_true,h1];exact⟨aa,rfl⟩
 |false=>have h1:(2*((v+n-1)%n)+1)%2=1:=aa;have h2:(2*((v+n-1)%n)+1)/2=(v+n-1)%n:=aa;simp only[dN,if_false,h1,h2,Nat.one_ne_zero,vH hv];exact⟨trivial,rfl⟩
def KY(ls:ai)(ax:a_)(e:Nat):Nat:=
 if 2*ls.length<=e then
  if e%2=0 then gE ls.length (ax.getD ((e-2*ls.length)/2) 0) (dn ls (ax.getD ((e-2*ls.length)/2) 0))
  else gE ls.length (ax.getD (((e-2*ls.length)/2+1)%ax.length) 0) (!dn ls (ax.getD (((e-2*ls.length)/2+1)%ax.length) 0))
 else
  let v:=lvV ls.length e
  let g:=e%2==0
  match ls[v]? with
  |none=>0
  |some l=>if l.kind==2 then
    match ls[fJ ls v]? with
    |some u=>gE ls.length (fJ ls v) (g==(u.over==(u.sign==1)))
    |none=>0
   else if g==dn ls v then 2*ls.length+2*ax.idxOf v+1 else 2*ls.length+2*((ax.idxOf v+ax.length-1)%ax.length)
def sC(hr:mO ls=true){i:Nat}{l:Let}(hl:ls[i]?=some l)(hc:l.aA=true):fJ ls (fJ ls i)=i/\ ∃m,ls[fJ ls i]?=some m/\m.aA=true/\m.id=l.id/\m.over= !l.over/\m.sign=l.sign:=by
 obtain⟨h1,h2⟩:=Ro hr hl hc;obtain⟨_,h3⟩:=Ir h1;obtain⟨m,hm,mc,mi,mo⟩:=BB h3;have hp:Ib ls:=by have:=hr;unfold mO at this;simp only[cU,dk,gO,gV] at this;exact(Ix.1 this.1.2).2
 have aI:i≠fJ ls i:=by intro e;rw[<- e,hl] at hm;cases hm;revert mo;cases l.over<;>simp
 obtain⟨h4,h5⟩:=Ro hr hm mc;obtain⟨_,h6⟩:=Ir h4;obtain⟨x,hx,xc,xi,xo⟩:=BB h6;refine⟨?_,m,hm,mc,mi,mo,((hp i _ l m hl hm hc mc mi.symm aI).2).symm⟩;refine Decidable.byContradiction fun hn=>?_;have:=(hp _ i x l hx hl xc hc (by rw[xi,mi]) hn).1;rw[xo,mo] at this;revert this;cases l.over<;>simp
def ait{ax:a_}{d v:Nat}{fw:Bool}{l:Let}(h:¬2*ls.length<=d)(yW:(d%2==0)=fw)(hv:v=if fw then (d/2+1)%ls.length else d/2)(hl:ls[v]?=some l):
  iC ls ax d=if l.kind==2 then dF ls.length (fJ ls v) (fw==(l.over==(l.sign==1)))
   else if dn ls v==fw then 2*ls.length+2*ax.idxOf v else 2*ls.length+2*((ax.idxOf v+ax.length-1)%ax.length)+1:=by
 subst yW;subst hv;unfold iC;rw[ay h];simp only[hl]
def ag4(ok:fA F ls){d:Nat}(hd:d<2*ls.length+2*(aG ls).length):KY ls (aG ls) (iC ls (aG ls) d)=d:=by
 have kQ:∀x∈aG ls,x<ls.length/\ ∃l,ls[x]?=some l/\l.aE=true:=fun x hx=>by obtain⟨l,h1,h2⟩:=ui.1 hx;exact⟨(aT.1 h1).1,l,h1,h2⟩
 have WL:∀ {p v:Nat},(aG ls)[p]?=some v->(aG ls).idxOf v=p:=fun {p v} hp=>by obtain⟨l,hl,Dz,he⟩:=Bk ok.ax hp;rw[Gy ok.ax hl Dz,he]
 have along_small:∀ {v:Nat} (g:Bool),v<ls.length-> ¬2*ls.length<=dF ls.length v g:=fun {v} g hv=>by have:=IV (n:=ls.length) (fw:=g) hv;omega
 have notC:∀ {l:Let},l.aE=true->(l.kind==2)=false:=fun {l} h=>qN h;have fromAxis:∀ {p v:Nat} (g:Bool),(aG ls)[p]?=some v->KY ls (aG ls) (dF ls.length v g)=if g==dn ls v then 2*ls.length+2*p+1 else 2*ls.length+2*((p+(aG ls).length-1)%(aG ls).length):=by intro p v g hp;obtain⟨hv,l,hl,Dz⟩:=kQ v (aV hp);obtain⟨e1,e2⟩:=afY hv g;unfold KY;rw[ay (along_small g hv)];simp only[e1,e2,hl,notC Dz,WL hp];rfl
 by_cases h:2*ls.length<=d
 .unfold iC;rw[aD h];have hm:=dr ((d-2*ls.length)/2+1) (show 0<(aG ls).length by omega);by_cases h2:d%2=0
  .rw[aD h2];obtain⟨v,hv⟩:=aM hm;have qJ:(aG ls).getD (((d-2*ls.length)/2+1)%(aG ls).length) 0=v:=by rw[dA,hv];rfl
   rw[qJ,fromAxis _ hv];have hb:((!dn ls v)==dn ls v)=false:=by cases dn ls v<;>rfl
   rw[hb,xY (show(d-2*ls.length)/2<(aG ls).length by omega)];simp only[dN,if_false];omega
  rw[ay h2];obtain⟨v,hv⟩:=aM (ls:=aG ls) (k:=(d-2*ls.length)/2) aa;have qJ:(aG ls).getD ((d-2*ls.length)/2) 0=v:=by rw[dA,hv];rfl
  rw[qJ,fromAxis _ hv];simp only[Cy,if_true];omega
 have hn:0<ls.length:=aa;have pY:=dr (d/2+1) hn;have key:∀(v:Nat) (fw:Bool),v<ls.length->(d%2==0)=fw->v=(if fw then (d/2+1)%ls.length else d/2)->gE ls.length v fw=d:=by
  intro v fw hv yW fD;unfold gE;cases fw with
  |true=>
   have yW:d%2=0:=by simpa using yW
   simp only[if_true] at fD |-;rw[fD,xY (show d/2<ls.length by omega)];omega
  |false=>
   have yW:d%2≠0:=by simpa using yW
   simp only[dN,if_false] at fD |-;omega
 generalize hv:(if (d%2==0)=true then (d/2+1)%ls.length else d/2)=v;generalize yW:(d%2==0)=fw at hv;have te:v<ls.length:=by rw[<- hv];split<;>omega
 have Fp:=key v fw te yW hv.symm;obtain⟨l,hl⟩:=aM te;rw[ait h yW hv.symm hl];cases hk:(l.kind==2) with
 |true=>
  have hc:l.aA=true:=hk;obtain⟨hb,m,hm,mc,mi,mo,ms⟩:=sC ok.cr hl hc;have NK:=(Ro ok.cr hl hc).2;rw[aD rfl];obtain⟨e1,e2⟩:=afY NK (fw==(l.over==(l.sign==1)));unfold KY;rw[ay (along_small _ NK)];have mk:(m.kind==2)=true:=mc;simp only[e1,e2,hm,mk,if_true,hb,hl];have xG:((fw==(l.over==(l.sign==1)))==(l.over==(l.sign==1)))=fw:=by cases fw<;>cases (l.over==(l.sign==1))<;>rfl
  rw[xG];exact Fp
 |false=>
  have hp:=ok.QZ hl hk;have Dv:=Gy ok.ax hl hp;have bY:=Pm ok.ax hl hp;have hpT:=(aT.1 bY).1;rw[ay af,Dv];cases hq:(dn ls v==fw) with
  |true=>
   simp only[if_true];unfold KY;rw[aD aa,aD aa];have e1:(2*ls.length+2*eB ls l-2*ls.length)/2=eB ls l:=aa;have e2:(aG ls).getD (eB ls l) 0=v:=by rw[dA,bY];rfl
   rw[e1,e2,show dn ls v=fw by simpa using hq];exact Fp
  |false=>
   have jq:=dr (eB ls l+(aG ls).length-1) (show 0<(aG ls).length by omega);simp only[dN,if_false];unfold KY;rw[aD aa,ay aa];have e1:(2*ls.length+2*((eB ls l+(aG ls).length-1)%(aG ls).length)+1-2*ls.length)/2=(eB ls l+(aG ls).length-1)%(aG ls).length:=aa;have e2:(aG ls).getD (eB ls l) 0=v:=by rw[dA,bY];rfl
   rw[e1,vH hpT,e2,show(!dn ls v)=fw by revert hq;cases dn ls v<;>cases fw<;>simp];exact Fp
def avy(ok:fA F ls){d e:Nat}(hd:d<2*ls.length+2*(aG ls).length)(he:e<2*ls.length+2*(aG ls).length)(h:aW ls d=aW ls e):d=e:=by have h1:=ag4 ok hd;have h2:=ag4 ok he;rw[<- h1,<- h2];exact congrArg _ h
def pwF(next:Nat->Nat)(n2:Nat):Nat->Nat->m_->a_×m_
 |0,_,sp=>([],sp)
 |k+1,x,sp=>if x<n2 then
   if sp.getD x true then ([],sp) else (x::(pwF next n2 k (next x) (sp.set x true)).1,(pwF next n2 k (next x) (sp.set x true)).2)
  else (x::(pwF next n2 k (next x) sp).1,(pwF next n2 k (next x) sp).2)
abbrev sn(S:m_)(x:Nat):Bool:=S.getD x true
def OL{S:m_}{y:Nat}(hx:x<S.length):sn (S.set x true) y=if y=x then true else sn S y:=by
 unfold sn;rw[dA,dA,qT];by_cases h:x=y
 .subst h;simp[hx]
 rw[ay h,ay (fun e=>h e.symm)]
structure zM (next:Nat->Nat) (n2 N:Nat):Prop where
 le:n2<=N
 lt:∀x,x<N->next x<N
 inj:∀x y,x<N->y<N->next x=next y->x=y
 ax:∀x,x<N->n2<=x->next x<n2
def LJ(next:Nat->Nat)(N:Nat)(S:m_):Prop:=∀y,y<N->sn S y=sn S (next y)
structure Inv (next:Nat->Nat) (N d:Nat) (S:m_) (x:Nat):Prop where
 i1:∀y,y<N->sn S (next y)=true->sn S y=true\/next y=d
 i2:∀y,y<N->sn S y=true->sn S (next y)=true\/next y=x
 i4:sn S x=true->x=d
 pr:(x=d/\sn S x=false)\/ ∃p,p<N/\next p=x/\sn S p=true
def Inv.start{next:Nat->Nat}{N d:Nat}{S:m_}(h:LJ next N S)(hd:sn S d=false):Inv next N d S d:=
 ⟨fun y hy hs=>.inl (by rw[h y hy];exact hs),fun y hy hs=>.inl (by rw[<- h y hy];exact hs),fun _=>rfl,.inl ⟨rfl,hd⟩⟩
def Inv.stop{next:Nat->Nat}{N d:Nat}{S:m_}(m:zM next n2 N)(h:Inv next N d S x)(hx:sn S x=true):LJ next N S:=by
 have hxd:=h.i4 hx;subst hxd;intro y hy;cases h1:sn S y with
 |true=>
  rcases h.i2 y hy h1 with h2|h2
  .rw[h2]
  rw[h2,hx]
 |false=>
  cases h2:sn S (next y) with
  |false=>rfl
  |true=>
   rcases h.i1 y hy h2 with h3|h3
   .rw[h3] at h1;cases h1
   rcases h.pr with ⟨_,h4⟩|⟨p,hp,j4,dR⟩
   .rw[hx] at h4;cases h4
   have:=m.inj y p hy hp (by rw[h3,j4]);rw[this,dR] at h1;cases h1
def Inv.step{next:Nat->Nat}{N d:Nat}{S:m_}(m:zM next n2 N)(hl:S.length=N)(BN:x<N)(h:Inv next N d S x)(hx:sn S x=false):Inv next N d (S.set x true) (next x):=by
 have wO:x<S.length:=aa;refine⟨fun y hy hs=>?_,fun y hy hs=>?_,fun hs=>?_,.inr ⟨x,BN,rfl,by rw[OL wO,aD rfl]⟩⟩
 .rw[OL wO] at hs |-;by_cases e:next y=x
  .rcases h.pr with ⟨h1,_⟩|⟨p,hp,j4,dR⟩
   .exact .inr (by rw[e,h1])
   have:=m.inj y p hy hp (by rw[e,j4]);left;rw[this];split
   .rfl
   exact dR
  rw[ay e] at hs;rcases h.i1 y hy hs with h2|h2
  .left;split
   .rfl
   exact h2
  exact .inr h2
 .rw[OL wO] at hs |-;by_cases e:y=x
  .subst e;exact .inr rfl
  rw[ay e] at hs;rcases h.i2 y hy hs with h2|h2
  .left;split
   .rfl
   exact h2
  left;rw[aD h2]
 rw[OL wO] at hs;by_cases e:next x=x
 .rcases h.pr with ⟨h1,_⟩|⟨p,hp,j4,dR⟩
  .rw[e,h1]
  have:=m.inj p x hp BN (by rw[j4,e]);rw[this,hx] at dR;cases dR
 rw[ay e] at hs;rcases h.i1 x BN hs with h2|h2
 .rw[hx] at h2;cases h2
 exact h2
def YH{S:m_}(hx:x<n2)(hl:n2<=S.length):(S.take n2).getD x true=sn S x:=by unfold sn;rw[dA,dA,mI,aD hx]
def aim{S:m_}:(S.take n2).set x true=(S.set x true).take n2:=by rw[<- List.take_set]
def ail{S:m_}(hx:n2<=x):(S.set x true).take n2=S.take n2:=by rw[List.take_set];exact List.set_eq_of_length_le (by rw[iK];omega)
def avO{next:Nat->Nat}{N d:Nat}(m:zM next n2 N)(hd:d<n2):∀(fuel x:Nat) (S:m_),S.length=N->x<N->Inv next N d S x->zB S<fuel->
  LJ next N (fp next fuel x S).2/\pwF next n2 fuel x (S.take n2)=((fp next fuel x S).1,(fp next fuel x S).2.take n2):=by
 intro fuel
 induction fuel with
 |zero=>intro x S _ _ _ h;omega
 |succ fuel ih=>
  intro x S hl hx hi hu;have hle:=m.le;unfold fp pwF;cases hs:S.getD x true with
  |true=>have hxd:=hi.i4 hs;have aw:x<n2:=aa;rw[aD aw,YH aw aa,show sn S x=true from hs];exact⟨hi.stop m hs,rfl⟩
  |false=>
   have DE:S[x]?=some false:=by
    rw[dA] at hs;cases h1:S[x]? with
    |none=>rw[h1] at hs;cases hs
    |some b=>rw[h1] at hs;exact congrArg some hs
   have Fz:=OO DE;obtain⟨c1,c2⟩:=ih (next x) (S.set x true) (by rw[ud,hl]) (m.lt x hx) (hi.step m hl hx hs) aa;simp only[dN,if_false];refine⟨c1,?_⟩;by_cases aw:x<n2
   .rw[aD aw,YH aw aa,show sn S x=false from hs];simp only[dN,if_false];rw[aim,c2]
   rw[ay aw];rw[ail aa] at c2;rw[c2]
def fA.kQ(_:fA F ls):∀x∈aG ls,x<ls.length:=fun _ h=>Pk h
def fA.hp(ok:fA F ls):∀v l,ls[v]?=some l->(l.kind==2)=false->v∈aG ls:=fun _ l hv h2=>ui.2 ⟨l,hv,ok.QZ hv h2⟩
abbrev nD(ls:ai):Nat:=2*ls.length+2*(aG ls).length
def maps(ok:fA F ls):zM (aW ls) (2*ls.length) (nD ls):=by
 refine⟨by unfold nD;omega,fun x hx=>SB ok.kQ ok.hp hx,fun x y hx hy h=>avy ok hx hy h,fun x hx hn=>?_⟩;have hx:x<2*ls.length+2*(aG ls).length:=hx;have Du:∀k,k<(aG ls).length->(aG ls).getD k 0<ls.length:=fun k hk=>by obtain⟨v,hv⟩:=aM hk;rw[dA,hv];exact ok.kQ v (aV hv)
 have hm:=dr ((x-2*ls.length)/2+1) (show 0<(aG ls).length by omega);show iC ls (aG ls) x<_;unfold iC;rw[aD hn];split
 .exact IV (Du _ hm)
 exact IV (Du _ aa)
def aiD(next:Nat->Nat):∀(k x:Nat) (S:m_) (y:Nat),sn S y=true->sn (fp next k x S).2 y=true:=by
 intro k
 induction k with
 |zero=>intro x S y h;exact h
 |succ k ih=>
  intro x S y h;unfold fp;split
  .exact h
  refine ih _ _ _ ?_;unfold sn;rw[dA,qT];split
  .split<;>rfl
  rw[<- dA];exact h
def aiB(next:Nat->Nat)(k x:Nat)(S:m_)(hk:zB S<k):sn (fp next k x S).2 x=true:=by
 cases k with
 |zero=>omega
 |succ k=>
  unfold fp;cases hs:S.getD x true with
  |true=>simpa using hs
  |false=>
   simp only[dN,if_false];refine aiD _ _ _ _ _ ?_;unfold sn;rw[dA,qT];split
   .split<;>rfl
   rename_i h;exact absurd rfl h
section
variable {next:Nat->Nat} {n2 N:Nat}
def YG(h:x<N):sn (List.replicate N false) x=false:=by unfold sn;rw[dA,List.getElem?_replicate,aD h];rfl
def SG(m:zM next n2 N):∀k,k<=n2->LJ next N (dX next N k).2/\ ∀x,x<k->sn (dX next N k).2 x=true:=by
 intro k
 induction k with
 |zero=>intro _;refine⟨fun y hy=>?_,fun x h=>absurd h (oN x)⟩;show sn (List.replicate N false) y=sn (List.replicate N false) (next y);rw[YG hy,YG (m.lt y hy)]
 |succ k ih=>
  intro hk;obtain⟨c,s⟩:=ih aa;have hlen:=Is next N k;have hle:=m.le;rw[zC];unfold vR;cases hs:(dX next N k).2.getD k true with
  |true=>
   simp only[if_true];refine⟨c,fun x hx=>?_⟩;rcases nN.1 hx with h|rfl
   .exact s x h
   exact hs
  |false=>
   simp only[dN,if_false];have hul:=Lp (dX next N k).2;obtain⟨c1,_⟩:=avO m (show k<n2 by omega) ((dX next N k).2.length+1) k (dX next N k).2 hlen aa (Inv.start c hs) aa;refine⟨c1,fun x hx=>?_⟩;rcases nN.1 hx with h|rfl
   .exact aiD _ _ _ _ _ (s x h)
   exact aiB _ _ _ _ aa
def Zd(m:zM next n2 N):∀k,n2<=k->k<=N->dX next N k=dX next N n2:=by
 intro k
 induction k with
 |zero=>intro h _;rw[show n2=0 by omega]
 |succ k ih=>
  intro h1 h2;by_cases e:n2=k+1
  .rw[e]
  rw[zC,ih aa aa];obtain⟨c,s⟩:=SG m n2 (bR _);unfold vR;have:(dX next N n2).2.getD k true=true:=by have h3:=c k aa;have h4:=s (next k) (m.ax k aa aa);show sn (dX next N n2).2 k=true;rw[h3,h4]
  rw[this];rfl
end

abbrev ql(o:v_):s_:=o.map fun p=>[PV.int .i64 (p.1:Int),PV.int .i64 (p.2:Int)]
def tv(g r to:Nat):v_:=(g,r)::(List.range (to-g)).map fun i=>(g+1+i,0)
def uX(g to:Nat):a_:=(List.range (to-g)).map fun i=>g+1+i
abbrev DT:Nat:=152
def gN (ls:ai)(i:Nat):Nat:=match ls[i]? with|some l=>l.gate.toNat|none=>0
def rN (ls:ai)(i:Nat):Nat:=match ls[i]? with|some l=>l.aC.toNat|none=>0
def Dg{i:Nat}{l:Let}(h:ls[i]?=some l):gN ls i=l.gate.toNat:=by simp[gN,h]
def Yo{i:Nat}{l:Let}(h:ls[i]?=some l):rN ls i=l.aC.toNat:=by simp[rN,h]
def rG(F:Nat)(ls:ai)(j:Nat):v_:=
 let u:=(aG ls).getD j 0
 let v:=(aG ls).getD ((j+1)%(aG ls).length) 0
 if j+1<(aG ls).length then tv (gN ls u) (rN ls u) (gN ls v) else tv (gN ls u) (rN ls u) F++tv 0 0 (gN ls v)
def DS(F:Nat)(ls:ai)(j:Nat):a_:=
 let u:=(aG ls).getD j 0
 let v:=(aG ls).getD ((j+1)%(aG ls).length) 0
 if j+1<(aG ls).length then uX (gN ls u) (gN ls v) else uX (gN ls u) F++uX 0 (gN ls v)
def KW(a b:v_):ql (a++b)=ql a++ql b:=af
def KH(a b:a_):nP (a++b)=nP a++nP b:=af
def Co(g r to:Nat):(tv g r to).length=to-g+1:=by simp[tv]
def St(g to:Nat):(uX g to).length=to-g:=by simp[uX]
def LW(ok:fA F ls)(hj:j<(aG ls).length):∃u l,(aG ls)[j]?=some u/\(aG ls).getD j 0=u/\ls[u]?=some l/\l.aE=true/\vr F ls l:=by obtain⟨u,hu⟩:=aM hj;obtain⟨l,h1,h2⟩:=ui.1 (aV hu);exact⟨u,l,hu,by rw[dA,hu];rfl,h1,h2,ok.ax.fy l (aV h1) h2⟩
structure Fc where
 ie:Bool
 cq:a_
 places:v_
 yB:a_
 outer:Bool
abbrev q_:=List Fc
def Fc.ps(f:Fc):b_:=[.bool f.ie,.sl (nP f.cq),.sl (ql f.places),.sl (nP f.yB),.bool f.outer]
def Fc.add(F:Nat)(ls:ai)(f:Fc)(x:Nat):Fc:=
 if x<2*ls.length then {f with cq:=f.cq++[x]}
 else {f with places:=f.places++(if x%2=0 then rG F ls ((x-2*ls.length)/2) else (rG F ls ((x-2*ls.length)/2)).reverse),yB:=f.yB++(if x%2=0 then DS F ls ((x-2*ls.length)/2) else (DS F ls ((x-2*ls.length)/2)).reverse),outer:=f.outer||decide ((x-2*ls.length)/2+1=(aG ls).length)}
def Fc.new(ls:ai)(d:Nat):Fc:=⟨dn ls (d/2+1),[],[],[],false⟩
def nk(F:Nat)(ls:ai)(w:a_):Fc:=w.foldl (Fc.add F ls) (Fc.new ls (w.headD 0))
def eS(F:Nat)(ls:ai):q_:=(gU (aW ls) (nD ls)).map (nk F ls)
def Qd(ok:fA F ls)(hj:j<(aG ls).length):gN ls ((aG ls).getD j 0)<=F:=by obtain⟨u,l,_,du,hl,_,hg⟩:=LW ok hj;rw[du,Dg hl];have:=hg.g1;have:=hg.g0;omega
def agT(ok:fA F ls)(hj:j<(aG ls).length):(rG F ls j).length<=2*F+2:=by have h1:=Qd ok hj;have h2:=Qd ok (dr (j+1) (show 0<(aG ls).length by omega));unfold rG;simp only;split<;>simp only[fS,Co]<;>omega
def agS(ok:fA F ls)(hj:j<(aG ls).length):(DS F ls j).length<=2*F+2:=by have h1:=Qd ok hj;have h2:=Qd ok (dr (j+1) (show 0<(aG ls).length by omega));unfold DS;simp only;split<;>simp only[fS,St]<;>omega
def avK(next:Nat->Nat):∀(k x:Nat) (S:m_),∀y∈(fp next k x S).1,y<S.length:=by
 intro k
 induction k with
 |zero=>intro x S y h;simp[fp] at h
 |succ k ih=>
  intro x S y h;unfold fp at h;cases hs:S.getD x true with
  |true=>rw[hs] at h;simp at h
  |false=>
   rw[hs] at h;have hx:x<S.length:=by
    rcases Nat.lt_or_ge x S.length with h1|h1
    .exact h1
    rw[dA,qp h1] at hs;cases hs
   simp only[dN,if_false,cD] at h;rcases h with rfl|h
   .exact hx
   have:=ih _ _ y h
   simpa using this
def avL(next:Nat->Nat):∀(k x:Nat) (S:m_),(fp next k x S).1.length<=zB S:=by
 intro k
 induction k with
 |zero=>intro x S;simp[fp]
 |succ k ih=>
  intro x S;unfold fp;cases hs:S.getD x true with
  |true=>simp
  |false=>
   have DE:S[x]?=some false:=by
    rw[dA] at hs;cases h1:S[x]? with
    |none=>rw[h1] at hs;cases hs
    |some b=>rw[h1] at hs;exact congrArg some hs
   have Fz:=OO DE;have:=ih (next x) (S.set x true);simp only[dN,if_false,dC];omega
def aiA(next:Nat->Nat){k:Nat}{S:m_}(h:S.getD x true=false):∃t,(fp next (k+1) x S).1=x::t:=by unfold fp;rw[h];exact⟨_,rfl⟩
def aiG(next:Nat->Nat)(N:Nat):∀k,∀w∈(dX next N k).1,(∃d t,w=d::t/\d<k)/\w.length<=N/\ ∀y∈w,y<N:=by
 intro k
 induction k with
 |zero=>intro w h;simp[dX] at h
 |succ k ih=>
  intro w h;rw[zC] at h;unfold vR at h;have hlen:=Is next N k;have old:w∈(dX next N k).1->(∃d t,w=d::t/\d<k+1)/\w.length<=N/\ ∀y∈w,y<N:=fun h=>by obtain⟨⟨d,t,h1,h2⟩,h3⟩:=ih w h;exact⟨⟨d,t,h1,aa⟩,h3⟩
  cases hs:(dX next N k).2.getD k true with
  |true=>simp only[hs,if_true] at h;exact old h
  |false=>
   simp only[hs,dN,if_false,eK,k9] at h;rcases h with h|rfl
   .exact old h
   obtain⟨t,ht⟩:=aiA next (k:=(dX next N k).2.length) hs;refine⟨⟨k,t,ht,aa⟩,?_,fun y hy=>?_⟩
   .have h1:=avL next ((dX next N k).2.length+1) k (dX next N k).2;have h2:=Lp (dX next N k).2;omega
   have:=avK next _ _ _ y hy;omega
def OS(ok:fA F ls):∀w∈gU (aW ls) (nD ls),(∃d t,w=d::t/\d<2*ls.length)/\w.length<=nD ls/\ ∀y∈w,y<nD ls:=by intro w h;unfold gU at h;rw[Zd (maps ok) (nD ls) (by unfold nD;omega) (bR _)] at h;exact aiG (aW ls) (nD ls) _ w h
abbrev Bq:Nat:=122
def av7{a b:PV}{id g z o l:Nat}{cp cf:C}:Cr [[.p a,.hsl id g z o l,cp,cf,.p b]]=none:=rfl
def al6{aj:aB}{s g ty sd td zd sp tp zp sf tf zf:Nat}{a o:Bool}{cd cp cf:C}{D P G:s_}(hb:aj s=(g,some (.ju ty 5 [[.p (.bool a),cd,cp,cf,.p (.bool o)]])))(gd:grown sd td zd D (.one cd) aj)(gp:grown sp tp zp P (.one cp) aj)(gf:grown sf tf zf G (.one cf) aj):
  ∃fr,fU aj (.one (.hsl s g 5 0 1))=some ([[.bool a,.sl D,.sl P,.sl G,.bool o]],[s],fr)/\qX aj fr/\ ∀i∈fr,i=sd\/i=sp\/i=sf:=by
 obtain⟨r1,n1,a1,q1⟩:=gd.Sn;obtain⟨r2,n2,a2,q2⟩:=gp.Sn;obtain⟨r3,n3,a3,q3⟩:=gf.Sn;refine⟨r1++(r2++r3),?_,a1.app (a2.app a3),fun i hi=>?_⟩
 .simp only[fU,hb];simp[collect,n1,n2,n3,Sr,PV.norm]
 simp only[eK] at hi;rcases hi with hi|hi|hi
 .rcases q1 with rfl|rfl<;>simp at hi;exact .inl hi
 .rcases q2 with rfl|rfl<;>simp at hi;exact .inr (.inl hi)
 rcases q3 with rfl|rfl<;>simp at hi;exact .inr (.inr hi)
abbrev tG(l:q_):s_:=l.map Fc.ps
def ajo(F:Nat)(ls:ai):∀(w:a_) (f:Fc),f.cq≠[]->(w.foldl (Fc.add F ls) f).cq≠[]:=by
 intro w
 induction w with
 |nil=>intro f h;exact h
 |cons x w ih=>
  intro f h;refine ih _ ?_;unfold Fc.add;split
  .simp
  exact h
def amI{d:Nat}{t:a_}(h:d<2*ls.length):(nk F ls (d::t)).cq≠[]:=by unfold nk;refine ajo F ls t _ ?_;unfold Fc.add;rw[show(d::t).headD 0=d from rfl,aD h];simp
def vf(ls:ai)(k:Nat):m_:=(List.range ls.length).map fun i=>decide (i<k)&& !dn ls (i+1)
def aad(ls:ai)(k:Nat):(vf ls k).length=ls.length:=by simp[vf]
def akk(ls:ai):vf ls 0=List.replicate ls.length false:=by
 refine Bb fun i=>?_;simp only[vf,fG,List.getElem?_replicate];by_cases h:i<ls.length
 .simp[h]
 rw[qp (by simpa using h),ay h];rfl
def akj(ls:ai)(k:Nat):vf ls (k+1)=(vf ls k).set k (!dn ls (k+1)):=by
 refine Bb fun i=>?_;rw[qT,aad];simp only[vf,fG];by_cases h:i<ls.length
 .rw[u5 h];by_cases e:k=i
  .subst e;simp[h]
  simp only[nQ,e,if_false];congr 2;exact decide_eq_decide.2 aa
 rw[qp (by simpa using h)];by_cases e:k=i
 .subst e;rw[aD rfl,ay h];rfl
 rw[ay e];rfl
abbrev CN(ls:ai):m_:=vf ls ls.length
def akl{i:Nat}(h:i<ls.length):(CN ls)[i]?=some (!dn ls (i+1)):=by simp[vf,h]
def akn(ok:fA F ls):aK S 84 [.one (.p (nY F ls))] (.one (.own 4 1 (bP (CN ls)))):=by
 have hl:=ok.hl;have lI:ls.length<=140737488355328:=aa;have kV:List.replicate ls.length [PV.bool false]=bP (vf ls 0):=by rw[akk];simp
 refine bk c84 ?_;simp only[go_sem,i84,lI,kV];refine dy (fun k ak aj=>ak 0=.one (.p (nY F ls))/\ak 3=.one (.hsl 5376064384 1 1 0 ls.length)/\aj 5376064384=(1,some (.arr 4 1 (bP (vf ls k))))/\
   ak 4=vb (!dn ls k)/\ak 18=.one (.p (cT ls))/\ak 19=vi ls.length/\ak 20=vi k) 0 ls.length (bG _) ?_ ?_
 .simp only[go_sem];first|exact⟨rfl,rfl⟩|exact⟨rfl,rfl,rfl⟩|exact⟨rfl,rfl,rfl,rfl⟩|exact rfl
 rintro k ak aj hk ⟨h0,h3,hA,h4,gG,iV,yF⟩
 by_cases aw:k<ls.length
 .obtain⟨l,df⟩:=aM aw;have hi:=iO df;have aL:((k:Int)<(ls.length:Int)):=aa;have w1:=cS (n:=k) aa;have hlen:k<(vf ls k).length:=by rw[aad];exact aw
  obtain⟨b0,mu⟩:=aM hlen;have lD:=tF mu;have iG:=Jb (vf ls k) k (!dn ls (k+1));rw[<- akj] at iG;cases hp:(l.kind==1) with
  |true=>have hd:=Mi df hp;have an6:=tF (Pv df hp);rw[hd] at iG;rw[Bool.not_not] at iG;simp only[go_sem,i84_l1,h0,h3,hA,h4,gG,iV,yF,hi,Let.ps,aw,aL,w1,hp,an6,lD,iG,hd]
  |false=>have hd:=Mj df hp;rw[hd] at iG;simp only[go_sem,i84_l1,h0,h3,hA,h4,gG,iV,yF,hi,Let.ps,aw,aL,w1,hp,lD,iG,hd]
 have:k=ls.length:=aa;subst this;simp only[go_sem,i84_l1,i84_r2,h3,iV,yF,eI];exact KU hA (by simp[vf])
abbrev FJ(id:Nat):Prop:=jO id=142
def ah6{g r T k:Nat}(h:k<=T-g):(tv g r T)[k]?=some (g+k,if k=0 then r else 0):=by
 cases k with
 |zero=>rfl
 |succ k=>unfold tv;rw[List.getElem?_cons_succ,fG,u5 aa];simp;omega
def auL{g T k:Nat}(h:k<T-g):(uX g T)[k]?=some (g+1+k):=by unfold uX;rw[fG,u5 h];rfl
def Jh(g r T:Nat)(ps fs:s_)(i1 i2:Nat)(aj:aB)(v:V)(ao:aB):Prop:=
 ∃c1 c2 j2,v=.tup [.one c1,.one c2]/\grown 9088320192 DT 2 (ps++ql (tv g r T)) (.one c1) ao/\grown j2 3 1 (fs++nP (uX g T)) (.one c2) ao/\(j2=i2\/j2=9088256256)/\
  Kept (fun id=>FJ id\/id=i1\/id=i2) aj ao
def bt1:a_:=[9088000000,9088000064,9088128128,9088256192,9088256256,9088320128]
def bt2:a_:=[9088000000,9088000064,9088128128,9088128192,9088256192,9088320128,9088320192]
def L4{al:Al}{aj:aB}{g r T t i1 i2:Nat}{ps fs:s_}{c1 c2:C}(okf:∀id,FJ id->al.ok id=true)(o1:al.ok i1=true)(o2:al.ok i2=true)(hT:g<=T)(ht:t=if T=g then r else 0)(hb:T<=1000)(dR:ps.length<=1000000)(sW:fs.length<=1000000)
  (n12:i1≠i2) (nb1:i1∉bt1) (nb2:i2∉bt2) (h1:grown i1 DT 2 ps (.one c1) aj) (h2:grown i2 3 1 fs (.one c2) aj):
  ∃v ao,jm S 142 [.agg [.p (.int .i64 g),.p (.int .i64 r)],.agg [.p (.int .i64 T),.p (.int .i64 t)],.one c1,.one c2] al aj v ao/\Jh g r T ps fs i1 i2 aj v ao:=by
 have k0:al.ok 9088000000=true:=okf _ rfl;have k64:al.ok 9088000064=true:=okf _ rfl;have kb1:al.ok 9088128128=true:=okf _ rfl;have ka1:al.ok 9088128192=true:=okf _ rfl;have N9:al.ok 9088256192=true:=okf _ rfl;have ka2:al.ok 9088256256=true:=okf _ rfl;have kb3:al.ok 9088320128=true:=okf _ rfl;have ka3:al.ok 9088320192=true:=okf _ rfl;refine nT c142 (iA rfl) ?_;simp only[go_sem,i142,k0,k64];have lenP:=Co g r T;have lenF:=St g T;refine dy (fun k ak ao=>ak 4=.one (.aZ 9088000000 ((aj 9088000000).1+1) 0)/\ak 5=.one (.aZ 9088000064 ((aj 9088000064).1+1) 0)/\
   ao 9088000000=((aj 9088000000).1+1,some (.var [.p (.int .i64 ((g+k:Nat):Int)),.p (.int .i64 ((if k=0 then r else 0:Nat):Int))]))/\ao 9088000064=((aj 9088000064).1+1,some (.var [.p (.int .i64 T),.p (.int .i64 t)]))/\
   ∃d1 d2 j1 j2,ak 2=.one d1/\ak 3=.one d2/\(j1=i1\/j1=9088128192)/\(j2=i2\/j2=9088256256)/\grown j1 DT 2 (ps++ql ((tv g r T).take k)) (.one d1) ao/\grown j2 3 1 (fs++nP ((uX g T).take k)) (.one d2) ao/\Kept (fun id=>FJ id\/id=i1\/id=i2) aj ao) 0 (T-g) (bG _) ?_ ?_
 .simp only[go_sem];refine⟨rfl,c1,c2,i1,i2,rfl,rfl,.inl rfl,.inl rfl,?_,?_,?_⟩
  .exact(h1.of_eq (aX (Ra nb1 (by simp[bt1])))).of_eq (aX (Ra nb1 (by simp[bt1])))
  .exact(h2.of_eq (aX (Ra nb2 (by simp[bt2])))).of_eq (aX (Ra nb2 (by simp[bt2])))
  exact((Kept.refl _ _).dU (.inl rfl) _).dU (.inl rfl) _
 rintro k ak ao hk ⟨h4,h5,hA,hB,d1,d2,j1,j2,e2,e3,q1,q2,g1,g2,dK⟩
 have oj1:al.ok j1=true:=by rcases q1 with rfl|rfl<;>assumption
 have oj2:al.ok j2=true:=by rcases q2 with rfl|rfl<;>assumption
 have n1:∀a,a∈bt1->j1≠a:=fun a ha e=>by
  rcases q1 with rfl|rfl
  .exact nb1 (e▸ha)
  exact absurd (e▸ha) ae
 have n2:∀a,a∈bt2->j2≠a:=fun a ha e=>by
  rcases q2 with rfl|rfl
  .exact nb2 (e▸ha)
  exact absurd (e▸ha) ae
 have n3:j1≠j2:=fun e=>by
  rcases q1 with rfl|rfl
  .rcases q2 with rfl|rfl
   .exact n12 e
   exact n1 _ ae e
  exact n2 _ ae e.symm
 have kj1:FJ j1\/j1=i1\/j1=i2:=by
  rcases q1 with rfl|rfl
  .exact .inr (.inl rfl)
  exact .inl rfl
 have kj2:FJ j2\/j2=i1\/j2=i2:=by
  rcases q2 with rfl|rfl
  .exact .inr (.inr rfl)
  exact .inl rfl
 have ltk:((tv g r T).take k).length=k:=by rw[iK];omega
 have ltf:((uX g T).take k).length=k:=by rw[iK];omega
 by_cases aw:k<T-g
 .have aL:(((g+k:Nat):Int)<(T:Int)):=aa;have w1:IntKind.i64.wrap (((g+k:Nat):Int)+1)=((g+(k+1):Nat):Int):=cS (n:=g+k) aa;have hp:ql ((tv g r T).take (k+1))=ql ((tv g r T).take k)++[[.int .i64 ((g+k:Nat):Int),.int .i64 ((if k=0 then r else 0:Nat):Int)]]:=by
   rw[qq,ah6 aa,KW];rfl
  have hf:nP ((uX g T).take (k+1))=nP ((uX g T).take k)++[[.int .i64 ((g+(k+1):Nat):Int)]]:=by rw[qq,auL aw,KH,show g+1+k=g+(k+1) by omega];rfl
  simp only[go_sem,i142_l1,h4,h5,hA,hB,e2,aL,k0,k64,kb1];refine Qe (id:=j1) (site:=9088128192) (bytes:=16) (xs:=[[.int .i64 ((g+k:Nat):Int),.int .i64 ((if k=0 then r else 0:Nat):Int)]]) (rd:=[9088128128]) (by simp[ka1,oj1,kb1]) (g1.of_eq (aX (n1 _ ae))) (by simp[fU,aO]) (.inl rfl) (by simp only[fS,cM,ltk,dC,fe];omega) fun c bh hc bj=>?_;have hA2:=(bj 9088000000 ae (n1 _ ae).symm).trans ((aX ae).trans hA);have vu:=(bj 9088000064 ae (n1 _ ae).symm).trans ((aX ae).trans hB);simp only[go_sem,h4,hA2,e3,w1,k0,N9]
  refine Qe (id:=j2) (site:=9088256256) (bytes:=8) (xs:=[[.int .i64 ((g+(k+1):Nat):Int)]]) (rd:=[9088256192]) (by simp[ka2,oj2,N9]) (g2.of_eq ((aX (n2 _ ae)).trans ((aX (n2 _ ae)).trans ((bj _ (n2 _ ae) n3.symm).trans (aX (n2 _ ae)))))) (by simp[fU,aO]) (.inl rfl) (by simp only[fS,cM,ltf,dC,fe];omega) fun c' ig jw gk=>?_;have hA3:=(gk 9088000000 ae (n2 _ ae).symm).trans ((aX ae).trans A7);have hB3:=(gk 9088000064 ae (n2 _ ae).symm).trans ((aX ae).trans ((aX ae).trans vu));simp only[go_sem,h4,h5,hA3,hB3,e2,e3,aw];refine⟨rfl,c,c',9088128192,9088256256,rfl,rfl,.inr rfl,.inr rfl,?_,?_,fun id hn=>?_⟩
  .rw[hp,<- vU];exact hc.of_eq ((gk _ ae (n2 _ ae).symm).trans ((aX ae).trans (aX ae)))
  .rw[hf,<- vU];exact jw
  have a:∀x,FJ x->id≠x:=fun x hx e=>hn (.inl (e▸hx));have b1:id≠j1:=fun e=>hn (e▸kj1);have b2:id≠j2:=fun e=>hn (e▸kj2);exact(gk id (a _ rfl) b2).trans ((aX (a _ rfl)).trans ((aX (a _ rfl)).trans ((bj id (a _ rfl) b1).trans ((aX (a _ rfl)).trans (dK id hn)))))
 have:k=T-g:=aa;subst this;have aL:¬(((g+(T-g):Nat):Int)<(T:Int)):=aa;simp only[go_sem,i142_l1,i142_r2,h4,h5,hA,hB,e2,aL,k0,k64,kb3];have Nu:ql (tv g r T)=ql ((tv g r T).take (T-g))++[[.int .i64 (T:Int),.int .i64 (t:Int)]]:=by
  have h1:=qq (l:=tv g r T) (i:=T-g);rw[ah6 (bR _),iz (show(tv g r T).length<=T-g+1 by omega)] at h1;have e1:g+(T-g)=T:=aa;have e2:(if T-g=0 then r else 0)=t:=by
   rw[ht];by_cases h:T=g
   .rw[aD h,aD aa]
   rw[ay h,ay aa]
  rw[e1,e2] at h1;exact(congrArg (fun l:v_=>ql l) h1).trans (KW _ _)
 have dQ:(uX g T).take (T-g)=uX g T:=iz aa;refine Qe (id:=j1) (site:=9088320192) (bytes:=16) (xs:=[[.int .i64 (T:Int),.int .i64 (t:Int)]]) (rd:=[9088320128]) (by simp[ka3,oj1,kb3]) (g1.of_eq (aX (n1 _ ae))) (by simp[fU,aO]) (.inl rfl) (by simp only[fS,cM,ltk,dC,fe];omega) fun c bh hc bj=>?_;simp only[go_sem,e3];refine⟨c,d2,j2,rfl,?_,?_,q2,fun id hn=>?_⟩
 .rw[Nu,<- vU];exact hc
 .rw[dQ] at g2;exact g2.of_eq ((bj _ (n2 _ ae) n3.symm).trans (aX (n2 _ ae)))
 have a:∀x,FJ x->id≠x:=fun x hx e=>hn (.inl (e▸hx));have b1:id≠j1:=fun e=>hn (e▸kj1);exact(bj id (a _ rfl) b1).trans ((aX (a _ rfl)).trans (dK id hn))
def Z7(ok:fA F ls)(hj:j<(aG ls).length):∃u l,(aG ls)[j]?=some u/\(aG ls).getD j 0=u/\ls[u]?=some l/\l.aE=true/\vr F ls l/\eB ls l=j:=by obtain⟨u,l,h1,h2,h3,h4,h5⟩:=LW ok hj;obtain⟨l',k1,k2,k3⟩:=Bk ok.ax h1;rw[h3] at k1;cases k1;exact⟨u,l,h1,h2,h3,h4,h5,k3⟩
def aj7{pg pr qg qr:Nat}{p q:Let}(gp:vr F ls p)(gq:vr F ls q)(hp:eB ls p=j)(hq:eB ls q=j+1)(h1:p.gate=(pg:Int))(h2:p.aC=(pr:Int))(h3:q.gate=(qg:Int))(h4:q.aC=(qr:Int)):
  pg<=qg/\qr-1=if qg=pg then pr else 0:=by
 obtain⟨_,_,p1,p2⟩:=gp;obtain⟨_,_,q1,q2⟩:=gq;unfold eB at hp hq;rw[h1,h2] at hp;rw[h3,h4] at hq;rw[h2] at p1;rw[h1,h2] at p2;rw[h4] at q1;rw[h3,h4] at q2;simp only[pP] at hp hq p2 q2;have sp:=uv ls pg;have sq:=uv ls qg;have hle:pg<=qg:=by
  rcases Nat.lt_or_ge qg pg with h|h
  .have:=Br (ls:=ls) (show qg+1<=pg by omega);omega
  exact h
 refine⟨hle,?_⟩;by_cases e:qg=pg
 .subst e;rw[aD rfl];omega
 rw[ay e];have:=Br (ls:=ls) (show pg+1<=qg by omega);omega
def aj5{qg qr:Nat}{q:Let}(gq:vr F ls q)(hq:eB ls q=0)(h3:q.gate=(qg:Int))(h4:q.aC=(qr:Int)):qr-1=0:=by obtain⟨_,_,q1,q2⟩:=gq;unfold eB at hq;rw[h3,h4] at hq;rw[h4] at q1;simp only[pP] at hq;omega
def auk:S.sites 142=[142]:=ah
def ve{vs:e_}{aj:aB}:∀id,FJ id->(allow (S.ctx .all) 142 vs aj).ok id=true:=fun id h=>vZ (by rw[auk,h];simp)
def as8(ok:fA F ls)(hF:F<=1000)(hj:j<(aG ls).length):
  aK S 114 [.one (.p (nY F ls)),vi j] (.tup [.one (aU DT 2 (ql (rG F ls j))),.one (aU 3 1 (nP (DS F ls j)))]):=by
 have hl:=ok.hl;have gR:(aG ls).length<=1000000:=mY (xv ls ls.length) hl;have hm:=dr (j+1) (show 0<(aG ls).length by omega);obtain⟨u,p,hu,du,hp,pp,gp,xp⟩:=Z7 ok hj;obtain⟨v,q,hv,dv,hq,pq,gq,xq⟩:=Z7 ok hm;unfold rG DS;simp only[du,dv,Dg hp,Dg hq,Yo hp];have fV:=iO hp;have DC:=iO hq;have xN:=kE hu;have BI:=kE hv;have e1:=w9 (j+1) (aG ls).length;have w1:=cS (n:=j) aa;have w2:=Iu (a:=(aG ls).length) aa aa;have pY:¬(((aG ls).length:Int)=0):=aa
 have hg0:=gp.g0;have Hq:=gp.g1;have BE:=gq.g0;have df:=gq.g1;have tS:=gp.r0;have jV:=gp.r1;have qI:=gq.r0;have kW:=gq.r1;have hcg:cg ls p.gate.toNat<=ls.length:=sL _ _;have hcq:cg ls q.gate.toNat<=ls.length:=sL _ _;obtain⟨pg,h1⟩:=tA (show 0<=p.gate by omega);obtain⟨pr,h2⟩:=tA (show 0<=p.aC by omega);obtain⟨qg,h3⟩:=tA (show 0<=q.gate by omega);obtain⟨qr,h4⟩:=tA (show 0<=q.aC by omega);have wr:=Iu (a:=qr) (by rw[h4] at qI;omega) aa;have jI:S.shared 142=true:=ah;have Fs:=fun h=>aj7 gp gq xp (h:eB ls q=j+1) h1 h2 h3 h4;have WJ:=fun h=>aj5 gq (h:eB ls q=0) h3 h4
 rw[h1] at Hq jV hcg hg0;rw[h2] at jV tS;rw[h3] at BE df kW hcq;rw[h4] at qI kW;rw[h1,h2,h3];simp only[pP] at jV hcg kW hcq |-;refine bk c114 ?_;by_cases aw:j+1<(aG ls).length
 .have aL:(j:Int)<(((aG ls).length-1:Nat):Int):=aa;rw[gY aw] at xq;obtain⟨n1,n2⟩:=Fs xq;simp only[aD aw];simp only[go_sem,i114,xN,BI,fV,DC,Let.ps,w1,e1,w2,wr,aL,pY,h1,h2,h3,h4,jI];refine⟨aJ,?_⟩;refine sR (P:=Jh pg pr qg [] [] 9088128192 9088256256 _) Az (L4 (g:=pg) (r:=pr) (T:=qg) (t:=qr-1) (c1:=.p .nils) (c2:=.p .nils) ve (ve _ rfl) (ve _ rfl) n1 n2 aa (bG _) (bG _) ae ae ae grown.nil grown.nil) ?_;rintro v ao ⟨c1,c2,j2,rfl,g1,g2,nz,dK⟩
  have nz:j2=9088256256:=by rcases nz with h|h<;>exact h
  subst nz;simp only[go_sem];exact Qh ae g1 g2
 have aL:¬(j:Int)<(((aG ls).length-1:Nat):Int):=aa;have Ht:(j+1)%(aG ls).length=0:=by rw[show j+1=(aG ls).length by omega,En]
 rw[Ht] at xq;have n2:=WJ xq;simp only[ay aw];have Nu:∃t:Nat,t=(if F=pg then pr else 0):=⟨_,rfl⟩;obtain⟨t,ht⟩:=Nu;have fin:∀(ak:Env) (aj:aB) (c1 c2:C),True:=fun _ _ _ _=>trivial;have ini:(((pg:Int)==(F:Int))=true/\t=pr/\F=pg)\/(((pg:Int)==(F:Int))=false/\t=0):=by
  by_cases h:F=pg
  .subst h;rw[aD rfl] at ht;exact .inl ⟨af,ht,rfl⟩
  rw[ay h] at ht;exact .inr ⟨by simp;omega,ht⟩
 rcases ini with ⟨hb,ht2,hFp⟩|⟨hb,ht2⟩
 .subst hFp;simp only[go_sem,i114,xN,BI,fV,DC,Let.ps,w1,e1,w2,wr,aL,pY,h1,h2,h3,h4,jI,hb];refine⟨aJ,?_⟩;refine⟨aJ,?_⟩;refine sR (P:=Jh F pr F [] [] 9088128192 9088256256 _) Az (L4 (g:=F) (r:=pr) (T:=F) (t:=pr) (c1:=.p .nils) (c2:=.p .nils) ve (ve _ rfl) (ve _ rfl) aa (by rw[aD rfl]) aa (bG _) (bG _) ae ae ae grown.nil grown.nil) ?_;rintro v bU ⟨c1,c2,j2,rfl,g1,g2,nz,dK⟩
  have nz:j2=9088256256:=by rcases nz with h|h<;>exact h
  subst nz;rw[fZ] at g1 g2;have hA:=dK 7296256384 ae;simp only[go_sem] at hA;simp only[go_sem,hA,jI];refine sR (P:=Jh 0 0 qg (ql (tv F pr F)) (nP (uX F F)) 9088320192 9088256256 _) Az (L4 (g:=0) (r:=0) (T:=qg) (t:=qr-1) (c1:=c1) (c2:=c2) ve (ve _ rfl) (ve _ rfl) (bG _) (by rw[n2];split<;>rfl) aa (by simp only[cM,Co];omega) (by simp only[cM,St];omega) ae ae ae g1 g2) ?_;rintro v bh ⟨d1,d2,j3,rfl,k1,k2,BC,_⟩
  have BC:j3=9088256256:=by rcases BC with h|h<;>exact h
  subst BC;simp only[go_sem];rw[KW,KH];exact Qh ae k1 k2
 simp only[go_sem,i114,xN,BI,fV,DC,Let.ps,w1,e1,w2,wr,aL,pY,h1,h2,h3,h4,jI,hb];refine⟨aJ,?_⟩;refine⟨aJ,?_⟩;refine sR (P:=Jh pg pr F [] [] 9088128192 9088256256 _) Az (L4 (g:=pg) (r:=pr) (T:=F) (t:=0) (c1:=.p .nils) (c2:=.p .nils) ve (ve _ rfl) (ve _ rfl) aa (by rw[ht2] at ht;exact ht) aa (bG _) (bG _) ae ae ae grown.nil grown.nil) ?_;rintro v bU ⟨c1,c2,j2,rfl,g1,g2,nz,dK⟩
 have nz:j2=9088256256:=by rcases nz with h|h<;>exact h
 subst nz;rw[fZ] at g1 g2;have hA:=dK 7296256384 ae;simp only[go_sem] at hA;simp only[go_sem,hA,jI];refine sR (P:=Jh 0 0 qg (ql (tv pg pr F)) (nP (uX pg F)) 9088320192 9088256256 _) Az (L4 (g:=0) (r:=0) (T:=qg) (t:=qr-1) (c1:=c1) (c2:=c2) ve (ve _ rfl) (ve _ rfl) (bG _) (by rw[n2];split<;>rfl) aa (by simp only[cM,Co];omega) (by simp only[cM,St];omega) ae ae ae g1 g2) ?_;rintro v bh ⟨d1,d2,j3,rfl,k1,k2,BC,_⟩
 have BC:j3=9088256256:=by rcases BC with h|h<;>exact h
 subst BC;simp only[go_sem];rw[KW,KH];exact Qh ae k1 k2
end
end Go.Abs
