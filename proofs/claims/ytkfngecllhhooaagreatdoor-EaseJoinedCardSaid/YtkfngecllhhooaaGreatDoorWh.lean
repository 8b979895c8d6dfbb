/- A part. -/
import Derived.Test.YtkfngecllhhooaaGreatDoorWa
set_option linter.all false
set_option maxRecDepth 100000
set_option maxHeartbeats 16000000
namespace Go.Abs
section
variable{ls:List Let}{F j n2 x:Nat}
abbrev xu(F:Nat)(ls:List Let):PV:=ZJ F ls (.sl (bP (eN ls))) (.sl (nP (ae ls))) (.sl (nP (sC ls ls.length))) (.mp true (mS ls ls.length)) (.sl (nP (counts ls F)))
structure dS (F:Nat) (ls:List Let):Prop where
 hl:ls.length<=1000000
 ax:Eo F ls
 cr:dK ls=true
 kinds:∀l∈ls,l.aH=true\/l.aD=true
theorem iJ{a:Nat}(h:a<=9223372036854775807):IntKind.i64.wrap ((a:Int)-1)=(a:Int)-1:=by
 cases a with
 |zero=>decide
 |succ a=>rw[lB (by omega) h];omega
theorem xC{a n:Nat}(hn:1<=n)(h:a+n<=9223372036854775807):IntKind.i64.wrap (((a:Int)-1)+(n:Int))=((a+n-1:Nat):Int):=by
 have e:((a:Int)-1)+(n:Int)=((a+n-1:Nat):Int):=by omega
 rw[e];exact wrap_small (by omega)
theorem tu(F:Nat)(ls:List Let)(i:Nat)(hl:ls.length<=1000000)(hi:i<ls.length):aP S 81 [.one (.p (xu F ls)),vi i] (ri (aI ls.length i true)):=by refine aJ c81 ?_;have e:=eV (a:=i) (by omega);simp only[go_sem,i81,e,aI]
theorem rg(F:Nat)(ls:List Let)(i:Nat)(hl:ls.length<=1000000)(hi:i<ls.length):aP S 80 [.one (.p (xu F ls)),vi i] (ri (aI ls.length i false)):=by
 refine aJ c80 ?_;have e1:=iJ (a:=i) (by omega);have e2:=xC (a:=i) (n:=ls.length) (by omega) (by omega);have e3:=iv (i+ls.length-1) ls.length;have hm:=aaN (i+ls.length-1) (show 0<ls.length by omega);have e4:=eV (a:=(i+ls.length-1)%ls.length) (by omega);have e5:=ak (n:=2*((i+ls.length-1)%ls.length)) (by omega);have hz:¬((ls.length:Int)=0):=by omega
 simp only[go_sem,i80,e1,e2,e3,e4,e5,hz,aI]
theorem uC{v:Nat}{l:Let}(h:ls[v]?=some l)(hp:l.aH=true):(eN ls)[v]?=some (dn ls v):=by have:=(aai.1 h).1;simp[eN,abT this,r8,h,hp]
theorem WQ{v:Nat}{l:Let}(h:ls[v]?=some l)(hp:l.aH=true):(sC ls ls.length)[v]?=some (cY ls l):=by have:=(aai.1 h).1;simp[sC,this,te h hp]
theorem dS.Ko(ok:dS F ls){v:Nat}{l:Let}(h:ls[v]?=some l)(h2:(l.kind==2)=false):l.aH=true:=by
 rcases ok.kinds l (aae h) with hp|hc
 .exact hp
 unfold Let.aD at hc;rw[h2] at hc;cases hc
theorem KO(ok:dS F ls)(d:Nat)(hd:d<2*ls.length+2*(ae ls).length):aP S 67 [.one (.p (xu F ls)),vi d] (ri (gC ls (ae ls) d)):=by
 have hl:=ok.hl;have hal:(ae ls).length<=1000000:=abm (fC ls ls.length) hl;have AN:∀x∈ae ls,x<ls.length/\ ∃l,ls[x]?=some l/\l.aH=true:=fun x hx=>by obtain⟨l,h1,h2⟩:=dT.1 hx;exact⟨(aai.1 h1).1,l,h1,h2⟩
 have m1:IntKind.i64.wrap (2*(ls.length:Int))=((2*ls.length:Nat):Int):=eV (by omega);unfold gC;by_cases h:2*ls.length<=d
 .rw[if_pos h];refine aJ c67 ?_;have h':((2*ls.length:Nat):Int)<=(d:Int):=by omega
  have m2:=xB (a:=d) (b:=2*ls.length) h (by omega);have m3:=wrap_small (n:=(d-2*ls.length)/2) (by omega);have hm:=aaN ((d-2*ls.length)/2+1) (show 0<(ae ls).length by omega);have hm0:¬(((ae ls).length:Int)=0):=by omega
  obtain⟨u,hu⟩:=ao (ls:=ae ls) (k:=(d-2*ls.length)/2) (by omega);have hnu:=eZ hu;by_cases h2:d%2=0
  .rw[if_pos h2];have m4:=ak (n:=(d-2*ls.length)/2) (by omega);have h2':(((d%2:Nat):Int)==0)=true:=by simp[h2]
   have m5:=iv ((d-2*ls.length)/2+1) (ae ls).length;obtain⟨v,hv⟩:=ao hm;have hv2:(ae ls).getD (((d-2*ls.length)/2+1)%(ae ls).length) 0=v:=by rw[aaC,hv];rfl
   rw[hv2];obtain⟨hvl,l,hlv,hlp⟩:=AN v (aae hv);have hnv:=eZ hv;have hdn:=l5 (uC hlv hlp);have pf:=tu F ls v hl hvl;have pb:=rg F ls v hl hvl;cases hq:dn ls v with
   |true=>rw[hq] at hdn;simp only[go_sem,i67,m1,m2,m3,m4,m5,h',h2',hnu,hnv,hdn,hm0,iw,dZ,bY,s80,a7 pb];exact⟨aK,aK⟩
   |false=>rw[hq] at hdn;simp only[go_sem,i67,m1,m2,m3,m4,m5,h',h2',hnu,hnv,hdn,hm0,iw,dZ,bY,s81,a7 pf];exact⟨aK,aK⟩
  rw[if_neg h2];have h2':(((d%2:Nat):Int)==0)=false:=by simp;omega
  have hv2:(ae ls).getD ((d-2*ls.length)/2) 0=u:=by rw[aaC,hu];rfl
  rw[hv2];obtain⟨hvl,l,hlv,hlp⟩:=AN u (aae hu);have hdn:=l5 (uC hlv hlp);have pf:=tu F ls u hl hvl;have pb:=rg F ls u hl hvl;cases hq:dn ls u with
  |true=>rw[hq] at hdn;simp only[go_sem,i67,m1,m2,m3,h',h2',hnu,hdn,iw,dZ,bY,s81,a7 pf];exact aK
  |false=>rw[hq] at hdn;simp only[go_sem,i67,m1,m2,m3,h',h2',hnu,hdn,iw,dZ,bY,s80,a7 pb];exact aK
 rw[if_neg h];have h':¬(((2*ls.length:Nat):Int)<=(d:Int)):=by omega
 have m3:=wrap_small (n:=d/2) (by omega);have hn0:¬((ls.length:Int)=0):=by omega
 have hm0:=aaN (d/2+1) (show 0<ls.length by omega);have m4:=ak (n:=d/2) (by omega);have m5:=iv (d/2+1) ls.length;have body:∀v:Nat,v<ls.length->∀fw:Bool,v=(if fw then (d/2+1)%ls.length else d/2)->(((d%2:Nat):Int)==0)=fw->aP S 67 [.one (.p (xu F ls)),vi d] (ri ((match ls[v]? with
   |none=>0
   |some l=>if l.kind==2 then aI ls.length (bN ls v) (fw==(l.over==(l.sign==1)))
    else if dn ls v==fw then 2*ls.length+2*(ae ls).idxOf v else 2*ls.length+2*(((ae ls).idxOf v+(ae ls).length-1)%(ae ls).length)+1:Nat):Int)):=by
  intro v hv fw hvf acC;obtain⟨l,hlv⟩:=ao hv;have hpv:=fQ hlv;rw[hlv];simp only;refine aJ c67 ?_;cases hk:(l.kind==2) with
  |true=>
   have hc:l.aD=true:=hk;have hk1:(l.kind==1)=false:=by simp only[beq_iff_eq] at hk;rw[hk];rfl
   obtain⟨ad3,hol⟩:=rL ok.cr hlv hc;have hf:=Gm ls ls.length l.id;rw[if_pos (rX (aae hlv) hc)] at hf;have pf:=tu F ls (bN ls v) hl hol;have pb:=rg F ls (bN ls v) hl hol;cases ho:l.over with
   |true=>
    rw[ho] at ad3;have ad3:eY ls ls.length l.id false=some (bN ls v):=ad3;simp only[o0,ad3] at hf;simp only[AQ] at hf;cases hs:(l.sign==1) with
    |true=>
     cases fw with
     |true=>have hvf:v=(d/2+1)%ls.length:=hvf;rw[hvf] at hpv hf pf pb ⊢;simp only[go_sem,i67,m1,m3,m4,m5,h',acC,hpv,Let.ps,hn0,hk1,ho,hs,iw,dZ,bY,mapOf,mapVal,dD,hf,s81,a7 pf];exact⟨aK,aK⟩
     |false=>have hvf:v=d/2:=hvf;rw[hvf] at hpv hf pf pb ⊢;simp only[go_sem,i67,m1,m3,h',acC,hpv,Let.ps,hk1,ho,hs,iw,dZ,bY,mapOf,mapVal,dD,hf,s80,a7 pb];exact⟨aK,aK⟩
    |false=>
     cases fw with
     |true=>have hvf:v=(d/2+1)%ls.length:=hvf;rw[hvf] at hpv hf pf pb ⊢;simp only[go_sem,i67,m1,m3,m4,m5,h',acC,hpv,Let.ps,hn0,hk1,ho,hs,iw,dZ,bY,mapOf,mapVal,dD,hf,s80,a7 pb];exact⟨aK,aK⟩
     |false=>have hvf:v=d/2:=hvf;rw[hvf] at hpv hf pf pb ⊢;simp only[go_sem,i67,m1,m3,h',acC,hpv,Let.ps,hk1,ho,hs,iw,dZ,bY,mapOf,mapVal,dD,hf,s81,a7 pf];exact⟨aK,aK⟩
   |false=>
    rw[ho] at ad3;have ad3:eY ls ls.length l.id true=some (bN ls v):=ad3;simp only[o0,ad3] at hf;simp only[AQ] at hf;cases hs:(l.sign==1) with
    |true=>
     cases fw with
     |true=>have hvf:v=(d/2+1)%ls.length:=hvf;rw[hvf] at hpv hf pf pb ⊢;simp only[go_sem,i67,m1,m3,m4,m5,h',acC,hpv,Let.ps,hn0,hk1,ho,hs,iw,dZ,bY,mapOf,mapVal,dD,hf,s80,a7 pb];exact⟨aK,aK⟩
     |false=>have hvf:v=d/2:=hvf;rw[hvf] at hpv hf pf pb ⊢;simp only[go_sem,i67,m1,m3,h',acC,hpv,Let.ps,hk1,ho,hs,iw,dZ,bY,mapOf,mapVal,dD,hf,s81,a7 pf];exact⟨aK,aK⟩
    |false=>
     cases fw with
     |true=>have hvf:v=(d/2+1)%ls.length:=hvf;rw[hvf] at hpv hf pf pb ⊢;simp only[go_sem,i67,m1,m3,m4,m5,h',acC,hpv,Let.ps,hn0,hk1,ho,hs,iw,dZ,bY,mapOf,mapVal,dD,hf,s81,a7 pf];exact⟨aK,aK⟩
     |false=>have hvf:v=d/2:=hvf;rw[hvf] at hpv hf pf pb ⊢;simp only[go_sem,i67,m1,m3,h',acC,hpv,Let.ps,hk1,ho,hs,iw,dZ,bY,mapOf,mapVal,dD,hf,s80,a7 pb];exact⟨aK,aK⟩
  |false=>
   have hp:=ok.Ko hlv hk;have hk1:(l.kind==1)=true:=hp;have hdn:=l5 (uC hlv hp);have hpl:=eZ (WQ hlv hp);have hix:=nN ok.ax hlv hp;have hpT:=WP (ok.ax.dX l (aae hlv) hp);rw[Ar ok.ax.iV] at hpT;rw[hix];have anr:¬(((ae ls).length:Int)=0):=by omega
   have hml:=aaN (cY ls l+(ae ls).length-1) (show 0<(ae ls).length by omega);have n1:=eV (a:=cY ls l) (by omega);have n2:=wrap_add (a:=2*ls.length) (b:=2*cY ls l) (by omega);have n3:=iJ (a:=cY ls l) (by omega);have n4:=xC (a:=cY ls l) (n:=(ae ls).length) (by omega) (by omega);have n5:=iv (cY ls l+(ae ls).length-1) (ae ls).length;have n6:=eV (a:=(cY ls l+(ae ls).length-1)%(ae ls).length) (by omega);have n7:=wrap_add (a:=2*ls.length) (b:=2*((cY ls l+(ae ls).length-1)%(ae ls).length)) (by omega);have n8:=ak (n:=2*ls.length+2*((cY ls l+(ae ls).length-1)%(ae ls).length)) (by omega);cases fw with
   |true=>
    have hvf:v=(d/2+1)%ls.length:=hvf;cases ag5:dn ls v with
    |true=>rw[ag5] at hdn;rw[hvf] at hpv hdn hpl;simp only[go_sem,i67,m1,m3,m4,m5,h',acC,hpv,Let.ps,hn0,hk1,iw,dZ,bY,hdn,hpl,n1,n2];exact aK
    |false=>rw[ag5] at hdn;rw[hvf] at hpv hdn hpl;simp only[go_sem,i67,m1,m3,m4,m5,h',acC,hpv,Let.ps,hn0,hk1,iw,dZ,bY,hdn,hpl,n3,n4,n5,n6,n7,n8,anr];exact aK
   |false=>
    have hvf:v=d/2:=hvf;cases ag5:dn ls v with
    |true=>rw[ag5] at hdn;rw[hvf] at hpv hdn hpl;simp only[go_sem,i67,m1,m3,h',acC,hpv,Let.ps,hk1,iw,dZ,bY,hdn,hpl,n3,n4,n5,n6,n7,n8,anr];exact aK
    |false=>rw[ag5] at hdn;rw[hvf] at hpv hdn hpl;simp only[go_sem,i67,m1,m3,h',acC,hpv,Let.ps,hk1,iw,dZ,bY,hdn,hpl,n1,n2];exact aK
 have hvl:(if (d%2==0)=true then (d/2+1)%ls.length else d/2)<ls.length:=by
  split
  .exact hm0
  omega
 have:=body _ hvl (d%2==0) rfl (by cases hq:(d%2==0)<;>simp at hq ⊢ <;>omega);exact this
abbrev cq(ls:List Let):Nat->Nat:=gC ls (ae ls)
theorem Xp(ok:dS F ls){Q:cU}:
  ∀(fuel x:Nat) (sn:List Bool) (env:Env) (blk:aw),env 0=.one (.p (xu F ls))->env 4=.one (.hsl 3456128064 1 1 0 sn.length)->blk 3456128064=(1,some (.arr 4 1 (bP sn)))->
   env 7=vi x->x<sn.length->sn.length=2*ls.length+2*(ae ls).length->mM sn<fuel->
   (∀aah aaf,aah 0=env 0->aah 4=env 4->aah 5=env 5->aah 24=env 24->aah 25=env 25->aaf 3456128064=(1,some (.arr 4 1 (bP (cS (cq ls) fuel x sn).2)))->Q .normal aah aaf)->
   W S .all (.loop i54_l1) (eT 2 Q) env blk:=by
 have hal:(ae ls).length<=1000000:=abm (fC ls ls.length) ok.hl;have AN:∀x∈ae ls,x<ls.length:=fun x h=>G0 h;have hp:∀v l,ls[v]?=some l->(l.kind==2)=false->v∈ae ls:=fun v l hv h2=>dT.2 ⟨l,hv,ok.Ko hv h2⟩;intro fuel
 induction fuel with
 |zero=>intro x sn env blk _ _ _ _ _ _ h;omega
 |succ fuel ih=>
  intro x sn env blk h0 h4 hS h7 hx hsl hu hq;obtain⟨b,hb⟩:=ao hx;have hbp:=l5 hb;have hgd:sn.getD x true=b:=by rw[aaC,hb];rfl
  unfold cS at hq;rw[hgd] at hq;refine dQ ?_;cases b with
  |true=>simp only[go_sem,i54_l1,h4,hS,h7,hx,hbp];refine hq _ _ ?_ ?_ ?_ ?_ ?_ hS;all_goals simp only[go_sem,h4]
  |false=>
   have hun:=nW hb;have pt:=KO ok x (by omega);have hnl:=xM (d:=x) AN hp (by omega);have aaH:=Ah sn x true;simp only[go_sem,i54_l1,h0,h4,hS,h7,hx,hbp,aaH,s67,a7 pt];refine ih (gC ls (ae ls) x) (sn.set x true) _ _ ?_ ?_ ?_ ?_ (by simpa [hsl] using hnl) (by simpa using hsl) (by omega) ?_
   .simp only[go_sem,h0]
   .simp only[go_sem,h4,abV]
   .simp only[go_sem]
   .simp only[go_sem]
   intro aah aaf q0 q4 q5 q24 q25 b1;refine hq aah aaf ?_ ?_ ?_ ?_ ?_ b1
   .rw[q0];simp only[go_sem]
   .rw[q4];simp only[go_sem]
   .rw[q5];simp only[go_sem]
   .rw[q24];simp only[go_sem]
   rw[q25];simp only[go_sem]
theorem Xo(ok:dS F ls):aP S 54 [.one (.p (xu F ls))] (rb (dU ls==aA Let.aH ls+aA Let.aD ls/2+2)):=by
 have hl:=ok.hl;have hal:(ae ls).length<=ls.length:=fC ls ls.length;have m1:=eV (a:=ls.length) (by omega);have m2:=eV (a:=(ae ls).length) (by omega);have m3:=wrap_add (a:=2*ls.length) (b:=2*(ae ls).length) (by omega);have aa8:2*ls.length+2*(ae ls).length<=140737488355328:=by omega
 have abs:List.replicate (2*ls.length+2*(ae ls).length) [PV.bool false]=bP (List.replicate (2*ls.length+2*(ae ls).length) false):=by simp
 have hml:(mS ls ls.length).length=aA Let.aD ls/2:=by have:=ok.cr;unfold dK at this;simp only[aay,beq_iff_eq] at this;simp[mS,this.2]
 have hcc:aA Let.aD ls<=ls.length:=kI _ _;refine aJ c54 ?_;simp only[go_sem,i54,m1,m2,m3,aa8,abs];refine⟨aK,?_⟩;generalize hN:2*ls.length+2*(ae ls).length=N at aa8;refine aV (fun k env blk=>env 0=.one (.p (xu F ls))/\env 4=.one (.hsl 3456128064 1 1 0 N)/\blk 3456128064=(1,some (.arr 4 1 (bP (aL (cq ls) N k).2)))/\
   env 5=vi (aL (cq ls) N k).1.length/\env 24=vi N/\env 25=vi k) 0 N (aan _) ?_ ?_
 .simp only[go_sem];exact⟨rfl,rfl,rfl⟩
 rintro k env blk hk ⟨h0,h4,hS,h5,h24,h25⟩
 have hlen:=jw (cq ls) N k;have aeb:=ql (cq ls) N k;by_cases hlt:k<N
 .have aak:((k:Int)<(N:Int)):=by omega
  have w1:=ak (n:=k) (by omega);have hs:=eh (cq ls) N k;generalize hst:aL (cq ls) N k=st at hlen hs hS h5 aeb;obtain⟨out,sn⟩:=st;simp only at hlen hS h5 aeb;obtain⟨b,hb⟩:=ao (ls:=sn) (k:=k) (by omega);have hbp:=l5 hb;unfold fP at hs;have hgd:sn.getD k true=b:=by rw[aaC,hb];rfl
  simp only[hgd] at hs;cases b with
  |true=>have hs:aL (cq ls) N (k+1)=(out,sn):=hs;simp only[go_sem,i54_l3,i54_r2,h0,h4,hS,h5,h24,h25,hlt,aak,hbp,w1,hs]
  |false=>
   have hs:aL (cq ls) N (k+1)=(out++[(cS (cq ls) (N+1) k sn).1],(cS (cq ls) (N+1) k sn).2):=by rw[hs,hlen];rfl
   have hul:=m9 sn;have w2:=ak (n:=out.length) (by omega);simp only[go_sem,i54_l3,h4,hS,h5,h24,h25,hlt,aak,hbp,w2];refine Xp ok (N+1) k sn _ _ ?_ ?_ ?_ ?_ (by omega) (by omega) (by omega) ?_
   .simp only[go_sem,h0]
   .simp only[go_sem,h4,hlen]
   .simp only[go_sem,hS]
   .simp only[go_sem]
   intro aah aaf q0 q4 q5 q24 q25 b1;simp only[go_sem,h0,h4,h5,h24,h25] at q0 q4 q5 q24 q25;simp only[go_sem,i54_r2,q0,q4,q5,q24,q25,b1,w1,hs,hlt];simp
 have:k=N:=by omega
 subst this;have he:dU ls=(aL (cq ls) k k).1.length:=by unfold dU cP cq;rw[hN]
 rw[<- he] at h5;have w3:=wrap_add (a:=(ae ls).length) (b:=aA Let.aD ls/2) (by omega);have w4:IntKind.i64.wrap ((((ae ls).length+aA Let.aD ls/2:Nat):Int)+2)=(((ae ls).length+aA Let.aD ls/2+2:Nat):Int):=wrap_add (a:=(ae ls).length+aA Let.aD ls/2) (b:=2) (by omega);have hb:(((dU ls:Nat):Int)==(((ae ls).length+aA Let.aD ls/2+2:Nat):Int))=(dU ls==aA Let.aH ls+aA Let.aD ls/2+2):=by
  rw[lK];cases h:(dU ls==aA Let.aH ls+aA Let.aD ls/2+2) with
  |true=>simp at h ⊢;omega
  |false=>simp at h ⊢;omega
 simp only[go_sem,i54_l3,i54_r4,h0,h5,h24,h25,aS,yL,hml,w3,w4,hb];exact aK
abbrev Sb(id:Nat):Prop:=id=1280320128\/(cH id=37\/cH id=52\/cH id=53)
def Uy(F:Nat)(ls:List Let)(g:Nat)(blk:aw):Prop:= ∃g1 g2 g3 g4 g5,
 blk 1280320128=(g,some (.var (KP F ls (hs 3328128448 g2 ls.length) (hs 3329344128 g5 (ae ls).length) (hs 3328192448 g3 ls.length) (.aaT 3392256064 g4) (hs 3328064448 g1 (F+1)))))/\
 blk 3328064448=(g1,some (.arr 3 1 (nP (counts ls F))))/\blk 3328128448=(g2,some (.arr 4 1 (bP (eN ls))))/\blk 3328192448=(g3,some (.arr 3 1 (nP (sC ls ls.length))))/\
 blk 3329344128=(g5,some (.arr 3 1 (nP (ae ls))))/\blk 3392256064=(g4,some (.map true (mS ls ls.length)))
def CU(F:Nat)(ls:List Let):Bool:=decide (ls=[])||ib F ls
def Hv(F:Nat)(ls:List Let)(g:Nat)(abf:aw)(v:V)(aaf:aw):Prop:=v=vb (CU F ls)/\Kept Sb abf aaf/\(ls≠[]->ib F ls=true->Uy F ls g aaf)/\(ls=[]->aaf 1280320128=abf 1280320128)
theorem HE:S.sites 37=[37,52,53]:=by kernel_rfl
theorem Oi:S.sites 52=[52]:=by kernel_rfl
theorem Oh:S.sites 53=[53]:=by kernel_rfl
theorem Kept.Sx{K K':Nat->Prop}{a b:aw}(h:Kept K a b)(hk:∀id,K id->K' id):Kept K' a b:=fun id hn=>h id fun hh=>hn (hk id hh)
abbrev CT(g:Nat):List (List C):=[[.hfn 50 [.aam 1280320128 g 0] []],[.hfn 51 [.aam 1280320128 g 0] []],[.hfn 52 [.aam 1280320128 g 0] []],[.hfn 53 [.aam 1280320128 g 0] []],[.hfn 54 [.aam 1280320128 g 0] []]]
section
variable {al:Al} {Q:cU} {env:Env} {blk:aw} {g g0:Nat}
theorem NM(k:Nat){f:Nat}{dv:PV}{r:List Nat}{b:Bool}(hk:k<5)(hf:(CT g)[k]?=some [.hfn f [.aam 1280320128 g 0] []])(hsf:S.shared f=false)(oV:al.ok 2368192640=true)
  (h22:env 22=.one (hs 2368192640 g0 5)) (h23:env 23=vi 5) (h24:env 24=vi k) (bV:blk 2368192640=(g0,some (.aaJ 25 1 (CT g))))
  (hsn:gD blk (.one (.aam 1280320128 g 0))=some (.one (.p dv),r)) (hr:al.kY r=true) (hp:aP S f [.one (.p dv)] (rb b))
  (aeN:b=false->∀aah,aah 2=vb false->Q .ret aah blk)
  (agz:b=true->∀aah,aah 22=.one (hs 2368192640 g0 5)->aah 23=vi 5->aah 24=vi ((k+1:Nat):Int)->W S al (.loop i37_l1) Q aah blk):W S al (.loop i37_l1) Q env blk:=by
 refine dQ ?_;have hlt:((k:Int)<5):=by omega
 have w1:=ak (n:=k) (by omega);cases b with
 |false=>simp only[go_sem,i37_l1,h22,h23,h24,bV,hlt,hk,hf,hsf,oV,↓hsn,zc hp,hr];exact aeN rfl _ (by simp only[go_sem])
 |true=>
  simp only[go_sem,i37_l1,h22,h23,h24,bV,hlt,hk,hf,hsf,oV,↓hsn,zc hp,hr,w1];refine agz rfl _ ?_ ?_ ?_
  .simp only[go_sem,h22]
  .simp only[go_sem,h23]
  simp only[go_sem]
theorem NL(k:Nat){f:Nat}{P:V->aw->Prop}{b:Bool}(hk:k<5)(hf:(CT g)[k]?=some [.hfn f [.aam 1280320128 g 0] []])(hsf:S.shared f=true)(oV:al.ok 2368192640=true)
  (h22:env 22=.one (hs 2368192640 g0 5)) (h23:env 23=vi 5) (h24:env 24=vi k) (bV:blk 2368192640=(g0,some (.aaJ 25 1 (CT g))))
  (hh:al.holds (allow (S.ctx al) f [.one (.aam 1280320128 g 0)] blk)=true) (h:∃v aaf,nQ S f [.one (.aam 1280320128 g 0)] (allow (S.ctx al) f [.one (.aam 1280320128 g 0)] blk) blk v aaf/\P v aaf)
  (hP:∀v aaf,P v aaf->v=vb b)
  (aeN:b=false->∀v aah aaf,P v aaf->aah 2=vb false->Q .ret aah aaf)
  (agz:b=true->∀v aah aaf,P v aaf->aah 22=.one (hs 2368192640 g0 5)->aah 23=vi 5->aah 24=vi ((k+1:Nat):Int)->W S al (.loop i37_l1) Q aah aaf):W S al (.loop i37_l1) Q env blk:=by
 refine dQ ?_;have hlt:((k:Int)<5):=by omega
 have w1:=ak (n:=k) (by omega);simp only[go_sem,i37_l1,h22,h23,h24,bV,hlt,hk,hf,hsf,oV];refine gb hh h fun v aaf hp=>?_;have hv:=hP v aaf hp;subst hv;cases b with
 |false=>simp only[go_sem];exact aeN rfl _ _ _ hp (by simp only[go_sem])
 |true=>
  simp only[go_sem,h24,w1];refine agz rfl _ _ _ hp ?_ ?_ ?_
  .simp only[go_sem,h22]
  .simp only[go_sem,h23]
  simp only[go_sem]
end
theorem SA{al:Al}(okD:al.ok 1280320128=true)(okf:∀id,(cH id=37\/cH id=52\/cH id=53)->al.ok id=true)(f1:al.fs.contains 52=true)(f2:al.fs.contains 53=true)
  {blk:aw} {g F:Nat} {ls:List Let} (hl:ls.length<=1000000) (hF:F<=1000000)
  (bD:blk 1280320128=(g,some (.var (KP F ls (.p .nils) (.p .nils) (.p .nils) (.p .abn) (.p .nils))))):∃v aaf,nQ S 37 [.one (.aam 1280320128 g 0)] al blk v aaf/\Hv F ls g blk v aaf:=by
 have oV:=okf 2368192640 (.inl rfl);refine dO c37 (aaW rfl) ?_;by_cases he:ls=[]
 .subst he;have hz:(((0:Nat):Int)==0)=true:=by decide
  simp only[go_sem,i37,bD,hz,okD];exact⟨rfl,Kept.refl _ _,fun h=>absurd rfl h,fun _=>rfl⟩
 have aaP:=abh.2 he;have hnz:(((ls.length:Nat):Int)==0)=false:=by simp;omega
 obtain⟨l0,h0⟩:=ao aaP;have hde:decide (ls=[])=false:=by simp[he]
 have pl:=I0 F ls (.sl []) (.sl []) (.sl []) .abn (.sl []) hl ⟨rfl,rfl,rfl,rfl,rfl⟩;have pb:=M9 F ls l0 (.sl []) (.sl []) (.sl []) .abn (.sl []) hl h0;have anx:=j4 (F:=F) (ls:=ls);have fail:∀aah aaf,Kept Sb blk aaf->ib F ls=false->aah 2=vb false->eT 0 (qp S al i37_r2 (lh al [(2,none)] (Hv F ls g blk))) .ret aah aaf:=fun aah aaf hk hv h2=>by simp only[go_sem,h2];exact⟨by rw[CU,hde,hv];rfl,hk,fun _ h=>(by rw[hv] at h;cases h),fun h=>absurd h he⟩
 have noL:j5 F ls=false->ib F ls=false:=fun h=>by simp[ib,h]
 have aku:¬(ls.any (ch F)=false/\kz ls=true/\dK ls=true)->ib F ls=false:=fun h=>noL (by
  cases hq:j5 F ls with
  |false=>rfl
  |true=>exact absurd (anx.1 hq) h)
 simp only[go_sem,i37,bD,hnz,okD,oV];have hk1:Kept Sb blk (fY blk 2368192640 ((blk 2368192640).1+1,some (.aaJ 25 1 (CT g)))):=Kept.fY (Kept.refl _ _) (.inr (.inl rfl)) _;generalize hb1:fY blk 2368192640 ((blk 2368192640).1+1,some (.aaJ 25 1 (CT g)))=aao;rw[hb1] at hk1;have bV:aao 2368192640=((blk 2368192640).1+1,some (.aaJ 25 1 (CT g))):=by rw[<- hb1];simp only[go_sem]
 have bD:aao 1280320128=(g,some (.var (KP F ls (.p .nils) (.p .nils) (.p .nils) (.p .abn) (.p .nils)))):=by rw[<- hb1];simp only[go_sem,bD]
 clear hb1;have hsn:gD aao (.one (.aam 1280320128 g 0))=some (.one (.p (ZJ F ls (.sl []) (.sl []) (.sl []) .abn (.sl []))),[1280320128]):=by simp only[go_sem,bD]
 have hrd:al.kY [1280320128]=true:=by simp only[go_sem,okD]
 refine NM 0 (by omega) rfl s50 oV (by simp only[go_sem]) (by simp only[go_sem];rfl) (by simp only[go_sem];rfl) bV hsn hrd pl (fun hb aah h2=>fail aah aao hk1 (aku fun h=>by simp[h.1] at hb) h2) (fun hb aah q22 q23 q24=>?_);have hb1:ls.any (ch F)=false:=by simpa using hb
 have hbl:∀l∈ls,ch F l=false:=fun l hl=>by simpa using acW.1 hb1 l hl
 have hg:iV F ls:=fun l hl hp=>((dG hp).1 (hbl l hl)).1.1.1;refine NM 1 (by omega) rfl s51 oV q22 q23 q24 bV hsn hrd pb (fun hb aah h2=>fail aah aao hk1 (by simp only[ib,h0,hb];rfl) h2) (fun hbg aah q22 q23 q24=>?_);clear hb;have hre:cJ aao (.one (.aam 1280320128 g 0))=[1280320128]:=by rw[lD bD];simp[rI]
 refine NL (b:=kz ls) 2 (by omega) rfl (by kernel_rfl) oV q22 q23 q24 bV ?_ (Tk (dA (by simp[hre])) (fun id h=>ff (by rw[Oi,h];rfl)) hl hF hg bD) (fun v aaf h=>h.1) ?_ ?_
 .refine holds_of ?_ ?_
  .show al.kY ([V.one (.aam 1280320128 g 0)].map (cJ aao)).flatten=true;simp only[aaK,abi,hre,abt,ade,abo];exact hrd
  show(S.sites 52).all al.fs.contains=true;rw[Oi];simp only[abu,abL,f1];rfl
 .intro hb v aah aaf hp h2;exact fail aah aaf (hk1.trans (hp.2.1.Sx fun id h=>h.elim .inl fun h=>.inr (.inr (.inl h)))) (aku fun h=>by rw[h.2.1] at hb;cases hb) h2
 intro hrk v aah aal hp q22 q23 q24;obtain⟨_,hk2,hr2⟩:=hp;obtain⟨g1,g2,g3,g5,bD,bC,bW,bP',bA⟩:=hr2 hrk;have AN:Eo F ls:=by obtain⟨a,b⟩:=(jD hg).1 hrk;exact⟨a,b⟩
 rw[Rn AN] at bA;rw[Ar hg] at bD;have bV:aal 2368192640=((blk 2368192640).1+1,some (.aaJ 25 1 (CT g))):=by rw[<- bV];exact hk2 _ (by decide)
 have anF:Kept Sb blk aal:=hk1.trans (hk2.Sx fun id h=>h.elim .inl fun h=>.inr (.inr (.inl h)));have oC:=okf 3328064448 (.inr (.inl rfl));have oW:=okf 3328128448 (.inr (.inl rfl));have oP:=okf 3328192448 (.inr (.inl rfl));have oA:=okf 3329344128 (.inr (.inl rfl));have oM:=okf 3392256064 (.inr (.inr rfl));have agE:cJ aal (.one (.aam 1280320128 g 0))=[1280320128,3328128448,3329344128,3328192448,3328064448]:=by rw[lD bD];simp only[aaK,abi,rI,gR bW,gR bA,gR bP',gR bC,abt,ade,aaZ,abo,acp]
 refine NL (b:=dK ls) 3 (by omega) rfl (by kernel_rfl) oV q22 q23 q24 bV ?_ (QR (dA (by simp[agE])) (fun id h=>ff (by rw[Oh,h];rfl)) hl bD) (fun v aaf h=>h.1) ?_ ?_
 .refine holds_of ?_ ?_
  .show al.kY ([V.one (.aam 1280320128 g 0)].map (cJ aal)).flatten=true;simp only[aaK,abi,agE,abt,ade,abo,nu,oG,okD,oC,oW,oP,oA,acj]
  show(S.sites 53).all al.fs.contains=true;rw[Oh];simp only[abu,abL,f2];rfl
 .intro hb v aah aaf hp h2;exact fail aah aaf (anF.trans (hp.2.1.Sx fun id h=>h.elim .inl fun h=>.inr (.inr (.inr h)))) (aku fun h=>by rw[h.2.2] at hb;cases hb) h2
 intro hcr v aah aaB hp q22 q23 q24;obtain⟨_,hk3,hr3⟩:=hp;obtain⟨g4,bD,bM⟩:=hr3 hcr;have kp:∀id,cH id=52->aaB id=aal id:=fun id h=>hk3 id (by
  rintro (e|e)
  .rw[e] at h;revert h;decide
  rw[e] at h;revert h;decide)
 rw[<- kp _ rfl] at bC bW bP' bA;have bV:aaB 2368192640=((blk 2368192640).1+1,some (.aaJ 25 1 (CT g))):=by rw[<- bV];exact hk3 _ (by decide)
 have anE:Kept Sb blk aaB:=anF.trans (hk3.Sx fun id h=>h.elim .inl fun h=>.inr (.inr (.inr h)));have ok:dS F ls:=⟨hl,AN,hcr,fun l hl=>fU (hbl l hl)⟩;have pf:=Xo ok;have hlR:j5 F ls=true:=anx.2 ⟨hb1,hrk,hcr⟩;have hvr:ib F ls=(dU ls==aA Let.aH ls+aA Let.aD ls/2+2):=by
  have anU:(l0.kind==1)=true/\(aA Let.aH ls%2==0)=true:=by simpa using hbg
  simp only[ib,h0,anU.1,anU.2,hlR,acH]
 have t1:List.take ls.length (bP (eN ls))=bP (eN ls):=aa4 (by simp[eN]);have t2:List.take (ae ls).length (nP (ae ls))=nP (ae ls):=aa4 (by simp);have t3:List.take ls.length (nP (sC ls ls.length))=nP (sC ls ls.length):=aa4 (by simp[sC]);have t4:List.take (F+1) (nP (counts ls F))=nP (counts ls F):=aa4 (by simp[counts]);have n1:ls.length<=(eN ls).length:=by simp[eN]
 have n3:ls.length<=(sC ls ls.length).length:=by simp[sC]
 have n4:F+1<=(counts ls F).length:=by simp[counts]
 have hsn:gD aaB (.one (.aam 1280320128 g 0))=some (.one (.p (xu F ls)),[1280320128,3328128448,3329344128,3328192448,3392256064,3328064448]):=by simp only[go_sem,Be,bD,bW,bA,bP',bC,bM,xU,t1,t2,t3,t4,n1,n3,n4]
 have hrd:al.kY [1280320128,3328128448,3329344128,3328192448,3392256064,3328064448]=true:=by simp only[nu,oG,okD,oC,oW,oP,oA,oM,acj]
 refine NM 4 (by omega) rfl s54 oV q22 q23 q24 bV hsn hrd pf (fun hb aah h2=>fail aah aaB anE (by rw[hvr];exact hb) h2) (fun hfl aah q22 q23 q24=>?_);have hv:ib F ls=true:=by rw[hvr];exact hfl
 refine dQ ?_;have n5:¬((((4+1:Nat)):Int)<5):=by decide
 simp only[go_sem,i37_l1,i37_r2,q23,q24,n5];exact⟨by rw[CU,hde,hv];rfl,anE,fun _ _=>⟨g1,g2,g3,g4,g5,bD,bC,bW,bP',bA,bM⟩,fun h=>absurd h he⟩
abbrev QP(f:Int):PV:=ZJ f [] (.sl []) (.sl []) (.sl []) .abn (.sl [])
abbrev tS(a b:PV):RV:=.tup [.one (.p a),.one (.p b)]
def Bo(f:Int)(ls:List Let):RV:=if ay f ls=0 then tS (if ls=[] then QP f else xu f.toNat ls) (.int .i64 0) else tS .abN (.int .i64 (ay f ls))
theorem aN{blk:aw}{s:Nat}{a b:PV}{l:Bool}:land blk [] s ((tS a b).bn l)=some (.tup [.one (.p a),.one (.p b)],[]):=by cases l<;>rfl
theorem nk{f:Int}{e:Int}(h:ay f ls=e)(he:e≠0):Bo f ls=tS .abN (.int .i64 e):=by unfold Bo;rw[h,if_neg he]
theorem lO{f:Int}(h:ay f ls=0):Bo f ls=tS (if ls=[] then QP f else xu f.toNat ls) (.int .i64 0):=by unfold Bo;rw[if_pos h]
theorem Dp(f:Int)(ls:List Let)(hl:ls.length<=1000000):aP S 20 [bj f ls] (Bo f ls):=by
 have pc:=vD f ls hl;refine aJ c20 ?_;by_cases h1:400<ls.length
 .have h1':(400:Int)<(ls.length:Int):=by omega
  rw[nk (e:=7) (by unfold ay;rw[if_pos (Or.inl h1)]) (by decide)];simp only[go_sem,i20,h1'];rfl
 have h1':¬(400:Int)<(ls.length:Int):=by omega
 by_cases h2:200<aA Let.aD ls
 .have h2':(200:Int)<(aA Let.aD ls:Int):=by omega
  rw[nk (e:=7) (by unfold ay;rw[if_pos (Or.inr h2)]) (by decide)];simp only[go_sem,i20,h1',h2',s36,a7 pc];rfl
 have h2':¬(200:Int)<(aA Let.aD ls:Int):=by omega
 have n1:¬(400<ls.length\/200<aA Let.aD ls):=by omega
 by_cases h3:f<0
 .rw[nk (e:=2) (by unfold ay;rw[if_neg n1,if_pos (Or.inl h3)]) (by decide)];simp only[go_sem,i20,h1',h2',h3,s36,a7 pc];rfl
 by_cases h4:40<f
 .rw[nk (e:=2) (by unfold ay;rw[if_neg n1,if_pos (Or.inr h4)]) (by decide)];simp only[go_sem,i20,h1',h2',h3,h4,s36,a7 pc];rfl
 have n2:¬(f<0\/40<f):=by omega
 obtain⟨F,rfl⟩:=abX (show 0<=f by omega);have hsh:S.shared 37=true:=by kernel_rfl
 simp only[go_sem,i20,h1',h2',h3,h4,s36,a7 pc,hsh];refine gb (P:=Hv F ls 1 _) fy (SA (F:=F) (ls:=ls) ?_ ?_ ?_ ?_ hl (by omega) ?_) ?_
 .refine dA ?_;rw[aaK,abi,lD (g0:=1) (cs:=KP F ls (.p .nils) (.p .nils) (.p .nils) (.p .abn) (.p .nils)) (by simp only[go_sem])];simp
 .intro id h;refine ff ?_;rw[HE];rcases h with h|h|h<;>rw[h]<;>rfl
 .show(S.sites 37).contains _=true;rw[HE];rfl
 .show(S.sites 37).contains _=true;rw[HE];rfl
 .simp only[go_sem]
 rintro v aaf ⟨rfl,hk,hr,hz⟩
 unfold CU;by_cases he:ls=[]
 .have hc:ay F ls=0:=by unfold ay;rw[if_neg n1,if_neg n2,if_pos he]
  have bD:=hz he;rw[lO hc,if_pos he];have hde:(decide (ls=[])||ib F ls)=true:=by simp[he]
  rw[hde];subst he;simp only[go_sem] at bD;simp only[go_sem];simp only[go_sem,fH,jv,ii,ef,fJ,fR,bD];rfl
 have hde:decide (ls=[])=false:=by simp[he]
 cases hv:ib F ls with
 |false=>rw[nk (e:=3) (by unfold ay;rw[if_neg n1,if_neg n2,if_neg he,hv];rfl) (by decide)];rw[hde,acG];simp only[go_sem];rfl
 |true=>
  have hc:ay F ls=0:=by unfold ay;rw[if_neg n1,if_neg n2,if_neg he,hv];rfl
  rw[lO hc,if_neg he];obtain⟨g1,g2,g3,g4,g5,bD,bC,bW,bP',bA,bM⟩:=hr he hv;have hFn:(F:Int).toNat=F:=rfl;rw[hFn];have t1:List.take ls.length (bP (eN ls))=bP (eN ls):=aa4 (by simp[eN]);have t2:List.take (ae ls).length (nP (ae ls))=nP (ae ls):=aa4 (by simp);have t3:List.take ls.length (nP (sC ls ls.length))=nP (sC ls ls.length):=aa4 (by simp[sC]);have t4:List.take (F+1) (nP (counts ls F))=nP (counts ls F):=aa4 (by simp[counts]);have n1:ls.length<=(eN ls).length:=by simp[eN]
  have n3:ls.length<=(sC ls ls.length).length:=by simp[sC]
  have n4:F+1<=(counts ls F).length:=by simp[counts]
  rw[hde,acG];simp only[go_sem];simp only[go_sem,fH,jv,ii,ef,fJ,fR,Be,bD,bW,bA,bP',bC,bM,xU,t1,t2,t3,t4,n1,n3,n4];rfl
theorem se(f:Int)(ls:List Let)(hl:ls.length<=1000000):aP S 8 [bj f ls] (ri (ay f ls)):=by
 have pr:=Dp f ls hl;refine aJ c8 ?_;unfold Bo at pr;by_cases h:ay f ls=0
 .rw[if_pos h] at pr;simp only[go_sem,i8,s20,aq pr aN,h]
 rw[if_neg h] at pr;simp only[go_sem,i8,s20,aq pr aN]
abbrev rQ(k a b c:Int)(l o:Bool)(s:Int):V:=.agg [.p (.int .i64 k),.p (.int .i64 a),.p (.int .i64 b),.p (.int .i64 c),.p (.bool l),.p (.bool o),.p (.int .i64 s)]
abbrev gE(e:Int):RV:=.tup [.agg [.p (.int .i64 0),.p .nils],.one (.p (.int .i64 e))]
theorem MA{blk:aw}{s:Nat}{e:Int}{l:Bool}:land blk [] s ((gE e).bn l)=some (.tup [.agg [.p (.int .i64 0),.p .nils],.one (.p (.int .i64 e))],[]):=by cases l<;>rfl
section
variable {f:Int} {ls:List Let} {e:Int}
abbrev kinds(k:Nat):List Nat:=(List.range k).map (· +1)
end
def gJ(n v:Nat)(fw:Bool):Nat:=if fw then 2*((v+n-1)%n) else 2*v+1
def lvV(n e:Nat):Nat:=if e%2=0 then e/2 else (e/2+1)%n
theorem ft{n v:Nat}(hv:v<n):((v+n-1)%n+1)%n=v:=by
 by_cases h:v=0
 .subst h;rw[abd,aa7 (show n-1<n by omega),show n-1+1=n by omega,acK]
 rw[show v+n-1=(v-1)+n by omega,acn,aa7 (show v-1<n by omega),show v-1+1=v by omega,aa7 hv]
theorem jX{n v:Nat}(hv:v<n):((v+1)%n+n-1)%n=v:=by
 by_cases h:v+1=n
 .rw[h,acK,abd,aa7 (show n-1<n by omega)];omega
 rw[aa7 (show v+1<n by omega),show v+1+n-1=v+n by omega,acn,aa7 hv]
theorem FN{n v:Nat}(hv:v<n)(g:Bool):lvV n (aI n v g)=v/\(aI n v g%2==0)=g:=by
 unfold lvV aI;cases g with
 |true=>
  have h1:(2*v)%2=0:=by omega
  simp only[if_true,h1];exact⟨by omega,rfl⟩
 |false=>
  have h1:(2*((v+n-1)%n)+1)%2=1:=by omega
  have h2:(2*((v+n-1)%n)+1)/2=(v+n-1)%n:=by omega
  simp only[aaE,if_false,h1,h2,Nat.one_ne_zero,ft hv];exact⟨trivial,rfl⟩
def Bq(ls:List Let)(ax:List Nat)(e:Nat):Nat:=
 if 2*ls.length<=e then
  if e%2=0 then gJ ls.length (ax.getD ((e-2*ls.length)/2) 0) (dn ls (ax.getD ((e-2*ls.length)/2) 0))
  else gJ ls.length (ax.getD (((e-2*ls.length)/2+1)%ax.length) 0) (!dn ls (ax.getD (((e-2*ls.length)/2+1)%ax.length) 0))
 else
  let v:=lvV ls.length e
  let g:=e%2==0
  match ls[v]? with
  |none=>0
  |some l=>if l.kind==2 then
    match ls[bN ls v]? with
    |some u=>gJ ls.length (bN ls v) (g==(u.over==(u.sign==1)))
    |none=>0
   else if g==dn ls v then 2*ls.length+2*ax.idxOf v+1 else 2*ls.length+2*((ax.idxOf v+ax.length-1)%ax.length)
theorem bt(hr:dK ls=true){i:Nat}{l:Let}(hl:ls[i]?=some l)(hc:l.aD=true):bN ls (bN ls i)=i/\ ∃m,ls[bN ls i]?=some m/\m.aD=true/\m.id=l.id/\m.over= !l.over/\m.sign=l.sign:=by
 obtain⟨h1,h2⟩:=rL hr hl hc;obtain⟨_,h3⟩:=jx h1;obtain⟨m,hm,mc,mi,mo⟩:=iF h3;have hp:oE ls:=by have:=hr;unfold dK at this;simp only[aay,beq_iff_eq,aba,aaX] at this;exact(xA.1 this.1.2).2
 have hne:i≠bN ls i:=by intro e;rw[<- e,hl] at hm;cases hm;revert mo;cases l.over<;>simp
 obtain⟨h4,h5⟩:=rL hr hm mc;obtain⟨_,h6⟩:=jx h4;obtain⟨x,hx,xc,xi,xo⟩:=iF h6;refine⟨?_,m,hm,mc,mi,mo,((hp i _ l m hl hm hc mc mi.symm hne).2).symm⟩;refine Decidable.byContradiction fun hn=>?_;have:=(hp _ i x l hx hl xc hc (by rw[xi,mi]) hn).1;rw[xo,mo] at this;revert this;cases l.over<;>simp
theorem A7{ax:List Nat}{d v:Nat}{fw:Bool}{l:Let}(h:¬2*ls.length<=d)(hfw:(d%2==0)=fw)(hv:v=if fw then (d/2+1)%ls.length else d/2)(hl:ls[v]?=some l):
  gC ls ax d=if l.kind==2 then aI ls.length (bN ls v) (fw==(l.over==(l.sign==1)))
   else if dn ls v==fw then 2*ls.length+2*ax.idxOf v else 2*ls.length+2*((ax.idxOf v+ax.length-1)%ax.length)+1:=by
 subst hfw;subst hv;unfold gC;rw[if_neg h];simp only[hl]
theorem Bp(ok:dS F ls){d:Nat}(hd:d<2*ls.length+2*(ae ls).length):Bq ls (ae ls) (gC ls (ae ls) d)=d:=by
 have AN:∀x∈ae ls,x<ls.length/\ ∃l,ls[x]?=some l/\l.aH=true:=fun x hx=>by obtain⟨l,h1,h2⟩:=dT.1 hx;exact⟨(aai.1 h1).1,l,h1,h2⟩
 have ak0:∀ {p v:Nat},(ae ls)[p]?=some v->(ae ls).idxOf v=p:=fun {p v} hp=>by obtain⟨l,hl,hlp,he⟩:=lz ok.ax hp;rw[nN ok.ax hl hlp,he]
 have along_small:∀ {v:Nat} (g:Bool),v<ls.length-> ¬2*ls.length<=aI ls.length v g:=fun {v} g hv=>by have:=lL (n:=ls.length) (fw:=g) hv;omega
 have notC:∀ {l:Let},l.aH=true->(l.kind==2)=false:=fun {l} h=>dL h;have fromAxis:∀ {p v:Nat} (g:Bool),(ae ls)[p]?=some v->Bq ls (ae ls) (aI ls.length v g)=if g==dn ls v then 2*ls.length+2*p+1 else 2*ls.length+2*((p+(ae ls).length-1)%(ae ls).length):=by intro p v g hp;obtain⟨hv,l,hl,hlp⟩:=AN v (aae hp);obtain⟨e1,e2⟩:=FN hv g;unfold Bq;rw[if_neg (along_small g hv)];simp only[e1,e2,hl,notC hlp,ak0 hp];rfl
 by_cases h:2*ls.length<=d
 .unfold gC;rw[if_pos h];have hm:=aaN ((d-2*ls.length)/2+1) (show 0<(ae ls).length by omega);by_cases h2:d%2=0
  .rw[if_pos h2];obtain⟨v,hv⟩:=ao hm;have hv2:(ae ls).getD (((d-2*ls.length)/2+1)%(ae ls).length) 0=v:=by rw[aaC,hv];rfl
   rw[hv2,fromAxis _ hv];have hb:((!dn ls v)==dn ls v)=false:=by cases dn ls v<;>rfl
   rw[hb,jX (show(d-2*ls.length)/2<(ae ls).length by omega)];simp only[aaE,if_false];omega
  rw[if_neg h2];obtain⟨v,hv⟩:=ao (ls:=ae ls) (k:=(d-2*ls.length)/2) (by omega);have hv2:(ae ls).getD ((d-2*ls.length)/2) 0=v:=by rw[aaC,hv];rfl
  rw[hv2,fromAxis _ hv];simp only[beq_self_eq_true,if_true];omega
 have hn:0<ls.length:=by omega
 have hm0:=aaN (d/2+1) hn;have key:∀(v:Nat) (fw:Bool),v<ls.length->(d%2==0)=fw->v=(if fw then (d/2+1)%ls.length else d/2)->gJ ls.length v fw=d:=by
  intro v fw hv hfw hvf;unfold gJ;cases fw with
  |true=>
   have hfw:d%2=0:=by simpa using hfw
   simp only[if_true] at hvf ⊢;rw[hvf,jX (show d/2<ls.length by omega)];omega
  |false=>
   have hfw:d%2≠0:=by simpa using hfw
   simp only[aaE,if_false] at hvf ⊢;omega
 generalize hv:(if (d%2==0)=true then (d/2+1)%ls.length else d/2)=v;generalize hfw:(d%2==0)=fw at hv;have hvl:v<ls.length:=by rw[<- hv];split<;>omega
 have akX:=key v fw hvl hfw hv.symm;obtain⟨l,hl⟩:=ao hvl;rw[A7 h hfw hv.symm hl];cases hk:(l.kind==2) with
 |true=>
  have hc:l.aD=true:=hk;obtain⟨hb,m,hm,mc,mi,mo,ms⟩:=bt ok.cr hl hc;have hol:=(rL ok.cr hl hc).2;rw[if_pos rfl];obtain⟨e1,e2⟩:=FN hol (fw==(l.over==(l.sign==1)));unfold Bq;rw[if_neg (along_small _ hol)];have mk:(m.kind==2)=true:=mc;simp only[e1,e2,hm,mk,if_true,hb,hl];have hbb:((fw==(l.over==(l.sign==1)))==(l.over==(l.sign==1)))=fw:=by cases fw<;>cases (l.over==(l.sign==1))<;>rfl
  rw[hbb];exact akX
 |false=>
  have hp:=ok.Ko hl hk;have hix:=nN ok.ax hl hp;have hpl:=pK ok.ax hl hp;have hpT:=(aai.1 hpl).1;rw[if_neg (by simp),hix];cases hq:(dn ls v==fw) with
  |true=>
   simp only[if_true];unfold Bq;rw[if_pos (by omega),if_pos (by omega)];have e1:(2*ls.length+2*cY ls l-2*ls.length)/2=cY ls l:=by omega
   have e2:(ae ls).getD (cY ls l) 0=v:=by rw[aaC,hpl];rfl
   rw[e1,e2,show dn ls v=fw by simpa using hq];exact akX
  |false=>
   have hml:=aaN (cY ls l+(ae ls).length-1) (show 0<(ae ls).length by omega);simp only[aaE,if_false];unfold Bq;rw[if_pos (by omega),if_neg (by omega)];have e1:(2*ls.length+2*((cY ls l+(ae ls).length-1)%(ae ls).length)+1-2*ls.length)/2=(cY ls l+(ae ls).length-1)%(ae ls).length:=by omega
   have e2:(ae ls).getD (cY ls l) 0=v:=by rw[aaC,hpl];rfl
   rw[e1,ft hpT,e2,show(!dn ls v)=fw by revert hq;cases dn ls v<;>cases fw<;>simp];exact akX
theorem NQ(ok:dS F ls){d e:Nat}(hd:d<2*ls.length+2*(ae ls).length)(he:e<2*ls.length+2*(ae ls).length)(h:cq ls d=cq ls e):d=e:=by have h1:=Bp ok hd;have h2:=Bp ok he;rw[<- h1,<- h2];exact congrArg _ h
def Yb(next:Nat->Nat)(n2:Nat):Nat->Nat->List Bool->List Nat×List Bool
 |0,_,sp=>([],sp)
 |k+1,x,sp=>if x<n2 then
   if sp.getD x true then ([],sp) else (x::(Yb next n2 k (next x) (sp.set x true)).1,(Yb next n2 k (next x) (sp.set x true)).2)
  else (x::(Yb next n2 k (next x) sp).1,(Yb next n2 k (next x) sp).2)
abbrev sn(S:List Bool)(x:Nat):Bool:=S.getD x true
theorem xX{S:List Bool}{y:Nat}(hx:x<S.length):sn (S.set x true) y=if y=x then true else sn S y:=by
 unfold sn;rw[aaC,aaC,abI];by_cases h:x=y
 .subst h;simp[hx]
 rw[if_neg h,if_neg (fun e=>h e.symm)]
structure As (next:Nat->Nat) (n2 N:Nat):Prop where
 le:n2<=N
 lt:∀x,x<N->next x<N
 inj:∀x y,x<N->y<N->next x=next y->x=y
 ax:∀x,x<N->n2<=x->next x<n2
def Aw(next:Nat->Nat)(N:Nat)(S:List Bool):Prop:=∀y,y<N->sn S y=sn S (next y)
structure Inv (next:Nat->Nat) (N d:Nat) (S:List Bool) (x:Nat):Prop where
 i1:∀y,y<N->sn S (next y)=true->sn S y=true\/next y=d
 i2:∀y,y<N->sn S y=true->sn S (next y)=true\/next y=x
 i4:sn S x=true->x=d
 pr:(x=d/\sn S x=false)\/ ∃p,p<N/\next p=x/\sn S p=true
theorem Inv.start{next:Nat->Nat}{N d:Nat}{S:List Bool}(h:Aw next N S)(hd:sn S d=false):Inv next N d S d:=
 ⟨fun y hy hs=>.inl (by rw[h y hy];exact hs),fun y hy hs=>.inl (by rw[<- h y hy];exact hs),fun _=>rfl,.inl ⟨rfl,hd⟩⟩
theorem Inv.stop{next:Nat->Nat}{N d:Nat}{S:List Bool}(m:As next n2 N)(h:Inv next N d S x)(hx:sn S x=true):Aw next N S:=by
 have hxd:=h.i4 hx;subst hxd;intro y hy;cases h1:sn S y with
 |true=>
  rcases h.i2 y hy h1 with h2|h2
  .rw[h2]
  rw[h2,hx]
 |false=>
  cases h2:sn S (next y) with
  |false=>rfl
  |true=>
   rcases h.i1 y hy h2 with h3|h3
   .rw[h3] at h1;cases h1
   rcases h.pr with ⟨_,h4⟩|⟨p,hp,hpx,hps⟩
   .rw[hx] at h4;cases h4
   have:=m.inj y p hy hp (by rw[h3,hpx]);rw[this,hps] at h1;cases h1
theorem Inv.step{next:Nat->Nat}{N d:Nat}{S:List Bool}(m:As next n2 N)(hl:S.length=N)(hxN:x<N)(h:Inv next N d S x)(hx:sn S x=false):Inv next N d (S.set x true) (next x):=by
 have hxl:x<S.length:=by omega
 refine⟨fun y hy hs=>?_,fun y hy hs=>?_,fun hs=>?_,.inr ⟨x,hxN,rfl,by rw[xX hxl,if_pos rfl]⟩⟩
 .rw[xX hxl] at hs ⊢;by_cases e:next y=x
  .rcases h.pr with ⟨h1,_⟩|⟨p,hp,hpx,hps⟩
   .exact .inr (by rw[e,h1])
   have:=m.inj y p hy hp (by rw[e,hpx]);left;rw[this];split
   .rfl
   exact hps
  rw[if_neg e] at hs;rcases h.i1 y hy hs with h2|h2
  .left;split
   .rfl
   exact h2
  exact .inr h2
 .rw[xX hxl] at hs ⊢;by_cases e:y=x
  .subst e;exact .inr rfl
  rw[if_neg e] at hs;rcases h.i2 y hy hs with h2|h2
  .left;split
   .rfl
   exact h2
  left;rw[if_pos h2]
 rw[xX hxl] at hs;by_cases e:next x=x
 .rcases h.pr with ⟨h1,_⟩|⟨p,hp,hpx,hps⟩
  .rw[e,h1]
  have:=m.inj p x hp hxN (by rw[hpx,e]);rw[this,hx] at hps;cases hps
 rw[if_neg e] at hs;rcases h.i1 x hxN hs with h2|h2
 .rw[hx] at h2;cases h2
 exact h2
theorem Dh{S:List Bool}(hx:x<n2)(hl:n2<=S.length):(S.take n2).getD x true=sn S x:=by unfold sn;rw[aaC,aaC,aby,if_pos hx]
theorem vZ{S:List Bool}:(S.take n2).set x true=(S.set x true).take n2:=by rw[<- List.take_set]
theorem v6{S:List Bool}(hx:n2<=x):(S.set x true).take n2=S.take n2:=by rw[List.take_set];exact List.set_eq_of_length_le (by rw[aa2];omega)
theorem Lh{next:Nat->Nat}{N d:Nat}(m:As next n2 N)(hd:d<n2):∀(fuel x:Nat) (S:List Bool),S.length=N->x<N->Inv next N d S x->mM S<fuel->
  Aw next N (cS next fuel x S).2/\Yb next n2 fuel x (S.take n2)=((cS next fuel x S).1,(cS next fuel x S).2.take n2):=by
 intro fuel
 induction fuel with
 |zero=>intro x S _ _ _ h;omega
 |succ fuel ih=>
  intro x S hl hx hi hu;have hle:=m.le;unfold cS Yb;cases hs:S.getD x true with
  |true=>
   have hxd:=hi.i4 hs;have hlt:x<n2:=by omega
   rw[if_pos hlt,Dh hlt (by omega),show sn S x=true from hs];exact⟨hi.stop m hs,rfl⟩
  |false=>
   have hsx:S[x]?=some false:=by
    rw[aaC] at hs;cases h1:S[x]? with
    |none=>rw[h1] at hs;cases hs
    |some b=>rw[h1] at hs;exact congrArg some hs
   have hun:=nW hsx;obtain⟨c1,c2⟩:=ih (next x) (S.set x true) (by rw[abV,hl]) (m.lt x hx) (hi.step m hl hx hs) (by omega);simp only[aaE,if_false];refine⟨c1,?_⟩;by_cases hlt:x<n2
   .rw[if_pos hlt,Dh hlt (by omega),show sn S x=false from hs];simp only[aaE,if_false];rw[vZ,c2]
   rw[if_neg hlt];rw[v6 (by omega)] at c2;rw[c2]
theorem dS.AN(_:dS F ls):∀x∈ae ls,x<ls.length:=fun _ h=>G0 h
theorem dS.hp(ok:dS F ls):∀v l,ls[v]?=some l->(l.kind==2)=false->v∈ae ls:=fun _ l hv h2=>dT.2 ⟨l,hv,ok.Ko hv h2⟩
abbrev nD(ls:List Let):Nat:=2*ls.length+2*(ae ls).length
theorem maps(ok:dS F ls):As (cq ls) (2*ls.length) (nD ls):=by
 refine⟨by unfold nD;omega,fun x hx=>xM ok.AN ok.hp hx,fun x y hx hy h=>NQ ok hx hy h,fun x hx hn=>?_⟩;have hx:x<2*ls.length+2*(ae ls).length:=hx;have adz:∀k,k<(ae ls).length->(ae ls).getD k 0<ls.length:=fun k hk=>by obtain⟨v,hv⟩:=ao hk;rw[aaC,hv];exact ok.AN v (aae hv)
 have hm:=aaN ((x-2*ls.length)/2+1) (show 0<(ae ls).length by omega);show gC ls (ae ls) x<_;unfold gC;rw[if_pos hn];split
 .exact lL (adz _ hm)
 exact lL (adz _ (by omega))
theorem A5(next:Nat->Nat):∀(k x:Nat) (S:List Bool) (y:Nat),sn S y=true->sn (cS next k x S).2 y=true:=by
 intro k
 induction k with
 |zero=>intro x S y h;exact h
 |succ k ih=>
  intro x S y h;unfold cS;split
  .exact h
  refine ih _ _ _ ?_;unfold sn;rw[aaC,abI];split
  .split<;>rfl
  rw[<- aaC];exact h
theorem vX(next:Nat->Nat)(k x:Nat)(S:List Bool)(hk:mM S<k):sn (cS next k x S).2 x=true:=by
 cases k with
 |zero=>omega
 |succ k=>
  unfold cS;cases hs:S.getD x true with
  |true=>simpa using hs
  |false=>
   simp only[aaE,if_false];refine A5 _ _ _ _ _ ?_;unfold sn;rw[aaC,abI];split
   .split<;>rfl
   rename_i h;exact absurd rfl h
section
variable {next:Nat->Nat} {n2 N:Nat}
theorem HD(h:x<N):sn (List.replicate N false) x=false:=by unfold sn;rw[aaC,List.getElem?_replicate,if_pos h];rfl
theorem jK(m:As next n2 N):∀k,k<=n2->Aw next N (aL next N k).2/\ ∀x,x<k->sn (aL next N k).2 x=true:=by
 intro k
 induction k with
 |zero=>intro _;refine⟨fun y hy=>?_,fun x h=>absurd h (abW x)⟩;show sn (List.replicate N false) y=sn (List.replicate N false) (next y);rw[HD hy,HD (m.lt y hy)]
 |succ k ih=>
  intro hk;obtain⟨c,s⟩:=ih (by omega);have hlen:=jw next N k;have hle:=m.le;rw[eh];unfold fP;cases hs:(aL next N k).2.getD k true with
  |true=>
   simp only[if_true];refine⟨c,fun x hx=>?_⟩;rcases abC.1 hx with h|rfl
   .exact s x h
   exact hs
  |false=>
   simp only[aaE,if_false];have hul:=m9 (aL next N k).2;obtain⟨c1,_⟩:=Lh m (show k<n2 by omega) ((aL next N k).2.length+1) k (aL next N k).2 hlen (by omega) (Inv.start c hs) (by omega);refine⟨c1,fun x hx=>?_⟩;rcases abC.1 hx with h|rfl
   .exact A5 _ _ _ _ _ (s x h)
   exact vX _ _ _ _ (by omega)
theorem sX(m:As next n2 N):∀k,n2<=k->k<=N->aL next N k=aL next N n2:=by
 intro k
 induction k with
 |zero=>intro h _;rw[show n2=0 by omega]
 |succ k ih=>
  intro h1 h2;by_cases e:n2=k+1
  .rw[e]
  rw[eh,ih (by omega) (by omega)];obtain⟨c,s⟩:=jK m n2 (aaj _);unfold fP;have:(aL next N n2).2.getD k true=true:=by have h3:=c k (by omega);have h4:=s (next k) (m.ax k (by omega) (by omega));show sn (aL next N n2).2 k=true;rw[h3,h4]
  rw[this];rfl
end

abbrev Ax(o:List (Nat×Nat)):List (List PV):=o.map fun p=>[PV.int .i64 (p.1:Int),PV.int .i64 (p.2:Int)]
def jt(g r to:Nat):List (Nat×Nat):=(g,r)::(List.range (to-g)).map fun i=>(g+1+i,0)
def kM(g to:Nat):List Nat:=(List.range (to-g)).map fun i=>g+1+i
abbrev Dv:Nat:=159
def gN (ls:List Let)(i:Nat):Nat:=match ls[i]? with|some l=>l.gate.toNat|none=>0
def rN (ls:List Let)(i:Nat):Nat:=match ls[i]? with|some l=>l.aag.toNat|none=>0
theorem ze{i:Nat}{l:Let}(h:ls[i]?=some l):gN ls i=l.gate.toNat:=by simp[gN,h]
theorem Yy{i:Nat}{l:Let}(h:ls[i]?=some l):rN ls i=l.aag.toNat:=by simp[rN,h]
def ie(F:Nat)(ls:List Let)(j:Nat):List (Nat×Nat):=
 let u:=(ae ls).getD j 0
 let v:=(ae ls).getD ((j+1)%(ae ls).length) 0
 if j+1<(ae ls).length then jt (gN ls u) (rN ls u) (gN ls v) else jt (gN ls u) (rN ls u) F++jt 0 0 (gN ls v)
def ow(F:Nat)(ls:List Let)(j:Nat):List Nat:=
 let u:=(ae ls).getD j 0
 let v:=(ae ls).getD ((j+1)%(ae ls).length) 0
 if j+1<(ae ls).length then kM (gN ls u) (gN ls v) else kM (gN ls u) F++kM 0 (gN ls v)
theorem rK(a b:List (Nat×Nat)):Ax (a++b)=Ax a++Ax b:=by simp
theorem vk(a b:List Nat):nP (a++b)=nP a++nP b:=by simp
theorem fV(g r to:Nat):(jt g r to).length=to-g+1:=by simp[jt]
theorem rC(g to:Nat):(kM g to).length=to-g:=by simp[kM]
theorem GX(ok:dS F ls)(hj:j<(ae ls).length):∃u l,(ae ls)[j]?=some u/\(ae ls).getD j 0=u/\ls[u]?=some l/\l.aH=true/\lU F ls l:=by obtain⟨u,hu⟩:=ao hj;obtain⟨l,h1,h2⟩:=dT.1 (aae hu);exact⟨u,l,hu,by rw[aaC,hu];rfl,h1,h2,ok.ax.dX l (aae h1) h2⟩
structure Fc where
 aaw:Bool
 aap:List Nat
 places:List (Nat×Nat)
 aaS:List Nat
 outer:Bool
def Fc.ps(f:Fc):List PV:=[.bool f.aaw,.sl (nP f.aap),.sl (Ax f.places),.sl (nP f.aaS),.bool f.outer]
def Fc.add(F:Nat)(ls:List Let)(f:Fc)(x:Nat):Fc:=
 if x<2*ls.length then {f with aap:=f.aap++[x]}
 else {f with places:=f.places++(if x%2=0 then ie F ls ((x-2*ls.length)/2) else (ie F ls ((x-2*ls.length)/2)).reverse),aaS:=f.aaS++(if x%2=0 then ow F ls ((x-2*ls.length)/2) else (ow F ls ((x-2*ls.length)/2)).reverse),outer:=f.outer||decide ((x-2*ls.length)/2+1=(ae ls).length)}
def Fc.new(ls:List Let)(d:Nat):Fc:=⟨dn ls (d/2+1),[],[],[],false⟩
def gI(F:Nat)(ls:List Let)(w:List Nat):Fc:=w.foldl (Fc.add F ls) (Fc.new ls (w.headD 0))
def aW(F:Nat)(ls:List Let):List Fc:=(cP (cq ls) (nD ls)).map (gI F ls)
theorem KC(ok:dS F ls)(hj:j<(ae ls).length):gN ls ((ae ls).getD j 0)<=F:=by obtain⟨u,l,_,du,hl,_,hg⟩:=GX ok hj;rw[du,ze hl];have:=hg.g1;have:=hg.g0;omega
theorem yy(ok:dS F ls)(hj:j<(ae ls).length):(ie F ls j).length<=2*F+2:=by have h1:=KC ok hj;have h2:=KC ok (aaN (j+1) (show 0<(ae ls).length by omega));unfold ie;simp only;split<;>simp only[aaY,fV]<;>omega
theorem yz(ok:dS F ls)(hj:j<(ae ls).length):(ow F ls j).length<=2*F+2:=by have h1:=KC ok hj;have h2:=KC ok (aaN (j+1) (show 0<(ae ls).length by omega));unfold ow;simp only;split<;>simp only[aaY,rC]<;>omega
theorem Li(next:Nat->Nat):∀(k x:Nat) (S:List Bool),∀y∈(cS next k x S).1,y<S.length:=by
 intro k
 induction k with
 |zero=>intro x S y h;simp[cS] at h
 |succ k ih=>
  intro x S y h;unfold cS at h;cases hs:S.getD x true with
  |true=>rw[hs] at h;simp at h
  |false=>
   rw[hs] at h;have hx:x<S.length:=by
    rcases Nat.lt_or_ge x S.length with h1|h1
    .exact h1
    rw[aaC,abS h1] at hs;cases hs
   simp only[aaE,if_false,aat] at h;rcases h with rfl|h
   .exact hx
   have:=ih _ _ y h
   simpa using this
theorem Hu(next:Nat->Nat):∀(k x:Nat) (S:List Bool),(cS next k x S).1.length<=mM S:=by
 intro k
 induction k with
 |zero=>intro x S;simp[cS]
 |succ k ih=>
  intro x S;unfold cS;cases hs:S.getD x true with
  |true=>simp
  |false=>
   have hsx:S[x]?=some false:=by
    rw[aaC] at hs;cases h1:S[x]? with
    |none=>rw[h1] at hs;cases hs
    |some b=>rw[h1] at hs;exact congrArg some hs
   have hun:=nW hsx;have:=ih (next x) (S.set x true);simp only[aaE,if_false,aaz];omega
theorem xI(next:Nat->Nat){k:Nat}{S:List Bool}(h:S.getD x true=false):∃t,(cS next (k+1) x S).1=x::t:=by unfold cS;rw[h];exact⟨_,rfl⟩
theorem CR(next:Nat->Nat)(N:Nat):∀k,∀w∈(aL next N k).1,(∃d t,w=d::t/\d<k)/\w.length<=N/\ ∀y∈w,y<N:=by
 intro k
 induction k with
 |zero=>intro w h;simp[aL] at h
 |succ k ih=>
  intro w h;rw[eh] at h;unfold fP at h;have hlen:=jw next N k;have old:w∈(aL next N k).1->(∃d t,w=d::t/\d<k+1)/\w.length<=N/\ ∀y∈w,y<N:=fun h=>by obtain⟨⟨d,t,h1,h2⟩,h3⟩:=ih w h;exact⟨⟨d,t,h1,by omega⟩,h3⟩
  cases hs:(aL next N k).2.getD k true with
  |true=>simp only[hs,if_true] at h;exact old h
  |false=>
   simp only[hs,aaE,if_false,aaR,abJ] at h;rcases h with h|rfl
   .exact old h
   obtain⟨t,ht⟩:=xI next (k:=(aL next N k).2.length) hs;refine⟨⟨k,t,ht,by omega⟩,?_,fun y hy=>?_⟩
   .have h1:=Hu next ((aL next N k).2.length+1) k (aL next N k).2;have h2:=m9 (aL next N k).2;omega
   have:=Li next _ _ _ y hy;omega
theorem jd(ok:dS F ls):∀w∈cP (cq ls) (nD ls),(∃d t,w=d::t/\d<2*ls.length)/\w.length<=nD ls/\ ∀y∈w,y<nD ls:=by intro w h;unfold cP at h;rw[sX (maps ok) (nD ls) (by unfold nD;omega) (aaj _)] at h;exact CR (cq ls) (nD ls) _ w h
abbrev A1:Nat:=135
theorem Wp{a b:PV}{id g z o l:Nat}{cp cf:C}:sH [[.p a,.hsl id g z o l,cp,cf,.p b]]=none:=rfl
theorem IV{blk:aw}{s g ty sd td zd sp tp zp sf tf zf:Nat}{a o:Bool}{cd cp cf:C}{D P G:List (List PV)}(hb:blk s=(g,some (.aaJ ty 5 [[.p (.bool a),cd,cp,cf,.p (.bool o)]])))(gd:grown sd td zd D (.one cd) blk)(gp:grown sp tp zp P (.one cp) blk)(gf:grown sf tf zf G (.one cf) blk):
  ∃fr,aO blk (.one (.hsl s g 5 0 1))=some ([[.bool a,.sl D,.sl P,.sl G,.bool o]],[s],fr)/\fD blk fr/\ ∀i∈fr,i=sd\/i=sp\/i=sf:=by
 obtain⟨r1,n1,a1,q1⟩:=gd.JG;obtain⟨r2,n2,a2,q2⟩:=gp.JG;obtain⟨r3,n3,a3,q3⟩:=gf.JG;refine⟨r1++(r2++r3),?_,a1.app (a2.app a3),fun i hi=>?_⟩
 .simp only[aO,hb];simp[collect,n1,n2,n3,Dd,PV.norm]
 simp only[aaR] at hi;rcases hi with hi|hi|hi
 .rcases q1 with rfl|rfl<;>simp at hi;exact .inl hi
 .rcases q2 with rfl|rfl<;>simp at hi;exact .inr (.inl hi)
 rcases q3 with rfl|rfl<;>simp at hi;exact .inr (.inr hi)
abbrev Gq(l:List Fc):List (List PV):=l.map Fc.ps
theorem Rz(F:Nat)(ls:List Let):∀(w:List Nat) (f:Fc),f.aap≠[]->(w.foldl (Fc.add F ls) f).aap≠[]:=by
 intro w
 induction w with
 |nil=>intro f h;exact h
 |cons x w ih=>
  intro f h;refine ih _ ?_;unfold Fc.add;split
  .simp
  exact h
theorem Gs{d:Nat}{t:List Nat}(h:d<2*ls.length):(gI F ls (d::t)).aap≠[]:=by unfold gI;refine Rz F ls t _ ?_;unfold Fc.add;rw[show(d::t).headD 0=d from rfl,if_pos h];simp
def tD(ls:List Let)(k:Nat):List Bool:=(List.range ls.length).map fun i=>decide (i<k)&& !dn ls (i+1)
theorem GV(ls:List Let)(k:Nat):(tD ls k).length=ls.length:=by simp[tD]
theorem Nh(ls:List Let):tD ls 0=List.replicate ls.length false:=by
 refine adk fun i=>?_;simp only[tD,aa0,List.getElem?_replicate];by_cases h:i<ls.length
 .simp[h]
 rw[abS (by simpa using h),if_neg h];rfl
theorem Rh(ls:List Let)(k:Nat):tD ls (k+1)=(tD ls k).set k (!dn ls (k+1)):=by
 refine adk fun i=>?_;rw[abI,GV];simp only[tD,aa0];by_cases h:i<ls.length
 .rw[abT h];by_cases e:k=i
  .subst e;simp[h]
  simp only[abx,e,if_false];congr 2;exact decide_eq_decide.2 (by omega)
 rw[abS (by simpa using h)];by_cases e:k=i
 .subst e;rw[if_pos rfl,if_neg h];rfl
 rw[if_neg e];rfl
abbrev En(ls:List Let):List Bool:=tD ls ls.length
theorem UQ{i:Nat}(h:i<ls.length):(En ls)[i]?=some (!dn ls (i+1)):=by simp[tD,h]
theorem UP(ok:dS F ls):aP S 82 [.one (.p (xu F ls))] (.one (.own 4 1 (bP (En ls)))):=by
 have hl:=ok.hl;have aa8:ls.length<=140737488355328:=by omega
 have abs:List.replicate ls.length [PV.bool false]=bP (tD ls 0):=by rw[Nh];simp
 refine aJ c82 ?_;simp only[go_sem,i82,aa8,abs];refine aV (fun k env blk=>env 0=.one (.p (xu F ls))/\env 3=.one (.hsl 5248064384 1 1 0 ls.length)/\blk 5248064384=(1,some (.arr 4 1 (bP (tD ls k))))/\
   env 4=vb (!dn ls k)/\env 18=.one (.p (eB ls))/\env 19=vi ls.length/\env 20=vi k) 0 ls.length (aan _) ?_ ?_
 .simp only[go_sem];first|exact⟨rfl,rfl⟩|exact⟨rfl,rfl,rfl⟩|exact⟨rfl,rfl,rfl,rfl⟩|exact rfl
 rintro k env blk hk ⟨h0,h3,hA,h4,h18,h19,h20⟩
 by_cases hlt:k<ls.length
 .obtain⟨l,hk1⟩:=ao hlt;have hi:=fQ hk1;have aak:((k:Int)<(ls.length:Int)):=by omega
  have w1:=ak (n:=k) (by omega);have hlen:k<(tD ls k).length:=by rw[GV];exact hlt
  obtain⟨b0,hb0⟩:=ao hlen;have hbp:=l5 hb0;have aaH:=Ah (tD ls k) k (!dn ls (k+1));rw[<- Rh] at aaH;cases hp:(l.kind==1) with
  |true=>have hd:=zH hk1 hp;have arm:=l5 (uC hk1 hp);rw[hd] at aaH;rw[Bool.not_not] at aaH;simp only[go_sem,i82_l1,h0,h3,hA,h4,h18,h19,h20,hi,Let.ps,hlt,aak,w1,hp,arm,hbp,aaH,hd]
  |false=>have hd:=uD hk1 hp;rw[hd] at aaH;simp only[go_sem,i82_l1,h0,h3,hA,h4,h18,h19,h20,hi,Let.ps,hlt,aak,w1,hp,hbp,aaH,hd]
 have:k=ls.length:=by omega
 subst this;simp only[go_sem,i82_l1,i82_r2,h3,h19,h20,aS];exact t8 hA (by simp[tD])
abbrev FZ(id:Nat):Prop:=cH id=130
theorem EW{g r T k:Nat}(h:k<=T-g):(jt g r T)[k]?=some (g+k,if k=0 then r else 0):=by
 cases k with
 |zero=>rfl
 |succ k=>unfold jt;rw[List.getElem?_cons_succ,aa0,abT (by omega)];simp;omega
theorem Od{g T k:Nat}(h:k<T-g):(kM g T)[k]?=some (g+1+k):=by unfold kM;rw[aa0,abT h];rfl
def vI(g r T:Nat)(ps fs:List (List PV))(i1 i2:Nat)(blk:aw)(v:V)(aaf:aw):Prop:=
 ∃c1 c2 j2,v=.tup [.one c1,.one c2]/\grown 8320320192 Dv 2 (ps++Ax (jt g r T)) (.one c1) aaf/\grown j2 3 1 (fs++nP (kM g T)) (.one c2) aaf/\(j2=i2\/j2=8320256256)/\
  Kept (fun id=>FZ id\/id=i1\/id=i2) blk aaf
def bt1:List Nat:=[8320000000,8320000064,8320128128,8320256192,8320256256,8320320128]
def bt2:List Nat:=[8320000000,8320000064,8320128128,8320128192,8320256192,8320320128,8320320192]
theorem nM{al:Al}{blk:aw}{g r T t i1 i2:Nat}{ps fs:List (List PV)}{c1 c2:C}(okf:∀id,FZ id->al.ok id=true)(o1:al.ok i1=true)(o2:al.ok i2=true)(hT:g<=T)(ht:t=if T=g then r else 0)(hb:T<=1000)(hps:ps.length<=1000000)(hfs:fs.length<=1000000)
  (n12:i1≠i2) (nb1:i1∉bt1) (nb2:i2∉bt2) (h1:grown i1 Dv 2 ps (.one c1) blk) (h2:grown i2 3 1 fs (.one c2) blk):
  ∃v aaf,nQ S 130 [.agg [.p (.int .i64 g),.p (.int .i64 r)],.agg [.p (.int .i64 T),.p (.int .i64 t)],.one c1,.one c2] al blk v aaf/\vI g r T ps fs i1 i2 blk v aaf:=by
 have k0:al.ok 8320000000=true:=okf _ rfl;have k64:al.ok 8320000064=true:=okf _ rfl;have kb1:al.ok 8320128128=true:=okf _ rfl;have ka1:al.ok 8320128192=true:=okf _ rfl;have kb2:al.ok 8320256192=true:=okf _ rfl;have ka2:al.ok 8320256256=true:=okf _ rfl;have kb3:al.ok 8320320128=true:=okf _ rfl;have ka3:al.ok 8320320192=true:=okf _ rfl;refine dO c130 (aaW rfl) ?_;simp only[go_sem,i130,k0,k64];have lenP:=fV g r T;have lenF:=rC g T;refine aV (fun k env aaf=>env 4=.one (.aam 8320000000 ((blk 8320000000).1+1) 0)/\env 5=.one (.aam 8320000064 ((blk 8320000064).1+1) 0)/\
   aaf 8320000000=((blk 8320000000).1+1,some (.var [.p (.int .i64 ((g+k:Nat):Int)),.p (.int .i64 ((if k=0 then r else 0:Nat):Int))]))/\aaf 8320000064=((blk 8320000064).1+1,some (.var [.p (.int .i64 T),.p (.int .i64 t)]))/\
   ∃d1 d2 j1 j2,env 2=.one d1/\env 3=.one d2/\(j1=i1\/j1=8320128192)/\(j2=i2\/j2=8320256256)/\grown j1 Dv 2 (ps++Ax ((jt g r T).take k)) (.one d1) aaf/\grown j2 3 1 (fs++nP ((kM g T).take k)) (.one d2) aaf/\Kept (fun id=>FZ id\/id=i1\/id=i2) blk aaf) 0 (T-g) (aan _) ?_ ?_
 .simp only[go_sem];refine⟨rfl,c1,c2,i1,i2,rfl,rfl,.inl rfl,.inl rfl,?_,?_,?_⟩
  .exact(h1.of_eq (af (DD nb1 (by simp[bt1])))).of_eq (af (DD nb1 (by simp[bt1])))
  .exact(h2.of_eq (af (DD nb2 (by simp[bt2])))).of_eq (af (DD nb2 (by simp[bt2])))
  exact((Kept.refl _ _).fY (.inl rfl) _).fY (.inl rfl) _
 rintro k env aaf hk ⟨h4,h5,hA,hB,d1,d2,j1,j2,e2,e3,q1,q2,g1,g2,hkp⟩
 have oj1:al.ok j1=true:=by rcases q1 with rfl|rfl<;>assumption
 have oj2:al.ok j2=true:=by rcases q2 with rfl|rfl<;>assumption
 have n1:∀a,a∈bt1->j1≠a:=fun a ha e=>by
  rcases q1 with rfl|rfl
  .exact nb1 (e▸ha)
  exact absurd (e▸ha) (by decide)
 have n2:∀a,a∈bt2->j2≠a:=fun a ha e=>by
  rcases q2 with rfl|rfl
  .exact nb2 (e▸ha)
  exact absurd (e▸ha) (by decide)
 have n3:j1≠j2:=fun e=>by
  rcases q1 with rfl|rfl
  .rcases q2 with rfl|rfl
   .exact n12 e
   exact n1 _ (by decide) e
  exact n2 _ (by decide) e.symm
 have kj1:FZ j1\/j1=i1\/j1=i2:=by
  rcases q1 with rfl|rfl
  .exact .inr (.inl rfl)
  exact .inl rfl
 have kj2:FZ j2\/j2=i1\/j2=i2:=by
  rcases q2 with rfl|rfl
  .exact .inr (.inr rfl)
  exact .inl rfl
 have ltk:((jt g r T).take k).length=k:=by rw[aa2];omega
 have ltf:((kM g T).take k).length=k:=by rw[aa2];omega
 by_cases hlt:k<T-g
 .have aak:(((g+k:Nat):Int)<(T:Int)):=by omega
  have w1:IntKind.i64.wrap (((g+k:Nat):Int)+1)=((g+(k+1):Nat):Int):=ak (n:=g+k) (by omega);have hp:Ax ((jt g r T).take (k+1))=Ax ((jt g r T).take k)++[[.int .i64 ((g+k:Nat):Int),.int .i64 ((if k=0 then r else 0:Nat):Int)]]:=by rw[abM,EW (by omega),rK];rfl
  have hf:nP ((kM g T).take (k+1))=nP ((kM g T).take k)++[[.int .i64 ((g+(k+1):Nat):Int)]]:=by rw[abM,Od hlt,vk,show g+1+k=g+(k+1) by omega];rfl
  simp only[go_sem,i130_l1,h4,h5,hA,hB,e2,aak,k0,k64,kb1];refine xr (id:=j1) (site:=8320128192) (bytes:=16) (xs:=[[.int .i64 ((g+k:Nat):Int),.int .i64 ((if k=0 then r else 0:Nat):Int)]]) (rd:=[8320128128]) (by simp[ka1,oj1,kb1]) (g1.of_eq (af (n1 _ (by decide)))) (by simp[aO,aa]) (.inl rfl) (by simp only[aaY,aau,ltk,aaz,aaL];omega) fun c aal hc hb2=>?_;have hA2:=(hb2 8320000000 (by decide) (n1 _ (by decide)).symm).trans ((af (by decide)).trans hA);have hB2:=(hb2 8320000064 (by decide) (n1 _ (by decide)).symm).trans ((af (by decide)).trans hB);simp only[go_sem,h4,hA2,e3,w1,k0,kb2]
  refine xr (id:=j2) (site:=8320256256) (bytes:=8) (xs:=[[.int .i64 ((g+(k+1):Nat):Int)]]) (rd:=[8320256192]) (by simp[ka2,oj2,kb2]) (g2.of_eq ((af (n2 _ (by decide))).trans ((af (n2 _ (by decide))).trans ((hb2 _ (n2 _ (by decide)) n3.symm).trans (af (n2 _ (by decide))))))) (by simp[aO,aa]) (.inl rfl) (by simp only[aaY,aau,ltf,aaz,aaL];omega) fun c' aaB hc' hb3=>?_
  have hA3:=(hb3 8320000000 (by decide) (n2 _ (by decide)).symm).trans ((af (by decide)).trans jy);have hB3:=(hb3 8320000064 (by decide) (n2 _ (by decide)).symm).trans ((af (by decide)).trans ((af (by decide)).trans hB2));simp only[go_sem,h4,h5,hA3,hB3,e2,e3,hlt];refine⟨rfl,c,c',8320128192,8320256256,rfl,rfl,.inr rfl,.inr rfl,?_,?_,fun id hn=>?_⟩
  .rw[hp,<- acw];exact hc.of_eq ((hb3 _ (by decide) (n2 _ (by decide)).symm).trans ((af (by decide)).trans (af (by decide))))
  .rw[hf,<- acw];exact hc'
  have a:∀x,FZ x->id≠x:=fun x hx e=>hn (.inl (e▸hx));have b1:id≠j1:=fun e=>hn (e▸kj1);have b2:id≠j2:=fun e=>hn (e▸kj2);exact(hb3 id (a _ rfl) b2).trans ((af (a _ rfl)).trans ((af (a _ rfl)).trans ((hb2 id (a _ rfl) b1).trans ((af (a _ rfl)).trans (hkp id hn)))))
 have:k=T-g:=by omega
 subst this;have aak:¬(((g+(T-g):Nat):Int)<(T:Int)):=by omega
 simp only[go_sem,i130_l1,i130_r2,h4,h5,hA,hB,e2,aak,k0,k64,kb3];have aef:Ax (jt g r T)=Ax ((jt g r T).take (T-g))++[[.int .i64 (T:Int),.int .i64 (t:Int)]]:=by
  have h1:=abM (l:=jt g r T) (i:=T-g);rw[EW (aaj _),aa4 (show(jt g r T).length<=T-g+1 by omega)] at h1;have e1:g+(T-g)=T:=by omega
  have e2:(if T-g=0 then r else 0)=t:=by
   rw[ht];by_cases h:T=g
   .rw[if_pos h,if_pos (by omega)]
   rw[if_neg h,if_neg (by omega)]
  rw[e1,e2] at h1;exact(congrArg (fun l:List (Nat×Nat)=>Ax l) h1).trans (rK _ _)
 have aas:(kM g T).take (T-g)=kM g T:=aa4 (by omega);refine xr (id:=j1) (site:=8320320192) (bytes:=16) (xs:=[[.int .i64 (T:Int),.int .i64 (t:Int)]]) (rd:=[8320320128]) (by simp[ka3,oj1,kb3]) (g1.of_eq (af (n1 _ (by decide)))) (by simp[aO,aa]) (.inl rfl) (by simp only[aaY,aau,ltk,aaz,aaL];omega) fun c aal hc hb2=>?_;simp only[go_sem,e3];refine⟨c,d2,j2,rfl,?_,?_,q2,fun id hn=>?_⟩
 .rw[aef,<- acw];exact hc
 .rw[aas] at g2;exact g2.of_eq ((hb2 _ (n2 _ (by decide)) n3.symm).trans (af (n2 _ (by decide))))
 have a:∀x,FZ x->id≠x:=fun x hx e=>hn (.inl (e▸hx));have b1:id≠j1:=fun e=>hn (e▸kj1);exact(hb2 id (a _ rfl) b1).trans ((af (a _ rfl)).trans (hkp id hn))
theorem K8(ok:dS F ls)(hj:j<(ae ls).length):∃u l,(ae ls)[j]?=some u/\(ae ls).getD j 0=u/\ls[u]?=some l/\l.aH=true/\lU F ls l/\cY ls l=j:=by obtain⟨u,l,h1,h2,h3,h4,h5⟩:=GX ok hj;obtain⟨l',k1,k2,k3⟩:=lz ok.ax h1;rw[h3] at k1;cases k1;exact⟨u,l,h1,h2,h3,h4,h5,k3⟩
theorem Nk{pg pr qg qr:Nat}{p q:Let}(gp:lU F ls p)(gq:lU F ls q)(hp:cY ls p=j)(hq:cY ls q=j+1)(h1:p.gate=(pg:Int))(h2:p.aag=(pr:Int))(h3:q.gate=(qg:Int))(h4:q.aag=(qr:Int)):
  pg<=qg/\qr-1=if qg=pg then pr else 0:=by
 obtain⟨_,_,p1,p2⟩:=gp;obtain⟨_,_,q1,q2⟩:=gq;unfold cY at hp hq;rw[h1,h2] at hp;rw[h3,h4] at hq;rw[h2] at p1;rw[h1,h2] at p2;rw[h4] at q1;rw[h3,h4] at q2;simp only[ab1] at hp hq p2 q2;have sp:=cE ls pg;have sq:=cE ls qg;have hle:pg<=qg:=by
  rcases Nat.lt_or_ge qg pg with h|h
  .have:=eo (ls:=ls) (show qg+1<=pg by omega);omega
  exact h
 refine⟨hle,?_⟩;by_cases e:qg=pg
 .subst e;rw[if_pos rfl];omega
 rw[if_neg e];have:=eo (ls:=ls) (show pg+1<=qg by omega);omega
theorem Jc{qg qr:Nat}{q:Let}(gq:lU F ls q)(hq:cY ls q=0)(h3:q.gate=(qg:Int))(h4:q.aag=(qr:Int)):qr-1=0:=by obtain⟨_,_,q1,q2⟩:=gq;unfold cY at hq;rw[h3,h4] at hq;rw[h4] at q1;simp only[ab1] at hq;omega
theorem WD:S.sites 130=[130]:=by kernel_rfl
theorem Jg{vs:List V}{blk:aw}:∀id,FZ id->(allow (S.ctx .all) 130 vs blk).ok id=true:=fun id h=>ff (by rw[WD,h];simp)
theorem Yu(ok:dS F ls)(hF:F<=1000)(hj:j<(ae ls).length):
  aP S 102 [.one (.p (xu F ls)),vi j] (.tup [.one (ah Dv 2 (Ax (ie F ls j))),.one (ah 3 1 (nP (ow F ls j)))]):=by
 have hl:=ok.hl;have hal:(ae ls).length<=1000000:=abm (fC ls ls.length) hl;have hm:=aaN (j+1) (show 0<(ae ls).length by omega);obtain⟨u,p,hu,du,hp,pp,gp,xp⟩:=K8 ok hj;obtain⟨v,q,hv,dv,hq,pq,gq,xq⟩:=K8 ok hm;unfold ie ow;simp only[du,dv,ze hp,ze hq,Yy hp];have hpp:=fQ hp;have hqp:=fQ hq;have hnu:=eZ hu;have hnv:=eZ hv;have e1:=iv (j+1) (ae ls).length;have w1:=ak (n:=j) (by omega);have w2:=lB (a:=(ae ls).length) (by omega) (by omega);have hm0:¬(((ae ls).length:Int)=0):=by omega
 have hg0:=gp.g0;have hg1:=gp.g1;have hk0:=gq.g0;have hk1:=gq.g1;have hr0:=gp.r0;have hr1:=gp.r1;have hs0:=gq.r0;have hs1:=gq.r1;have hcg:cg ls p.gate.toNat<=ls.length:=kI _ _;have hcq:cg ls q.gate.toNat<=ls.length:=kI _ _;obtain⟨pg,h1⟩:=abX (show 0<=p.gate by omega);obtain⟨pr,h2⟩:=abX (show 0<=p.aag by omega);obtain⟨qg,h3⟩:=abX (show 0<=q.gate by omega);obtain⟨qr,h4⟩:=abX (show 0<=q.aag by omega);have wr:=lB (a:=qr) (by rw[h4] at hs0;omega) (by omega);have hsh:S.shared 130=true:=by kernel_rfl
 have acx:=fun h=>Nk gp gq xp (h:cY ls q=j+1) h1 h2 h3 h4;have aeM:=fun h=>Jc gq (h:cY ls q=0) h3 h4;rw[h1] at hg1 hr1 hcg hg0;rw[h2] at hr1 hr0;rw[h3] at hk0 hk1 hs1 hcq;rw[h4] at hs0 hs1;rw[h1,h2,h3];simp only[ab1] at hr1 hcg hs1 hcq ⊢;refine aJ c102 ?_;by_cases hlt:j+1<(ae ls).length
 .have aak:(j:Int)<(((ae ls).length-1:Nat):Int):=by omega
  rw[aa7 hlt] at xq;obtain⟨n1,n2⟩:=acx xq;simp only[if_pos hlt];simp only[go_sem,i102,hnu,hnv,hpp,hqp,Let.ps,w1,e1,w2,wr,aak,hm0,h1,h2,h3,h4,hsh];refine⟨aK,?_⟩;refine gb (P:=vI pg pr qg [] [] 8320128192 8320256256 _) fy (nM (g:=pg) (r:=pr) (T:=qg) (t:=qr-1) (c1:=.p .nils) (c2:=.p .nils) Jg (Jg _ rfl) (Jg _ rfl) n1 n2 (by omega) (aan _) (aan _) (by decide) (by decide) (by decide) grown.nil grown.nil) ?_;rintro v aaf ⟨c1,c2,j2,rfl,g1,g2,hj2,hkp⟩
  have hj2:j2=8320256256:=by rcases hj2 with h|h<;>exact h
  subst hj2;simp only[go_sem];exact oR (by decide) g1 g2
 have aak:¬(j:Int)<(((ae ls).length-1:Nat):Int):=by omega
 have hjm:(j+1)%(ae ls).length=0:=by rw[show j+1=(ae ls).length by omega,acK]
 rw[hjm] at xq;have n2:=aeM xq;simp only[if_neg hlt];have aef:∃t:Nat,t=(if F=pg then pr else 0):=⟨_,rfl⟩;obtain⟨t,ht⟩:=aef;have fin:∀(env:Env) (blk:aw) (c1 c2:C),True:=fun _ _ _ _=>trivial;have ini:(((pg:Int)==(F:Int))=true/\t=pr/\F=pg)\/(((pg:Int)==(F:Int))=false/\t=0):=by
  by_cases h:F=pg
  .subst h;rw[if_pos rfl] at ht;exact .inl ⟨by simp,ht,rfl⟩
  rw[if_neg h] at ht;exact .inr ⟨by simp;omega,ht⟩
 rcases ini with ⟨hb,ht2,hFp⟩|⟨hb,ht2⟩
 .subst hFp;simp only[go_sem,i102,hnu,hnv,hpp,hqp,Let.ps,w1,e1,w2,wr,aak,hm0,h1,h2,h3,h4,hsh,hb];refine⟨aK,?_⟩;refine⟨aK,?_⟩;refine gb (P:=vI F pr F [] [] 8320128192 8320256256 _) fy (nM (g:=F) (r:=pr) (T:=F) (t:=pr) (c1:=.p .nils) (c2:=.p .nils) Jg (Jg _ rfl) (Jg _ rfl) (by omega) (by rw[if_pos rfl]) (by omega) (aan _) (aan _) (by decide) (by decide) (by decide) grown.nil grown.nil) ?_;rintro v aao ⟨c1,c2,j2,rfl,g1,g2,hj2,hkp⟩
  have hj2:j2=8320256256:=by rcases hj2 with h|h<;>exact h
  subst hj2;rw[aaZ] at g1 g2;have hA:=hkp 6528256384 (by decide);simp only[go_sem] at hA;simp only[go_sem,hA,hsh];refine gb (P:=vI 0 0 qg (Ax (jt F pr F)) (nP (kM F F)) 8320320192 8320256256 _) fy (nM (g:=0) (r:=0) (T:=qg) (t:=qr-1) (c1:=c1) (c2:=c2) Jg (Jg _ rfl) (Jg _ rfl) (aan _) (by rw[n2];split<;>rfl) (by omega) (by simp only[aau,fV];omega) (by simp only[aau,rC];omega) (by decide) (by decide) (by decide) g1 g2) ?_;rintro v aal ⟨d1,d2,j3,rfl,k1,k2,hj3,_⟩
  have hj3:j3=8320256256:=by rcases hj3 with h|h<;>exact h
  subst hj3;simp only[go_sem];rw[rK,vk];exact oR (by decide) k1 k2
 simp only[go_sem,i102,hnu,hnv,hpp,hqp,Let.ps,w1,e1,w2,wr,aak,hm0,h1,h2,h3,h4,hsh,hb];refine⟨aK,?_⟩;refine⟨aK,?_⟩;refine gb (P:=vI pg pr F [] [] 8320128192 8320256256 _) fy (nM (g:=pg) (r:=pr) (T:=F) (t:=0) (c1:=.p .nils) (c2:=.p .nils) Jg (Jg _ rfl) (Jg _ rfl) (by omega) (by rw[ht2] at ht;exact ht) (by omega) (aan _) (aan _) (by decide) (by decide) (by decide) grown.nil grown.nil) ?_;rintro v aao ⟨c1,c2,j2,rfl,g1,g2,hj2,hkp⟩
 have hj2:j2=8320256256:=by rcases hj2 with h|h<;>exact h
 subst hj2;rw[aaZ] at g1 g2;have hA:=hkp 6528256384 (by decide);simp only[go_sem] at hA;simp only[go_sem,hA,hsh];refine gb (P:=vI 0 0 qg (Ax (jt pg pr F)) (nP (kM pg F)) 8320320192 8320256256 _) fy (nM (g:=0) (r:=0) (T:=qg) (t:=qr-1) (c1:=c1) (c2:=c2) Jg (Jg _ rfl) (Jg _ rfl) (aan _) (by rw[n2];split<;>rfl) (by omega) (by simp only[aau,fV];omega) (by simp only[aau,rC];omega) (by decide) (by decide) (by decide) g1 g2) ?_;rintro v aal ⟨d1,d2,j3,rfl,k1,k2,hj3,_⟩
 have hj3:j3=8320256256:=by rcases hj3 with h|h<;>exact h
 subst hj3;simp only[go_sem];rw[rK,vk];exact oR (by decide) k1 k2
end
end Go.Abs
