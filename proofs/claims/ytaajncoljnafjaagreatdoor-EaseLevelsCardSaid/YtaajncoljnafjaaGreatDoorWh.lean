/- A part. -/
import Derived.Test.YtaajncoljnafjaaGreatDoorWa
set_option linter.all false
set_option maxRecDepth 100000
set_option maxHeartbeats 16000000
namespace Go.Abs
section
variable{ls:ai}{F j n2 x:Nat}
abbrev nN(F:Nat)(ls:ai):PV:=dgP F ls (.sl (bP (kY ls))) (.sl (nP (aG ls))) (.sl (nP (jX ls ls.length))) (.mp true (qR ls ls.length)) (.sl (nP (counts ls F)))
structure fJ (F:Nat) (ls:ai):Prop where
 hl:ls.length<=1000000
 ax:Dx F ls
 cr:mJ ls=true
 kinds:∀l∈ls,l.aE=true\/l.aB=true
def An{a:Nat}(h:a<=9223372036854775807):IntKind.i64.wrap ((a:Int)-1)=(a:Int)-1:=by
 cases a with
 |zero=>decide
 |succ a=>rw[IS aa h];omega
def akh{a n:Nat}(hn:1<=n)(h:a+n<=9223372036854775807):IntKind.i64.wrap (((a:Int)-1)+(n:Int))=((a+n-1:Nat):Int):=by have e:((a:Int)-1)+(n:Int)=((a+n-1:Nat):Int):=aa;rw[e];exact wrap_small aa
def Xf(F:Nat)(ls:ai)(i:Nat)(hl:ls.length<=1000000)(hi:i<ls.length):aK S 127 [.one (.p (nN F ls)),vi i] (ri (dx ls.length i true)):=by refine bt c127 ?_;have e:=vm (a:=i) aa;simp only[go_sem,i127,e,dx]
def Ux(F:Nat)(ls:ai)(i:Nat)(hl:ls.length<=1000000)(hi:i<ls.length):aK S 126 [.one (.p (nN F ls)),vi i] (ri (dx ls.length i false)):=by refine bt c126 ?_;have e1:=An (a:=i) aa;have e2:=akh (a:=i) (n:=ls.length) aa aa;have e3:=xG (i+ls.length-1) ls.length;have hm:=de (i+ls.length-1) (show 0<ls.length by omega);have e4:=vm (a:=(i+ls.length-1)%ls.length) aa;have e5:=cU (n:=2*((i+ls.length-1)%ls.length)) aa;have hz:¬((ls.length:Int)=0):=aa;simp only[go_sem,i126,e1,e2,e3,e4,e5,hz,dx]
def QL{v:Nat}{l:Let}(h:ls[v]?=some l)(hp:l.aE=true):(kY ls)[v]?=some (dn ls v):=by have:=(aT.1 h).1;simp[kY,vp this,eN,h,hp]
def atF{v:Nat}{l:Let}(h:ls[v]?=some l)(hp:l.aE=true):(jX ls ls.length)[v]?=some (dF ls l):=by have:=(aT.1 h).1;simp[jX,this,IG h hp]
def fJ.Ss(ok:fJ F ls){v:Nat}{l:Let}(h:ls[v]?=some l)(h2:(l.kind==2)=false):l.aE=true:=by
 rcases ok.kinds l (aV h)with hp|hc
 .exact hp
 unfold Let.aB at hc;rw[h2]at hc;cases hc
def acy(ok:fJ F ls)(d:Nat)(hd:d<2*ls.length+2*(aG ls).length):aK S 101 [.one (.p (nN F ls)),vi d] (ri (iw ls (aG ls) d)):=by
 have hl:=ok.hl;have gT:(aG ls).length<=1000000:=oz (xT ls ls.length) hl;have kI:∀x∈aG ls,x<ls.length/\ ∃l,ls[x]?=some l/\l.aE=true:=fun x hx=>by obtain⟨l,h1,h2⟩:=uF.1 hx;exact⟨(aT.1 h1).1,l,h1,h2⟩
 have m1:IntKind.i64.wrap (2*(ls.length:Int))=((2*ls.length:Nat):Int):=vm aa;unfold iw;by_cases h:2*ls.length<=d
 .rw[aD h];refine bt c101 ?_;have h':((2*ls.length:Nat):Int)<=(d:Int):=aa;have m2:=aag (a:=d) (b:=2*ls.length) h aa;have m3:=wrap_small (n:=(d-2*ls.length)/2) aa;have hm:=de ((d-2*ls.length)/2+1) (show 0<(aG ls).length by omega);have pP:¬(((aG ls).length:Int)=0):=aa;obtain⟨u,hu⟩:=aL (ls:=aG ls) (k:=(d-2*ls.length)/2) aa;have yu:=kN hu;by_cases h2:d%2=0
  .rw[aD h2];have m4:=cU (n:=(d-2*ls.length)/2) aa;have jB:(((d%2:Nat):Int)==0)=true:=by simp[h2]
   have m5:=xG ((d-2*ls.length)/2+1) (aG ls).length;obtain⟨v,hv⟩:=aL hm;have qO:(aG ls).getD (((d-2*ls.length)/2+1)%(aG ls).length) 0=v:=by rw[dC,hv];rfl
   rw[qO];obtain⟨tq,l,jM,nu⟩:=kI v (aV hv);have Cl:=kN hv;have ft:=tO (QL jM nu);have pf:=Xf F ls v hl tq;have pb:=Ux F ls v hl tq;cases hq:dn ls v with
   |true=>rw[hq]at ft;simp only[go_sem,i101,m1,m2,m3,m4,m5,h',jB,yu,Cl,ft,pP,jQ,fR,eT,s126,eW pb];exact⟨aJ,aJ⟩
   |false=>rw[hq]at ft;simp only[go_sem,i101,m1,m2,m3,m4,m5,h',jB,yu,Cl,ft,pP,jQ,fR,eT,s127,eW pf];exact⟨aJ,aJ⟩
  rw[au h2];have jB:(((d%2:Nat):Int)==0)=false:=by simp;omega
  have qO:(aG ls).getD ((d-2*ls.length)/2) 0=u:=by rw[dC,hu];rfl
  rw[qO];obtain⟨tq,l,jM,nu⟩:=kI u (aV hu);have ft:=tO (QL jM nu);have pf:=Xf F ls u hl tq;have pb:=Ux F ls u hl tq;cases hq:dn ls u with
  |true=>rw[hq]at ft;simp only[go_sem,i101,m1,m2,m3,h',jB,yu,ft,jQ,fR,eT,s127,eW pf];exact aJ
  |false=>rw[hq]at ft;simp only[go_sem,i101,m1,m2,m3,h',jB,yu,ft,jQ,fR,eT,s126,eW pb];exact aJ
 rw[au h];have h':¬(((2*ls.length:Nat):Int)<=(d:Int)):=aa;have m3:=wrap_small (n:=d/2) aa;have iV:¬((ls.length:Int)=0):=aa;have pP:=de (d/2+1) (show 0<ls.length by omega);have m4:=cU (n:=d/2) aa;have m5:=xG (d/2+1) ls.length;have body:∀v:Nat,v<ls.length->∀fw:Bool,v=(if fw then(d/2+1)%ls.length else d/2)->(((d%2:Nat):Int)==0)=fw->aK S 101 [.one (.p (nN F ls)),vi d] (ri ((match ls[v]? with
   |none=>0
   |some l=>if l.kind==2 then dx ls.length (fM ls v) (fw==(l.over==(l.sign==1)))
    else if dn ls v==fw then 2*ls.length+2*(aG ls).idxOf v else 2*ls.length+2*(((aG ls).idxOf v+(aG ls).length-1)%(aG ls).length)+1:Nat):Int)):=by
  intro v hv fw fK r8;obtain⟨l,jM⟩:=aL hv;have iD:=jf jM;rw[jM];simp only;refine bt c101 ?_;cases hk:(l.kind==2)with
  |true=>
   have hc:l.aB=true:=hk;have df:(l.kind==1)=false:=by simp only[cZ]at hk;rw[hk];rfl
   obtain⟨F7,Ox⟩:=SM ok.cr jM hc;have hf:=aeh ls ls.length l.id;rw[aD (Se (aV jM) hc)]at hf;have pf:=Xf F ls (fM ls v) hl Ox;have pb:=Ux F ls (fM ls v) hl Ox;cases ho:l.over with
   |true=>
    rw[ho]at F7;have F7:gU ls ls.length l.id false=some (fM ls v):=F7;simp only[rZ,F7]at hf;simp only[Dc]at hf;cases hs:(l.sign==1)with
    |true=>
     cases fw with
     |true=>have fK:v=(d/2+1)%ls.length:=fK;rw[fK]at iD hf pf pb |-;simp only[go_sem,i101,m1,m3,m4,m5,h',r8,iD,Let.ps,iV,df,ho,hs,jQ,fR,eT,mapOf,mapVal,iW,hf,s127,eW pf];exact⟨aJ,aJ⟩
     |false=>have fK:v=d/2:=fK;rw[fK]at iD hf pf pb |-;simp only[go_sem,i101,m1,m3,h',r8,iD,Let.ps,df,ho,hs,jQ,fR,eT,mapOf,mapVal,iW,hf,s126,eW pb];exact⟨aJ,aJ⟩
    |false=>
     cases fw with
     |true=>have fK:v=(d/2+1)%ls.length:=fK;rw[fK]at iD hf pf pb |-;simp only[go_sem,i101,m1,m3,m4,m5,h',r8,iD,Let.ps,iV,df,ho,hs,jQ,fR,eT,mapOf,mapVal,iW,hf,s126,eW pb];exact⟨aJ,aJ⟩
     |false=>have fK:v=d/2:=fK;rw[fK]at iD hf pf pb |-;simp only[go_sem,i101,m1,m3,h',r8,iD,Let.ps,df,ho,hs,jQ,fR,eT,mapOf,mapVal,iW,hf,s127,eW pf];exact⟨aJ,aJ⟩
   |false=>
    rw[ho]at F7;have F7:gU ls ls.length l.id true=some (fM ls v):=F7;simp only[rZ,F7]at hf;simp only[Dc]at hf;cases hs:(l.sign==1)with
    |true=>
     cases fw with
     |true=>have fK:v=(d/2+1)%ls.length:=fK;rw[fK]at iD hf pf pb |-;simp only[go_sem,i101,m1,m3,m4,m5,h',r8,iD,Let.ps,iV,df,ho,hs,jQ,fR,eT,mapOf,mapVal,iW,hf,s126,eW pb];exact⟨aJ,aJ⟩
     |false=>have fK:v=d/2:=fK;rw[fK]at iD hf pf pb |-;simp only[go_sem,i101,m1,m3,h',r8,iD,Let.ps,df,ho,hs,jQ,fR,eT,mapOf,mapVal,iW,hf,s127,eW pf];exact⟨aJ,aJ⟩
    |false=>
     cases fw with
     |true=>have fK:v=(d/2+1)%ls.length:=fK;rw[fK]at iD hf pf pb |-;simp only[go_sem,i101,m1,m3,m4,m5,h',r8,iD,Let.ps,iV,df,ho,hs,jQ,fR,eT,mapOf,mapVal,iW,hf,s127,eW pf];exact⟨aJ,aJ⟩
     |false=>have fK:v=d/2:=fK;rw[fK]at iD hf pf pb |-;simp only[go_sem,i101,m1,m3,h',r8,iD,Let.ps,df,ho,hs,jQ,fR,eT,mapOf,mapVal,iW,hf,s126,eW pb];exact⟨aJ,aJ⟩
  |false=>
   have hp:=ok.Ss jM hk;have df:(l.kind==1)=true:=hp;have ft:=tO (QL jM hp);have bU:=kN (atF jM hp);have Ee:=Fh ok.ax jM hp;have hpT:=Zq (ok.ax.fi l (aV jM) hp);rw[GN ok.ax.r6]at hpT;rw[Ee];have Of:¬(((aG ls).length:Int)=0):=aa;have j8:=de (dF ls l+(aG ls).length-1) (show 0<(aG ls).length by omega);have n1:=vm (a:=dF ls l) aa;have n2:=wrap_add (a:=2*ls.length) (b:=2*dF ls l) aa;have n3:=An (a:=dF ls l) aa;have n4:=akh (a:=dF ls l) (n:=(aG ls).length) aa aa;have n5:=xG (dF ls l+(aG ls).length-1) (aG ls).length;have n6:=vm (a:=(dF ls l+(aG ls).length-1)%(aG ls).length) aa;have n7:=wrap_add (a:=2*ls.length) (b:=2*((dF ls l+(aG ls).length-1)%(aG ls).length)) aa
   have n8:=cU (n:=2*ls.length+2*((dF ls l+(aG ls).length-1)%(aG ls).length)) aa;cases fw with
   |true=>
    have fK:v=(d/2+1)%ls.length:=fK;cases NS:dn ls v with
    |true=>rw[NS]at ft;rw[fK]at iD ft bU;simp only[go_sem,i101,m1,m3,m4,m5,h',r8,iD,Let.ps,iV,df,jQ,fR,eT,ft,bU,n1,n2];exact aJ
    |false=>rw[NS]at ft;rw[fK]at iD ft bU;simp only[go_sem,i101,m1,m3,m4,m5,h',r8,iD,Let.ps,iV,df,jQ,fR,eT,ft,bU,n3,n4,n5,n6,n7,n8,Of];exact aJ
   |false=>
    have fK:v=d/2:=fK;cases NS:dn ls v with
    |true=>rw[NS]at ft;rw[fK]at iD ft bU;simp only[go_sem,i101,m1,m3,h',r8,iD,Let.ps,df,jQ,fR,eT,ft,bU,n3,n4,n5,n6,n7,n8,Of];exact aJ
    |false=>rw[NS]at ft;rw[fK]at iD ft bU;simp only[go_sem,i101,m1,m3,h',r8,iD,Let.ps,df,jQ,fR,eT,ft,bU,n1,n2];exact aJ
 have tq:(if(d%2==0)=true then(d/2+1)%ls.length else d/2)<ls.length:=by
  split
  .exact pP
  omega
 have:=body _ tq (d%2==0) rfl (by cases hq:(d%2==0)<;>simp at hq |- <;>omega);exact this
abbrev aO(ls:ai):Nat->Nat:=iw ls (aG ls)
def aoQ(ok:fJ F ls){Q:dX}:
  ∀(fuel x:Nat) (sn:m_) (ak:Env) (aj:aC),ak 0=.one (.p (nN F ls))->ak 4=.one (.hsl 6208128064 1 1 0 sn.length)->aj 6208128064=(1,some (.arr 4 1 (bP sn)))->
   ak 7=vi x->x<sn.length->sn.length=2*ls.length+2*(aG ls).length->Aj sn<fuel->
   (∀aF ao,aF 0=ak 0->aF 4=ak 4->aF 5=ak 5->aF 24=ak 24->aF 25=ak 25->ao 6208128064=(1,some (.arr 4 1 (bP (fE (aO ls) fuel x sn).2)))->Q .normal aF ao)->
   W S .all (.loop i97_l1) (mY 2 Q) ak aj:=by
 have gT:(aG ls).length<=1000000:=oz (xT ls ls.length) ok.hl;have kI:∀x∈aG ls,x<ls.length:=fun x h=>Qs h;have hp:∀v l,ls[v]?=some l->(l.kind==2)=false->v∈aG ls:=fun v l hv h2=>uF.2 ⟨l,hv,ok.Ss hv h2⟩;intro fuel
 induction fuel with
 |zero=>intro x sn ak aj _ _ _ _ _ _ h;omega
 |succ fuel ih=>
  intro x sn ak aj h0 h4 hS h7 hx hsl hu hq;obtain⟨b,hb⟩:=aL hx;have k9:=tO hb;have Bf:sn.getD x true=b:=by rw[dC,hb];rfl
  unfold fE at hq;rw[Bf]at hq;refine sK ?_;cases b with
  |true=>simp only[go_sem,i97_l1,h4,hS,h7,hx,k9];refine hq _ _ ?_ ?_ ?_ ?_ ?_ hS;all_goals simp only[go_sem,h4]
  |false=>
   have F6:=Py hb;have pt:=acy ok x aa;have j9:=TD (d:=x) kI hp aa;have iE:=Jy sn x true;simp only[go_sem,i97_l1,h0,h4,hS,h7,hx,k9,iE,s101,eW pt];refine ih (iw ls (aG ls) x) (sn.set x true) _ _ ?_ ?_ ?_ ?_ (by simpa [hsl]using j9) (by simpa using hsl) aa ?_
   .simp only[go_sem,h0]
   .simp only[go_sem,h4,ux]
   .simp only[go_sem]
   .simp only[go_sem]
   intro aF ao q0 q4 q5 rM CU b1;refine hq aF ao ?_ ?_ ?_ ?_ ?_ b1
   .rw[q0];simp only[go_sem]
   .rw[q4];simp only[go_sem]
   .rw[q5];simp only[go_sem]
   .rw[rM];simp only[go_sem]
   rw[CU];simp only[go_sem]
def aoT(ok:fJ F ls):aK S 97 [.one (.p (nN F ls))] (rb (mQ ls==aq Let.aE ls+aq Let.aB ls/2+2)):=by
 have hl:=ok.hl;have gT:(aG ls).length<=ls.length:=xT ls ls.length;have m1:=vm (a:=ls.length) aa;have m2:=vm (a:=(aG ls).length) aa;have m3:=wrap_add (a:=2*ls.length) (b:=2*(aG ls).length) aa;have ll:2*ls.length+2*(aG ls).length<=140737488355328:=aa;have vU:List.replicate (2*ls.length+2*(aG ls).length) [PV.bool false]=bP (List.replicate (2*ls.length+2*(aG ls).length) false):=af;have j8:(qR ls ls.length).length=aq Let.aB ls/2:=by have:=ok.cr;unfold mJ at this;simp only[cH,cZ]at this;simp[qR,this.2]
 have uQ:aq Let.aB ls<=ls.length:=sR _ _;refine bt c97 ?_;simp only[go_sem,i97,m1,m2,m3,ll,vU];refine⟨aJ,?_⟩;generalize hN:2*ls.length+2*(aG ls).length=N at ll;refine dD (fun k ak aj=>ak 0=.one (.p (nN F ls))/\ak 4=.one (.hsl 6208128064 1 1 0 N)/\aj 6208128064=(1,some (.arr 4 1 (bP (ef (aO ls) N k).2)))/\
   ak 5=vi (ef (aO ls) N k).1.length/\ak 24=vi N/\ak 25=vi k) 0 N (bR _) ?_ ?_
 .simp only[go_sem];exact⟨rfl,rfl,rfl⟩
 rintro k ak aj hk ⟨h0,h4,hS,h5,ni,nj⟩
 have hlen:=IQ (aO ls) N k;have F0:=PB (aO ls) N k;by_cases aA:k<N
 .have aM:((k:Int)<(N:Int)):=aa;have w1:=cU (n:=k) aa;have hs:=Am (aO ls) N k;generalize cV:ef (aO ls) N k=st at hlen hs hS h5 F0;obtain⟨out,sn⟩:=st;simp only at hlen hS h5 F0;obtain⟨b,hb⟩:=aL (ls:=sn) (k:=k) aa;have k9:=tO hb;unfold wD at hs;have Bf:sn.getD k true=b:=by rw[dC,hb];rfl
  simp only[Bf]at hs;cases b with
  |true=>have hs:ef (aO ls) N (k+1)=(out,sn):=hs;simp only[go_sem,i97_l3,i97_r2,h0,h4,hS,h5,ni,nj,aA,aM,k9,w1,hs]
  |false=>
   have hs:ef (aO ls) N (k+1)=(out++[(fE (aO ls) (N+1) k sn).1],(fE (aO ls) (N+1) k sn).2):=by rw[hs,hlen];rfl
   have hul:=L1 sn;have w2:=cU (n:=out.length) aa;simp only[go_sem,i97_l3,h4,hS,h5,ni,nj,aA,aM,k9,w2];refine aoQ ok (N+1) k sn _ _ ?_ ?_ ?_ ?_ aa aa aa ?_
   .simp only[go_sem,h0]
   .simp only[go_sem,h4,hlen]
   .simp only[go_sem,hS]
   .simp only[go_sem]
   intro aF ao q0 q4 q5 rM CU b1;simp only[go_sem,h0,h4,h5,ni,nj]at q0 q4 q5 rM CU;simp only[go_sem,i97_r2,q0,q4,q5,rM,CU,b1,w1,hs,aA];simp
 have:k=N:=aa;subst this;have he:mQ ls=(ef (aO ls) k k).1.length:=by unfold mQ gH aO;rw[hN]
 rw[<-he]at h5;have w3:=wrap_add (a:=(aG ls).length) (b:=aq Let.aB ls/2) aa;have w4:IntKind.i64.wrap ((((aG ls).length+aq Let.aB ls/2:Nat):Int)+2)=(((aG ls).length+aq Let.aB ls/2+2:Nat):Int):=wrap_add (a:=(aG ls).length+aq Let.aB ls/2) (b:=2) aa;have hb:(((mQ ls:Nat):Int)==(((aG ls).length+aq Let.aB ls/2+2:Nat):Int))=(mQ ls==aq Let.aE ls+aq Let.aB ls/2+2):=by
  rw[Dy];cases h:(mQ ls==aq Let.aE ls+aq Let.aB ls/2+2)with
  |true=>simp at h |-;omega
  |false=>simp at h |-;omega
 simp only[go_sem,i97_l3,i97_r4,h0,h5,ni,nj,eS,Bp,j8,w3,w4,hb];exact aJ
abbrev Mr(id:Nat):Prop:=id=2496320128\/(jw id=68\/jw id=95\/jw id=96)
def anM(F:Nat)(ls:ai)(g:Nat)(aj:aC):Prop:= ∃g1 g2 g3 g4 g5,
 aj 2496320128=(g,some (.var (wS F ls (hs 6080128448 g2 ls.length) (hs 6081344128 g5 (aG ls).length) (hs 6080192448 g3 ls.length) (.kL 6144256064 g4) (hs 6080064448 g1 (F+1)))))/\
 aj 6080064448=(g1,some (.arr 3 1 (nP (counts ls F))))/\aj 6080128448=(g2,some (.arr 4 1 (bP (kY ls))))/\aj 6080192448=(g3,some (.arr 3 1 (nP (jX ls ls.length))))/\
 aj 6081344128=(g5,some (.arr 3 1 (nP (aG ls))))/\aj 6144256064=(g4,some (.map true (qR ls ls.length)))
def TG(F:Nat)(ls:ai):Bool:=decide (ls=[])||my F ls
def Z5(F:Nat)(ls:ai)(g:Nat)(pK:aC)(v:V)(ao:aC):Prop:=v=vb (TG F ls)/\Kept Mr pK ao/\(ls≠[]->my F ls=true->anM F ls g ao)/\(ls=[]->ao 2496320128=pK 2496320128)
def ZJ:S.sites 68=[68,95,96]:=ah
def ajd:S.sites 95=[95]:=ah
def aje:S.sites 96=[96]:=ah
def Kept.TL{K K':Nat->Prop}{a b:aC}(h:Kept K a b)(hk:∀id,K id->K' id):Kept K' a b:=fun id hn=>h id fun hh=>hn (hk id hh)
abbrev EP(g:Nat):List f_:=[[.hfn 93 [.aZ 2496320128 g 0] []],[.hfn 94 [.aZ 2496320128 g 0] []],[.hfn 95 [.aZ 2496320128 g 0] []],[.hfn 96 [.aZ 2496320128 g 0] []],[.hfn 97 [.aZ 2496320128 g 0] []]]
section
variable {al:Al} {Q:dX} {ak:Env} {aj:aC} {g g0:Nat}
def Z9(k:Nat){f:Nat}{dv:PV}{r:a_}{b:Bool}(hk:k<5)(hf:(EP g)[k]?=some [.hfn f [.aZ 2496320128 g 0] []])(KK:S.shared f=false)(oV:al.ok 4352192640=true)
  (ya:ak 22=.one (hs 4352192640 g0 5)) (rC:ak 23=vi 5) (ni:ak 24=vi k) (bV:aj 4352192640=(g0,some (.jo 26 1 (EP g))))
  (nv:oY aj (.one (.aZ 2496320128 g 0))=some (.one (.p dv),r)) (hr:al.fQ r=true) (hp:aK S f [.one (.p dv)] (rb b))
  (XJ:b=false->∀aF,aF 2=vb false->Q .ret aF aj)
  (Yk:b=true->∀aF,aF 22=.one (hs 4352192640 g0 5)->aF 23=vi 5->aF 24=vi ((k+1:Nat):Int)->W S al (.loop i68_l1) Q aF aj):W S al (.loop i68_l1) Q ak aj:=by
 refine sK ?_;have aA:((k:Int)<5):=aa;have w1:=cU (n:=k) aa;cases b with
 |false=>simp only[go_sem,i68_l1,ya,rC,ni,bV,aA,hk,hf,KK,oV,↓nv,aeC hp,hr];exact XJ rfl _ (by simp only[go_sem])
 |true=>
  simp only[go_sem,i68_l1,ya,rC,ni,bV,aA,hk,hf,KK,oV,↓nv,aeC hp,hr,w1];refine Yk rfl _ ?_ ?_ ?_
  .simp only[go_sem,ya]
  .simp only[go_sem,rC]
  simp only[go_sem]
def aj2(k:Nat){f:Nat}{P:V->aC->Prop}{b:Bool}(hk:k<5)(hf:(EP g)[k]?=some [.hfn f [.aZ 2496320128 g 0] []])(KK:S.shared f=true)(oV:al.ok 4352192640=true)
  (ya:ak 22=.one (hs 4352192640 g0 5)) (rC:ak 23=vi 5) (ni:ak 24=vi k) (bV:aj 4352192640=(g0,some (.jo 26 1 (EP g))))
  (hh:al.holds (allow (S.ctx al) f [.one (.aZ 2496320128 g 0)] aj)=true) (h:∃v ao,jg S f [.one (.aZ 2496320128 g 0)] (allow (S.ctx al) f [.one (.aZ 2496320128 g 0)] aj) aj v ao/\P v ao)
  (hP:∀v ao,P v ao->v=vb b)
  (XJ:b=false->∀v aF ao,P v ao->aF 2=vb false->Q .ret aF ao)
  (Yk:b=true->∀v aF ao,P v ao->aF 22=.one (hs 4352192640 g0 5)->aF 23=vi 5->aF 24=vi ((k+1:Nat):Int)->W S al (.loop i68_l1) Q aF ao):W S al (.loop i68_l1) Q ak aj:=by
 refine sK ?_;have aA:((k:Int)<5):=aa;have w1:=cU (n:=k) aa;simp only[go_sem,i68_l1,ya,rC,ni,bV,aA,hk,hf,KK,oV];refine r5 hh h fun v ao hp=>?_;have hv:=hP v ao hp;subst hv;cases b with
 |false=>simp only[go_sem];exact XJ rfl _ _ _ hp (by simp only[go_sem])
 |true=>
  simp only[go_sem,ni,w1];refine Yk rfl _ _ _ hp ?_ ?_ ?_
  .simp only[go_sem,ya]
  .simp only[go_sem,rC]
  simp only[go_sem]
end
def axp{al:Al}(okD:al.ok 2496320128=true)(okf:∀id,(jw id=68\/jw id=95\/jw id=96)->al.ok id=true)(f1:al.fs.contains 95=true)(f2:al.fs.contains 96=true)
  {aj:aC}{g F:Nat}{ls:ai} (hl:ls.length<=1000000) (hF:F<=1000000)
  (bD:aj 2496320128=(g,some (.var (wS F ls (.p .nils) (.p .nils) (.p .nils) (.p .sA) (.p .nils))))):∃v ao,jg S 68 [.one (.aZ 2496320128 g 0)] al aj v ao/\Z5 F ls g aj v ao:=by
 have oV:=okf 4352192640 (.inl rfl);refine nL c68 (iH rfl) ?_;by_cases he:ls=[]
 .subst he;have hz:(((0:Nat):Int)==0)=true:=ae;simp only[go_sem,i68,bD,hz,okD];exact⟨rfl,Kept.refl _ _,fun h=>absurd rfl h,fun _=>rfl⟩
 have jN:=jl.2 he;have HU:(((ls.length:Nat):Int)==0)=false:=by simp;omega
 obtain⟨l0,h0⟩:=aL jN;have pN:decide (ls=[])=false:=by simp[he]
 have pl:=anN F ls (.sl []) (.sl []) (.sl []) .sA (.sl []) hl ⟨rfl,rfl,rfl,rfl,rfl⟩;have pb:=anH F ls l0 (.sl []) (.sl []) (.sl []) .sA (.sl []) hl h0;have afo:=YJ (F:=F) (ls:=ls);have fail:∀aF ao,Kept Mr aj ao->my F ls=false->aF 2=vb false->mY 0 (Ai S al i68_r2 (oJ al [(2,none)] (Z5 F ls g aj))) .ret aF ao:=fun aF ao hk hv h2=>by simp only[go_sem,h2];exact⟨by rw[TG,pN,hv];rfl,hk,fun _ h=>(by rw[hv]at h;cases h),fun h=>absurd h he⟩
 have noL:yC F ls=false->my F ls=false:=fun h=>by simp[my,h]
 have YZ:¬(ls.any (dQ F)=false/\Ac ls=true/\mJ ls=true)->my F ls=false:=fun h=>noL (by
  cases hq:yC F ls with
  |false=>rfl
  |true=>exact absurd (afo.1 hq) h)
 simp only[go_sem,i68,bD,HU,okD,oV];have df:Kept Mr aj (eh aj 4352192640 ((aj 4352192640).1+1,some (.jo 26 1 (EP g)))):=Kept.eh (Kept.refl _ _) (.inr (.inl rfl)) _;generalize dE:eh aj 4352192640 ((aj 4352192640).1+1,some (.jo 26 1 (EP g)))=cF;rw[dE]at df;have bV:cF 4352192640=((aj 4352192640).1+1,some (.jo 26 1 (EP g))):=by rw[<-dE];simp only[go_sem]
 have bD:cF 2496320128=(g,some (.var (wS F ls (.p .nils) (.p .nils) (.p .nils) (.p .sA) (.p .nils)))):=by rw[<-dE];simp only[go_sem,bD]
 clear dE;have nv:oY cF (.one (.aZ 2496320128 g 0))=some (.one (.p (dgP F ls (.sl []) (.sl []) (.sl []) .sA (.sl []))),[2496320128]):=by simp only[go_sem,bD]
 have pV:al.fQ [2496320128]=true:=by simp only[go_sem,okD]
 refine Z9 0 aa rfl s93 oV (by simp only[go_sem]) (by simp only[go_sem];rfl) (by simp only[go_sem];rfl) bV nv pV pl (fun hb aF h2=>fail aF cF df (YZ fun h=>by simp[h.1]at hb) h2) (fun hb aF Bv vh rM=>?_);have dE:ls.any (dQ F)=false:=by simpa using hb
 have sY:∀l∈ls,dQ F l=false:=fun l hl=>by simpa using IZ.1 dE l hl
 have hg:r6 F ls:=fun l hl hp=>((sB hp).1 (sY l hl)).1.1.1;refine Z9 1 aa rfl s94 oV Bv vh rM bV nv pV pb (fun hb aF h2=>fail aF cF df (by simp only[my,h0,hb];rfl) h2) (fun hbg aF Bv vh rM=>?_);clear hb;have OG:jF cF (.one (.aZ 2496320128 g 0))=[2496320128]:=by rw[Ly bD];simp[Lx]
 refine aj2 (b:=Ac ls) 2 aa rfl ah oV Bv vh rM bV ?_ (auD (tM (by simp[OG])) (fun id h=>uE (by rw[ajd,h];rfl)) hl hF hg bD) (fun v ao h=>h.1) ?_ ?_
 .refine holds_of ?_ ?_
  .show al.fQ ([V.one (.aZ 2496320128 g 0)].map (jF cF)).flatten=true;simp only[ek,kU,OG,mT,Jc,jG];exact pV
  show(S.sites 95).all al.fs.contains=true;rw[ajd];simp only[nI,qY,f1];rfl
 .intro hb v aF ao hp h2;exact fail aF ao (df.trans (hp.2.1.TL fun id h=>h.elim .inl fun h=>.inr (.inr (.inl h)))) (YZ fun h=>by rw[h.2.1]at hb;cases hb) h2
 intro mq v aF bn hp Bv vh rM;obtain⟨_,jr,uY⟩:=hp;obtain⟨g1,g2,g3,g5,bD,bC,bW,qB,bA⟩:=uY mq;have kI:Dx F ls:=by obtain⟨a,b⟩:=(Pj hg).1 mq;exact⟨a,b⟩
 rw[alZ kI]at bA;rw[GN hg]at bD;have bV:bn 4352192640=((aj 4352192640).1+1,some (.jo 26 1 (EP g))):=by rw[<-bV];exact jr _ ae
 have afk:Kept Mr aj bn:=df.trans (jr.TL fun id h=>h.elim .inl fun h=>.inr (.inr (.inl h)));have oC:=okf 6080064448 (.inr (.inl rfl));have oW:=okf 6080128448 (.inr (.inl rfl));have oP:=okf 6080192448 (.inr (.inl rfl));have oA:=okf 6081344128 (.inr (.inl rfl));have oM:=okf 6144256064 (.inr (.inr rfl));have OH:jF bn (.one (.aZ 2496320128 g 0))=[2496320128,6080128448,6081344128,6080192448,6080064448]:=by rw[Ly bD];simp only[ek,kU,Lx,EG bW,EG bA,EG qB,EG bC,mT,Jc,gn,jG,nJ]
 refine aj2 (b:=mJ ls) 3 aa rfl ah oV Bv vh rM bV ?_ (anJ (tM (by simp[OH])) (fun id h=>uE (by rw[aje,h];rfl)) hl bD) (fun v ao h=>h.1) ?_ ?_
 .refine holds_of ?_ ?_
  .show al.fQ ([V.one (.aZ 2496320128 g 0)].map (jF bn)).flatten=true;simp only[ek,kU,OH,mT,Jc,jG,Ll,IA,okD,oC,oW,oP,oA,yP]
  show(S.sites 96).all al.fs.contains=true;rw[aje];simp only[nI,qY,f2];rfl
 .intro hb v aF ao hp h2;exact fail aF ao (afk.trans (hp.2.1.TL fun id h=>h.elim .inl fun h=>.inr (.inr (.inr h)))) (YZ fun h=>by rw[h.2.2]at hb;cases hb) h2
 intro eX v aF gR hp Bv vh rM;obtain⟨_,hk3,hr3⟩:=hp;obtain⟨g4,bD,bM⟩:=hr3 eX;have kp:∀id,jw id=95->gR id=bn id:=fun id h=>hk3 id (by
  rintro(e|e)
  .rw[e]at h;revert h;decide
  rw[e]at h;revert h;decide)
 rw[<-kp _ rfl]at bC bW qB bA;have bV:gR 4352192640=((aj 4352192640).1+1,some (.jo 26 1 (EP g))):=by rw[<-bV];exact hk3 _ ae
 have afl:Kept Mr aj gR:=afk.trans (hk3.TL fun id h=>h.elim .inl fun h=>.inr (.inr (.inr h)));have ok:fJ F ls:=⟨hl,kI,eX,fun l hl=>wM (sY l hl)⟩;have pf:=aoT ok;have hlR:yC F ls=true:=afo.2 ⟨dE,mq,eX⟩;have hvr:my F ls=(mQ ls==aq Let.aE ls+aq Let.aB ls/2+2):=by
  have ae2:(l0.kind==1)=true/\(aq Let.aE ls%2==0)=true:=by simpa using hbg
  simp only[my,h0,ae2.1,ae2.2,hlR,Df]
 have t1:List.take ls.length (bP (kY ls))=bP (kY ls):=gK (by simp[kY]);have t2:List.take (aG ls).length (nP (aG ls))=nP (aG ls):=gK af;have t3:List.take ls.length (nP (jX ls ls.length))=nP (jX ls ls.length):=gK (by simp[jX]);have t4:List.take (F+1) (nP (counts ls F))=nP (counts ls F):=gK (by simp[counts]);have n1:ls.length<=(kY ls).length:=by simp[kY]
 have n3:ls.length<=(jX ls ls.length).length:=by simp[jX]
 have n4:F+1<=(counts ls F).length:=by simp[counts]
 have nv:oY gR (.one (.aZ 2496320128 g 0))=some (.one (.p (nN F ls)),[2496320128,6080128448,6081344128,6080192448,6144256064,6080064448]):=by simp only[go_sem,ajq,bD,bW,bA,qB,bC,bM,ZQ,t1,t2,t3,t4,n1,n3,n4]
 have pV:al.fQ [2496320128,6080128448,6081344128,6080192448,6144256064,6080064448]=true:=by simp only[Ll,IA,okD,oC,oW,oP,oA,oM,yP]
 refine Z9 4 aa rfl s97 oV Bv vh rM bV nv pV pf (fun hb aF h2=>fail aF gR afl (by rw[hvr];exact hb) h2) (fun zK aF Bv vh rM=>?_);have hv:my F ls=true:=by rw[hvr];exact zK
 refine sK ?_;have n5:¬((((4+1:Nat)):Int)<5):=ae;simp only[go_sem,i68_l1,i68_r2,vh,rM,n5];exact⟨by rw[TG,pN,hv];rfl,afl,fun _ _=>⟨g1,g2,g3,g4,g5,bD,bC,bW,qB,bA,bM⟩,fun h=>absurd h he⟩
abbrev AY(f:Int):PV:=dgP f [] (.sl []) (.sl []) (.sl []) .sA (.sl [])
abbrev Bx(a b:PV):RV:=.tup [.one (.p a),.one (.p b)]
def Lz(f:Int)(ls:ai):RV:=if cG f ls=0 then Bx (if ls=[]then AY f else nN f.toNat ls) (.int .i64 0)else Bx .wa (.int .i64 (cG f ls))
def iM{aj:aC}{s:Nat}{a b:PV}{l:Bool}:land aj [] s ((Bx a b).gj l)=some (.tup [.one (.p a),.one (.p b)],[]):=by cases l<;>rfl
def Pk{f:Int}{e:Int}(h:cG f ls=e)(he:e≠0):Lz f ls=Bx .wa (.int .i64 e):=by unfold Lz;rw[h,au he]
def Pl{f:Int}(h:cG f ls=0):Lz f ls=Bx (if ls=[]then AY f else nN f.toNat ls) (.int .i64 0):=by unfold Lz;rw[aD h]
def S7(f:Int)(ls:ai)(hl:ls.length<=1000000):aK S 39 [ez f ls] (Lz f ls):=by
 have pc:=U1 f ls hl;refine bt c39 ?_;by_cases h1:400<ls.length
 .have j6:(400:Int)<(ls.length:Int):=aa;rw[Pk (e:=7) (by unfold cG;rw[aD (Or.inl h1)]) ae];simp only[go_sem,i39,j6];rfl
 have j6:¬(400:Int)<(ls.length:Int):=aa;by_cases h2:200<aq Let.aB ls
 .have jB:(200:Int)<(aq Let.aB ls:Int):=aa;rw[Pk (e:=7) (by unfold cG;rw[aD (Or.inr h2)]) ae];simp only[go_sem,i39,j6,jB,s67,eW pc];rfl
 have jB:¬(200:Int)<(aq Let.aB ls:Int):=aa;have n1:¬(400<ls.length\/200<aq Let.aB ls):=aa;by_cases h3:f<0
 .rw[Pk (e:=2) (by unfold cG;rw[au n1,aD (Or.inl h3)]) ae];simp only[go_sem,i39,j6,jB,h3,s67,eW pc];rfl
 by_cases h4:40<f
 .rw[Pk (e:=2) (by unfold cG;rw[au n1,aD (Or.inr h4)]) ae];simp only[go_sem,i39,j6,jB,h3,h4,s67,eW pc];rfl
 have n2:¬(f<0\/40<f):=aa;obtain⟨F,rfl⟩:=tJ (show 0<=f by omega);have jC:S.shared 68=true:=ah;simp only[go_sem,i39,j6,jB,h3,h4,s67,eW pc,jC];refine r5 (P:=Z5 F ls 1 _) zR (axp (F:=F) (ls:=ls) ?_ ?_ ?_ ?_ hl aa ?_) ?_
 .refine tM ?_;rw[ek,kU,Ly (g0:=1) (cs:=wS F ls (.p .nils) (.p .nils) (.p .nils) (.p .sA) (.p .nils)) (by simp only[go_sem])];simp
 .intro id h;refine uE ?_;rw[ZJ];rcases h with h|h|h<;>rw[h]<;>rfl
 .show(S.sites 68).contains _=true;rw[ZJ];rfl
 .show(S.sites 68).contains _=true;rw[ZJ];rfl
 .simp only[go_sem]
 rintro v ao ⟨rfl,hk,hr,hz⟩
 unfold TG;by_cases he:ls=[]
 .have hc:cG F ls=0:=by unfold cG;rw[au n1,au n2,aD he]
  have bD:=hz he;rw[Pl hc,aD he];have pN:(decide (ls=[])||my F ls)=true:=by simp[he]
  rw[pN];subst he;simp only[go_sem]at bD;simp only[go_sem];simp only[go_sem,jk,tW,vE,oL,nC,jW,bD];rfl
 have pN:decide (ls=[])=false:=by simp[he]
 cases hv:my F ls with
 |false=>rw[Pk (e:=3) (by unfold cG;rw[au n1,au n2,au he,hv];rfl) ae];rw[pN,De];simp only[go_sem];rfl
 |true=>
  have hc:cG F ls=0:=by unfold cG;rw[au n1,au n2,au he,hv];rfl
  rw[Pl hc,au he];obtain⟨g1,g2,g3,g4,g5,bD,bC,bW,qB,bA,bM⟩:=hr he hv;have hFn:(F:Int).toNat=F:=rfl;rw[hFn];have t1:List.take ls.length (bP (kY ls))=bP (kY ls):=gK (by simp[kY]);have t2:List.take (aG ls).length (nP (aG ls))=nP (aG ls):=gK af;have t3:List.take ls.length (nP (jX ls ls.length))=nP (jX ls ls.length):=gK (by simp[jX]);have t4:List.take (F+1) (nP (counts ls F))=nP (counts ls F):=gK (by simp[counts]);have n1:ls.length<=(kY ls).length:=by simp[kY]
  have n3:ls.length<=(jX ls ls.length).length:=by simp[jX]
  have n4:F+1<=(counts ls F).length:=by simp[counts]
  rw[pN,De];simp only[go_sem];simp only[go_sem,jk,tW,vE,oL,nC,jW,ajq,bD,bW,bA,qB,bC,bM,ZQ,t1,t2,t3,t4,n1,n3,n4];rfl
def amO(f:Int)(ls:ai)(hl:ls.length<=1000000):aK S 34 [ez f ls] (ri (cG f ls)):=by
 have pr:=S7 f ls hl;refine bt c34 ?_;unfold Lz at pr;by_cases h:cG f ls=0
 .rw[aD h]at pr;simp only[go_sem,i34,s39,dr pr iM,h]
 rw[au h]at pr;simp only[go_sem,i34,s39,dr pr iM]
abbrev qj(k a b c:Int)(l o:Bool)(s:Int):V:=.agg [.p (.int .i64 k),.p (.int .i64 a),.p (.int .i64 b),.p (.int .i64 c),.p (.bool l),.p (.bool o),.p (.int .i64 s)]
abbrev sD(e:Int):RV:=.tup [.agg [.p (.int .i64 0),.p .nils],.one (.p (.int .i64 e))]
def arC{aj:aC}{s:Nat}{e:Int}{l:Bool}:land aj [] s ((sD e).gj l)=some (.tup [.agg [.p (.int .i64 0),.p .nils],.one (.p (.int .i64 e))],[]):=by cases l<;>rfl
section
variable {f:Int} {ls:ai} {e:Int}
abbrev kinds(k:Nat):a_:=(List.range k).map (· +1)
end
def fV(n v:Nat)(fw:Bool):Nat:=if fw then 2*((v+n-1)%n)else 2*v+1
def lvV(n e:Nat):Nat:=if e%2=0 then e/2 else(e/2+1)%n
def vZ{n v:Nat}(hv:v<n):((v+n-1)%n+1)%n=v:=by
 by_cases h:v=0
 .subst h;rw[jx,fT (show n-1<n by omega),show n-1+1=n by omega,E0]
 rw[show v+n-1=(v-1)+n by omega,ow,fT (show v-1<n by omega),show v-1+1=v by omega,fT hv]
def v7{n v:Nat}(hv:v<n):((v+1)%n+n-1)%n=v:=by
 by_cases h:v+1=n
 .rw[h,E0,jx,fT (show n-1<n by omega)];omega
 rw[fT (show v+1<n by omega),show v+1+n-1=v+n by omega,ow,fT hv]
def ahe{n v:Nat}(hv:v<n)(g:Bool):lvV n (dx n v g)=v/\(dx n v g%2==0)=g:=by
 unfold lvV dx;cases g with
 |true=>have h1:(2*v)%2=0:=aa;simp only[if_true,h1];exact⟨aa,rfl⟩
 |false=>have h1:(2*((v+n-1)%n)+1)%2=1:=aa;have h2:(2*((v+n-1)%n)+1)/2=(v+n-1)%n:=aa;simp only[dN,if_false,h1,h2,Mo,vZ hv];exact⟨trivial,rfl⟩
def Lu(ls:ai)(ax:a_)(e:Nat):Nat:=
 if 2*ls.length<=e then
  if e%2=0 then fV ls.length (ax.getD ((e-2*ls.length)/2) 0) (dn ls (ax.getD ((e-2*ls.length)/2) 0))
  else fV ls.length (ax.getD (((e-2*ls.length)/2+1)%ax.length) 0) (!dn ls (ax.getD (((e-2*ls.length)/2+1)%ax.length) 0))
 else
  let v:=lvV ls.length e
  let g:=e%2==0
  match ls[v]? with
  |none=>0
  |some l=>if l.kind==2 then
    match ls[fM ls v]? with
    |some u=>fV ls.length (fM ls v) (g==(u.over==(u.sign==1)))
    |none=>0
   else if g==dn ls v then 2*ls.length+2*ax.idxOf v+1 else 2*ls.length+2*((ax.idxOf v+ax.length-1)%ax.length)
def sC(hr:mJ ls=true){i:Nat}{l:Let}(hl:ls[i]?=some l)(hc:l.aB=true):fM ls (fM ls i)=i/\ ∃m,ls[fM ls i]?=some m/\m.aB=true/\m.id=l.id/\m.over= !l.over/\m.sign=l.sign:=by
 obtain⟨h1,h2⟩:=SM hr hl hc;obtain⟨_,h3⟩:=IP h1;obtain⟨m,hm,mc,mi,mo⟩:=Cd h3;have hp:ID ls:=by have:=hr;unfold mJ at this;simp only[cH,cZ,gk,im]at this;exact(IU.1 this.1.2).2
 have aH:i≠fM ls i:=by intro e;rw[<-e,hl]at hm;cases hm;revert mo;cases l.over<;>simp
 obtain⟨h4,h5⟩:=SM hr hm mc;obtain⟨_,h6⟩:=IP h4;obtain⟨x,hx,xc,xi,xo⟩:=Cd h6;refine⟨?_,m,hm,mc,mi,mo,((hp i _ l m hl hm hc mc mi.symm aH).2).symm⟩;refine Decidable.byContradiction fun hn=>?_;have:=(hp _ i x l hx hl xc hc (by rw[xi,mi]) hn).1;rw[xo,mo]at this;revert this;cases l.over<;>simp
def ajW{ax:a_}{d v:Nat}{fw:Bool}{l:Let}(h:¬2*ls.length<=d)(zL:(d%2==0)=fw)(hv:v=if fw then(d/2+1)%ls.length else d/2)(hl:ls[v]?=some l):
  iw ls ax d=if l.kind==2 then dx ls.length (fM ls v) (fw==(l.over==(l.sign==1)))
   else if dn ls v==fw then 2*ls.length+2*ax.idxOf v else 2*ls.length+2*((ax.idxOf v+ax.length-1)%ax.length)+1:=by
 subst zL;subst hv;unfold iw;rw[au h];simp only[hl]
def aip(ok:fJ F ls){d:Nat}(hd:d<2*ls.length+2*(aG ls).length):Lu ls (aG ls) (iw ls (aG ls) d)=d:=by
 have kI:∀x∈aG ls,x<ls.length/\ ∃l,ls[x]?=some l/\l.aE=true:=fun x hx=>by obtain⟨l,h1,h2⟩:=uF.1 hx;exact⟨(aT.1 h1).1,l,h1,h2⟩
 have XM:∀ {p v:Nat},(aG ls)[p]?=some v->(aG ls).idxOf v=p:=fun{p v} hp=>by obtain⟨l,hl,nu,he⟩:=BK ok.ax hp;rw[Fh ok.ax hl nu,he]
 have along_small:∀ {v:Nat} (g:Bool),v<ls.length-> ¬2*ls.length<=dx ls.length v g:=fun{v} g hv=>by have:=Jr (n:=ls.length) (fw:=g) hv;omega
 have notC:∀ {l:Let},l.aE=true->(l.kind==2)=false:=fun{l} h=>qS h;have fromAxis:∀ {p v:Nat} (g:Bool),(aG ls)[p]?=some v->Lu ls (aG ls) (dx ls.length v g)=if g==dn ls v then 2*ls.length+2*p+1 else 2*ls.length+2*((p+(aG ls).length-1)%(aG ls).length):=by intro p v g hp;obtain⟨hv,l,hl,nu⟩:=kI v (aV hp);obtain⟨e1,e2⟩:=ahe hv g;unfold Lu;rw[au (along_small g hv)];simp only[e1,e2,hl,notC nu,XM hp];rfl
 by_cases h:2*ls.length<=d
 .unfold iw;rw[aD h];have hm:=de ((d-2*ls.length)/2+1) (show 0<(aG ls).length by omega);by_cases h2:d%2=0
  .rw[aD h2];obtain⟨v,hv⟩:=aL hm;have qO:(aG ls).getD (((d-2*ls.length)/2+1)%(aG ls).length) 0=v:=by rw[dC,hv];rfl
   rw[qO,fromAxis _ hv];have hb:((!dn ls v)==dn ls v)=false:=by cases dn ls v<;>rfl
   rw[hb,v7 (show(d-2*ls.length)/2<(aG ls).length by omega)];simp only[dN,if_false];omega
  rw[au h2];obtain⟨v,hv⟩:=aL (ls:=aG ls) (k:=(d-2*ls.length)/2) aa;have qO:(aG ls).getD ((d-2*ls.length)/2) 0=v:=by rw[dC,hv];rfl
  rw[qO,fromAxis _ hv];simp only[Av,if_true];omega
 have hn:0<ls.length:=aa;have pP:=de (d/2+1) hn;have key:∀(v:Nat) (fw:Bool),v<ls.length->(d%2==0)=fw->v=(if fw then(d/2+1)%ls.length else d/2)->fV ls.length v fw=d:=by
  intro v fw hv zL fK;unfold fV;cases fw with
  |true=>
   have zL:d%2=0:=by simpa using zL
   simp only[if_true]at fK |-;rw[fK,v7 (show d/2<ls.length by omega)];omega
  |false=>
   have zL:d%2≠0:=by simpa using zL
   simp only[dN,if_false]at fK |-;omega
 generalize hv:(if(d%2==0)=true then(d/2+1)%ls.length else d/2)=v;generalize zL:(d%2==0)=fw at hv;have tq:v<ls.length:=by rw[<-hv];split<;>omega
 have FW:=key v fw tq zL hv.symm;obtain⟨l,hl⟩:=aL tq;rw[ajW h zL hv.symm hl];cases hk:(l.kind==2)with
 |true=>
  have hc:l.aB=true:=hk;obtain⟨hb,m,hm,mc,mi,mo,ms⟩:=sC ok.cr hl hc;have Ox:=(SM ok.cr hl hc).2;rw[aD rfl];obtain⟨e1,e2⟩:=ahe Ox (fw==(l.over==(l.sign==1)));unfold Lu;rw[au (along_small _ Ox)];have mk:(m.kind==2)=true:=mc;simp only[e1,e2,hm,mk,if_true,hb,hl];have yh:((fw==(l.over==(l.sign==1)))==(l.over==(l.sign==1)))=fw:=by cases fw<;>cases(l.over==(l.sign==1))<;>rfl
  rw[yh];exact FW
 |false=>
  have hp:=ok.Ss hl hk;have Ee:=Fh ok.ax hl hp;have bU:=Jx ok.ax hl hp;have hpT:=(aT.1 bU).1;rw[au af,Ee];cases hq:(dn ls v==fw)with
  |true=>
   simp only[if_true];unfold Lu;rw[aD aa,aD aa];have e1:(2*ls.length+2*dF ls l-2*ls.length)/2=dF ls l:=aa;have e2:(aG ls).getD (dF ls l) 0=v:=by rw[dC,bU];rfl
   rw[e1,e2,show dn ls v=fw by simpa using hq];exact FW
  |false=>
   have j8:=de (dF ls l+(aG ls).length-1) (show 0<(aG ls).length by omega);simp only[dN,if_false];unfold Lu;rw[aD aa,au aa];have e1:(2*ls.length+2*((dF ls l+(aG ls).length-1)%(aG ls).length)+1-2*ls.length)/2=(dF ls l+(aG ls).length-1)%(aG ls).length:=aa;have e2:(aG ls).getD (dF ls l) 0=v:=by rw[dC,bU];rfl
   rw[e1,vZ hpT,e2,show(!dn ls v)=fw by revert hq;cases dn ls v<;>cases fw<;>simp];exact FW
def axj(ok:fJ F ls){d e:Nat}(hd:d<2*ls.length+2*(aG ls).length)(he:e<2*ls.length+2*(aG ls).length)(h:aO ls d=aO ls e):d=e:=by have h1:=aip ok hd;have h2:=aip ok he;rw[<-h1,<-h2];exact congrArg _ h
def pwF(next:Nat->Nat)(n2:Nat):Nat->Nat->m_->a_×m_
 |0,_,sp=>([],sp)
 |k+1,x,sp=>if x<n2 then
   if sp.getD x true then([],sp)else(x::(pwF next n2 k (next x) (sp.set x true)).1,(pwF next n2 k (next x) (sp.set x true)).2)
  else(x::(pwF next n2 k (next x) sp).1,(pwF next n2 k (next x) sp).2)
abbrev sn(S:m_)(x:Nat):Bool:=S.getD x true
def Pt{S:m_}{y:Nat}(hx:x<S.length):sn (S.set x true) y=if y=x then true else sn S y:=by
 unfold sn;rw[dC,dC,qZ];by_cases h:x=y
 .subst h;simp[hx]
 rw[au h,au (fun e=>h e.symm)]
structure Ay (next:Nat->Nat) (n2 N:Nat):Prop where
 le:n2<=N
 lt:∀x,x<N->next x<N
 inj:∀x y,x<N->y<N->next x=next y->x=y
 ax:∀x,x<N->n2<=x->next x<n2
def Mq(next:Nat->Nat)(N:Nat)(S:m_):Prop:=∀y,y<N->sn S y=sn S (next y)
structure Inv (next:Nat->Nat) (N d:Nat) (S:m_) (x:Nat):Prop where
 i1:∀y,y<N->sn S (next y)=true->sn S y=true\/next y=d
 i2:∀y,y<N->sn S y=true->sn S (next y)=true\/next y=x
 i4:sn S x=true->x=d
 pr:(x=d/\sn S x=false)\/ ∃p,p<N/\next p=x/\sn S p=true
def Inv.start{next:Nat->Nat}{N d:Nat}{S:m_}(h:Mq next N S)(hd:sn S d=false):Inv next N d S d:=
 ⟨fun y hy hs=>.inl (by rw[h y hy];exact hs),fun y hy hs=>.inl (by rw[<-h y hy];exact hs),fun _=>rfl,.inl ⟨rfl,hd⟩⟩
def Inv.stop{next:Nat->Nat}{N d:Nat}{S:m_}(m:Ay next n2 N)(h:Inv next N d S x)(hx:sn S x=true):Mq next N S:=by
 have hxd:=h.i4 hx;subst hxd;intro y hy;cases h1:sn S y with
 |true=>
  rcases h.i2 y hy h1 with h2|h2
  .rw[h2]
  rw[h2,hx]
 |false=>
  cases h2:sn S (next y)with
  |false=>rfl
  |true=>
   rcases h.i1 y hy h2 with h3|h3
   .rw[h3]at h1;cases h1
   rcases h.pr with⟨_,h4⟩|⟨p,hp,jT,dS⟩
   .rw[hx]at h4;cases h4
   have:=m.inj y p hy hp (by rw[h3,jT]);rw[this,dS]at h1;cases h1
def Inv.step{next:Nat->Nat}{N d:Nat}{S:m_}(m:Ay next n2 N)(hl:S.length=N)(Cs:x<N)(h:Inv next N d S x)(hx:sn S x=false):Inv next N d (S.set x true) (next x):=by
 have xn:x<S.length:=aa;refine⟨fun y hy hs=>?_,fun y hy hs=>?_,fun hs=>?_,.inr ⟨x,Cs,rfl,by rw[Pt xn,aD rfl]⟩⟩
 .rw[Pt xn]at hs |-;by_cases e:next y=x
  .rcases h.pr with⟨h1,_⟩|⟨p,hp,jT,dS⟩
   .exact .inr (by rw[e,h1])
   have:=m.inj y p hy hp (by rw[e,jT]);left;rw[this];split
   .rfl
   exact dS
  rw[au e]at hs;rcases h.i1 y hy hs with h2|h2
  .left;split
   .rfl
   exact h2
  exact .inr h2
 .rw[Pt xn]at hs |-;by_cases e:y=x
  .subst e;exact .inr rfl
  rw[au e]at hs;rcases h.i2 y hy hs with h2|h2
  .left;split
   .rfl
   exact h2
  left;rw[aD h2]
 rw[Pt xn]at hs;by_cases e:next x=x
 .rcases h.pr with⟨h1,_⟩|⟨p,hp,jT,dS⟩
  .rw[e,h1]
  have:=m.inj p x hp Cs (by rw[jT,e]);rw[this,hx]at dS;cases dS
 rw[au e]at hs;rcases h.i1 x Cs hs with h2|h2
 .rw[hx]at h2;cases h2
 exact h2
def ZM{S:m_}(hx:x<n2)(hl:n2<=S.length):(S.take n2).getD x true=sn S x:=by unfold sn;rw[dC,dC,mA,aD hx]
def ajL{S:m_}:(S.take n2).set x true=(S.set x true).take n2:=by rw[<-List.take_set]
def ajK{S:m_}(hx:n2<=x):(S.set x true).take n2=S.take n2:=by rw[List.take_set];exact akB (by rw[iz];omega)
def axA{next:Nat->Nat}{N d:Nat}(m:Ay next n2 N)(hd:d<n2):∀(fuel x:Nat) (S:m_),S.length=N->x<N->Inv next N d S x->Aj S<fuel->
  Mq next N (fE next fuel x S).2/\pwF next n2 fuel x (S.take n2)=((fE next fuel x S).1,(fE next fuel x S).2.take n2):=by
 intro fuel
 induction fuel with
 |zero=>intro x S _ _ _ h;omega
 |succ fuel ih=>
  intro x S hl hx hi hu;have hle:=m.le;unfold fE pwF;cases hs:S.getD x true with
  |true=>have hxd:=hi.i4 hs;have aA:x<n2:=aa;rw[aD aA,ZM aA aa,show sn S x=true from hs];exact⟨hi.stop m hs,rfl⟩
  |false=>
   have En:S[x]?=some false:=by
    rw[dC]at hs;cases h1:S[x]? with
    |none=>rw[h1]at hs;cases hs
    |some b=>rw[h1]at hs;exact congrArg some hs
   have F6:=Py En;obtain⟨c1,c2⟩:=ih (next x) (S.set x true) (by rw[ux,hl]) (m.lt x hx) (hi.step m hl hx hs) aa;simp only[dN,if_false];refine⟨c1,?_⟩;by_cases aA:x<n2
   .rw[aD aA,ZM aA aa,show sn S x=false from hs];simp only[dN,if_false];rw[ajL,c2]
   rw[au aA];rw[ajK aa]at c2;rw[c2]
def fJ.kI(_:fJ F ls):∀x∈aG ls,x<ls.length:=fun _ h=>Qs h
def fJ.hp(ok:fJ F ls):∀v l,ls[v]?=some l->(l.kind==2)=false->v∈aG ls:=fun _ l hv h2=>uF.2 ⟨l,hv,ok.Ss hv h2⟩
abbrev nD(ls:ai):Nat:=2*ls.length+2*(aG ls).length
def maps(ok:fJ F ls):Ay (aO ls) (2*ls.length) (nD ls):=by
 refine⟨by unfold nD;omega,fun x hx=>TD ok.kI ok.hp hx,fun x y hx hy h=>axj ok hx hy h,fun x hx hn=>?_⟩;have hx:x<2*ls.length+2*(aG ls).length:=hx;have Ed:∀k,k<(aG ls).length->(aG ls).getD k 0<ls.length:=fun k hk=>by obtain⟨v,hv⟩:=aL hk;rw[dC,hv];exact ok.kI v (aV hv)
 have hm:=de ((x-2*ls.length)/2+1) (show 0<(aG ls).length by omega);show iw ls (aG ls) x<_;unfold iw;rw[aD hn];split
 .exact Jr (Ed _ hm)
 exact Jr (Ed _ aa)
def aj6(next:Nat->Nat):∀(k x:Nat) (S:m_) (y:Nat),sn S y=true->sn (fE next k x S).2 y=true:=by
 intro k
 induction k with
 |zero=>intro x S y h;exact h
 |succ k ih=>
  intro x S y h;unfold fE;split
  .exact h
  refine ih _ _ _ ?_;unfold sn;rw[dC,qZ];split
  .split<;>rfl
  rw[<-dC];exact h
def aj4(next:Nat->Nat)(k x:Nat)(S:m_)(hk:Aj S<k):sn (fE next k x S).2 x=true:=by
 cases k with
 |zero=>omega
 |succ k=>
  unfold fE;cases hs:S.getD x true with
  |true=>simpa using hs
  |false=>
   simp only[dN,if_false];refine aj6 _ _ _ _ _ ?_;unfold sn;rw[dC,qZ];split
   .split<;>rfl
   rename_i h;exact absurd rfl h
section
variable {next:Nat->Nat} {n2 N:Nat}
def ZL(h:x<N):sn (List.replicate N false) x=false:=by unfold sn;rw[dC,List.getElem?_replicate,aD h];rfl
def TK(m:Ay next n2 N):∀k,k<=n2->Mq next N (ef next N k).2/\ ∀x,x<k->sn (ef next N k).2 x=true:=by
 intro k
 induction k with
 |zero=>intro _;refine⟨fun y hy=>?_,fun x h=>absurd h (o9 x)⟩;show sn (List.replicate N false) y=sn (List.replicate N false) (next y);rw[ZL hy,ZL (m.lt y hy)]
 |succ k ih=>
  intro hk;obtain⟨c,s⟩:=ih aa;have hlen:=IQ next N k;have hle:=m.le;rw[Am];unfold wD;cases hs:(ef next N k).2.getD k true with
  |true=>
   simp only[if_true];refine⟨c,fun x hx=>?_⟩;rcases oD.1 hx with h|rfl
   .exact s x h
   exact hs
  |false=>
   simp only[dN,if_false];have hul:=L1 (ef next N k).2;obtain⟨c1,_⟩:=axA m (show k<n2 by omega) ((ef next N k).2.length+1) k (ef next N k).2 hlen aa (Inv.start c hs) aa;refine⟨c1,fun x hx=>?_⟩;rcases oD.1 hx with h|rfl
   .exact aj6 _ _ _ _ _ (s x h)
   exact aj4 _ _ _ _ aa
def aab(m:Ay next n2 N):∀k,n2<=k->k<=N->ef next N k=ef next N n2:=by
 intro k
 induction k with
 |zero=>intro h _;rw[show n2=0 by omega]
 |succ k ih=>
  intro h1 h2;by_cases e:n2=k+1
  .rw[e]
  rw[Am,ih aa aa];obtain⟨c,s⟩:=TK m n2 (bY _);unfold wD;have:(ef next N n2).2.getD k true=true:=by have h3:=c k aa;have h4:=s (next k) (m.ax k aa aa);show sn (ef next N n2).2 k=true;rw[h3,h4]
  rw[this];rfl
end

abbrev ql(o:v_):s_:=o.map fun p=>[PV.int .i64 (p.1:Int),PV.int .i64 (p.2:Int)]
def tG(g r to:Nat):v_:=(g,r)::(List.range (to-g)).map fun i=>(g+1+i,0)
def vk(g to:Nat):a_:=(List.range (to-g)).map fun i=>g+1+i
abbrev ED:Nat:=144
def gN (ls:ai)(i:Nat):Nat:=match ls[i]? with|some l=>l.gate.toNat|none=>0
def rN (ls:ai)(i:Nat):Nat:=match ls[i]? with|some l=>l.aw.toNat|none=>0
def A3{i:Nat}{l:Let}(h:ls[i]?=some l):gN ls i=l.gate.toNat:=by simp[gN,h]
def Zw{i:Nat}{l:Let}(h:ls[i]?=some l):rN ls i=l.aw.toNat:=by simp[rN,h]
def qU(F:Nat)(ls:ai)(j:Nat):v_:=
 let u:=(aG ls).getD j 0
 let v:=(aG ls).getD ((j+1)%(aG ls).length) 0
 if j+1<(aG ls).length then tG (gN ls u) (rN ls u) (gN ls v)else tG (gN ls u) (rN ls u) F++tG 0 0 (gN ls v)
def EC(F:Nat)(ls:ai)(j:Nat):a_:=
 let u:=(aG ls).getD j 0
 let v:=(aG ls).getD ((j+1)%(aG ls).length) 0
 if j+1<(aG ls).length then vk (gN ls u) (gN ls v)else vk (gN ls u) F++vk 0 (gN ls v)
def Ls(a b:v_):ql (a++b)=ql a++ql b:=af
def Ld(a b:a_):nP (a++b)=nP a++nP b:=af
def Bz(g r to:Nat):(tG g r to).length=to-g+1:=by simp[tG]
def Tt(g to:Nat):(vk g to).length=to-g:=by simp[vk]
def My(ok:fJ F ls)(hj:j<(aG ls).length):∃u l,(aG ls)[j]?=some u/\(aG ls).getD j 0=u/\ls[u]?=some l/\l.aE=true/\vF F ls l:=by obtain⟨u,hu⟩:=aL hj;obtain⟨l,h1,h2⟩:=uF.1 (aV hu);exact⟨u,l,hu,by rw[dC,hu];rfl,h1,h2,ok.ax.fi l (aV h1) h2⟩
structure Fc where
 hJ:Bool
 cA:a_
 places:v_
 zj:a_
 outer:Bool
abbrev q_:=List Fc
def Fc.ps(f:Fc):b_:=[.bool f.hJ,.sl (nP f.cA),.sl (ql f.places),.sl (nP f.zj),.bool f.outer]
def Fc.add(F:Nat)(ls:ai)(f:Fc)(x:Nat):Fc:=
 if x<2*ls.length then{f with cA:=f.cA++[x]}
 else{f with places:=f.places++(if x%2=0 then qU F ls ((x-2*ls.length)/2)else(qU F ls ((x-2*ls.length)/2)).reverse),zj:=f.zj++(if x%2=0 then EC F ls ((x-2*ls.length)/2)else(EC F ls ((x-2*ls.length)/2)).reverse),outer:=f.outer||decide ((x-2*ls.length)/2+1=(aG ls).length)}
def Fc.new(ls:ai)(d:Nat):Fc:=⟨dn ls (d/2+1),[],[],[],false⟩
def mg(F:Nat)(ls:ai)(w:a_):Fc:=w.foldl (Fc.add F ls) (Fc.new ls (w.headD 0))
def eV(F:Nat)(ls:ai):q_:=(gH (aO ls) (nD ls)).map (mg F ls)
def Rk(ok:fJ F ls)(hj:j<(aG ls).length):gN ls ((aG ls).getD j 0)<=F:=by obtain⟨u,l,_,du,hl,_,hg⟩:=My ok hj;rw[du,A3 hl];have:=hg.g1;have:=hg.g0;omega
def aid(ok:fJ F ls)(hj:j<(aG ls).length):(qU F ls j).length<=2*F+2:=by have h1:=Rk ok hj;have h2:=Rk ok (de (j+1) (show 0<(aG ls).length by omega));unfold qU;simp only;split<;>simp only[fS,Bz]<;>omega
def aic(ok:fJ F ls)(hj:j<(aG ls).length):(EC F ls j).length<=2*F+2:=by have h1:=Rk ok hj;have h2:=Rk ok (de (j+1) (show 0<(aG ls).length by omega));unfold EC;simp only;split<;>simp only[fS,Tt]<;>omega
def axw(next:Nat->Nat):∀(k x:Nat) (S:m_),∀y∈(fE next k x S).1,y<S.length:=by
 intro k
 induction k with
 |zero=>intro x S y h;simp[fE]at h
 |succ k ih=>
  intro x S y h;unfold fE at h;cases hs:S.getD x true with
  |true=>rw[hs]at h;simp at h
  |false=>
   rw[hs]at h;have hx:x<S.length:=by
    rcases P0 x S.length with h1|h1
    .exact h1
    rw[dC,n9 h1]at hs;cases hs
   simp only[dN,if_false,bJ]at h;rcases h with rfl|h
   .exact hx
   have:=ih _ _ y h
   simpa using this
def axx(next:Nat->Nat):∀(k x:Nat) (S:m_),(fE next k x S).1.length<=Aj S:=by
 intro k
 induction k with
 |zero=>intro x S;simp[fE]
 |succ k ih=>
  intro x S;unfold fE;cases hs:S.getD x true with
  |true=>simp
  |false=>
   have En:S[x]?=some false:=by
    rw[dC]at hs;cases h1:S[x]? with
    |none=>rw[h1]at hs;cases hs
    |some b=>rw[h1]at hs;exact congrArg some hs
   have F6:=Py En;have:=ih (next x) (S.set x true);simp only[dN,if_false,dI];omega
def aj3(next:Nat->Nat){k:Nat}{S:m_}(h:S.getD x true=false):∃t,(fE next (k+1) x S).1=x::t:=by unfold fE;rw[h];exact⟨_,rfl⟩
def aj8(next:Nat->Nat)(N:Nat):∀k,∀w∈(ef next N k).1,(∃d t,w=d::t/\d<k)/\w.length<=N/\ ∀y∈w,y<N:=by
 intro k
 induction k with
 |zero=>intro w h;simp[ef]at h
 |succ k ih=>
  intro w h;rw[Am]at h;unfold wD at h;have hlen:=IQ next N k;have old:w∈(ef next N k).1->(∃d t,w=d::t/\d<k+1)/\w.length<=N/\ ∀y∈w,y<N:=fun h=>by obtain⟨⟨d,t,h1,h2⟩,h3⟩:=ih w h;exact⟨⟨d,t,h1,aa⟩,h3⟩
  cases hs:(ef next N k).2.getD k true with
  |true=>simp only[hs,if_true]at h;exact old h
  |false=>
   simp only[hs,dN,if_false,eO,lI]at h;rcases h with h|rfl
   .exact old h
   obtain⟨t,ht⟩:=aj3 next (k:=(ef next N k).2.length) hs;refine⟨⟨k,t,ht,aa⟩,?_,fun y hy=>?_⟩
   .have h1:=axx next ((ef next N k).2.length+1) k (ef next N k).2;have h2:=L1 (ef next N k).2;omega
   have:=axw next _ _ _ y hy;omega
def PC(ok:fJ F ls):∀w∈gH (aO ls) (nD ls),(∃d t,w=d::t/\d<2*ls.length)/\w.length<=nD ls/\ ∀y∈w,y<nD ls:=by intro w h;unfold gH at h;rw[aab (maps ok) (nD ls) (by unfold nD;omega) (bY _)]at h;exact aj8 (aO ls) (nD ls) _ w h
abbrev BQ:Nat:=113
def axV{a b:PV}{id g z o l:Nat}{cp cf:C}:Da [[.p a,.hsl id g z o l,cp,cf,.p b]]=none:=rfl
def an0{aj:aC}{s g ty sd td zd sp tp zp sf tf zf:Nat}{a o:Bool}{cd cp cf:C}{D P G:s_}(hb:aj s=(g,some (.jo ty 5 [[.p (.bool a),cd,cp,cf,.p (.bool o)]])))(gd:grown sd td zd D (.one cd) aj)(gp:grown sp tp zp P (.one cp) aj)(gf:grown sf tf zf G (.one cf) aj):
  ∃fr,fN aj (.one (.hsl s g 5 0 1))=some ([[.bool a,.sl D,.sl P,.sl G,.bool o]],[s],fr)/\pG aj fr/\ ∀i∈fr,i=sd\/i=sp\/i=sf:=by
 obtain⟨r1,n1,a1,q1⟩:=gd.Tn;obtain⟨r2,n2,a2,q2⟩:=gp.Tn;obtain⟨r3,n3,a3,q3⟩:=gf.Tn;refine⟨r1++(r2++r3),?_,a1.app (a2.app a3),fun i hi=>?_⟩
 .simp only[fN,hb];simp[collect,n1,n2,n3,Tq,PV.norm]
 simp only[eO]at hi;rcases hi with hi|hi|hi
 .rcases q1 with rfl|rfl<;>simp at hi;exact .inl hi
 .rcases q2 with rfl|rfl<;>simp at hi;exact .inr (.inl hi)
 rcases q3 with rfl|rfl<;>simp at hi;exact .inr (.inr hi)
abbrev uL(l:q_):s_:=l.map Fc.ps
def alg(F:Nat)(ls:ai):∀(w:a_) (f:Fc),f.cA≠[]->(w.foldl (Fc.add F ls) f).cA≠[]:=by
 intro w
 induction w with
 |nil=>intro f h;exact h
 |cons x w ih=>
  intro f h;refine ih _ ?_;unfold Fc.add;split
  .simp
  exact h
def aoB{d:Nat}{t:a_}(h:d<2*ls.length):(mg F ls (d::t)).cA≠[]:=by unfold mg;refine alg F ls t _ ?_;unfold Fc.add;rw[show(d::t).headD 0=d from rfl,aD h];simp
def vx(ls:ai)(k:Nat):m_:=(List.range ls.length).map fun i=>decide (i<k)&& !dn ls (i+1)
def abu(ls:ai)(k:Nat):(vx ls k).length=ls.length:=by simp[vx]
def ame(ls:ai):vx ls 0=List.replicate ls.length false:=by
 refine xL fun i=>?_;simp only[vx,fG,List.getElem?_replicate];by_cases h:i<ls.length
 .simp[h]
 rw[n9 (by simpa using h),au h];rfl
def amd(ls:ai)(k:Nat):vx ls (k+1)=(vx ls k).set k (!dn ls (k+1)):=by
 refine xL fun i=>?_;rw[qZ,abu];simp only[vx,fG];by_cases h:i<ls.length
 .rw[vp h];by_cases e:k=i
  .subst e;simp[h]
  simp only[nK,e,if_false];congr 2;exact decide_eq_decide.2 aa
 rw[n9 (by simpa using h)];by_cases e:k=i
 .subst e;rw[aD rfl,au h];rfl
 rw[au e];rfl
abbrev DA(ls:ai):m_:=vx ls ls.length
def amf{i:Nat}(h:i<ls.length):(DA ls)[i]?=some (!dn ls (i+1)):=by simp[vx,h]
def amh(ok:fJ F ls):aK S 75 [.one (.p (nN F ls))] (.one (.own 4 1 (bP (DA ls)))):=by
 have hl:=ok.hl;have ll:ls.length<=140737488355328:=aa;have vU:List.replicate ls.length [PV.bool false]=bP (vx ls 0):=by rw[ame];simp
 refine bt c75 ?_;simp only[go_sem,i75,ll,vU];refine dD (fun k ak aj=>ak 0=.one (.p (nN F ls))/\ak 3=.one (.hsl 4800064384 1 1 0 ls.length)/\aj 4800064384=(1,some (.arr 4 1 (bP (vx ls k))))/\
   ak 4=vb (!dn ls k)/\ak 18=.one (.p (dd ls))/\ak 19=vi ls.length/\ak 20=vi k) 0 ls.length (bR _) ?_ ?_
 .simp only[go_sem];first|exact⟨rfl,rfl⟩|exact⟨rfl,rfl,rfl⟩|exact⟨rfl,rfl,rfl,rfl⟩|exact rfl
 rintro k ak aj hk ⟨h0,h3,hA,h4,iB,iK,zo⟩
 by_cases aA:k<ls.length
 .obtain⟨l,df⟩:=aL aA;have hi:=jf df;have aM:((k:Int)<(ls.length:Int)):=aa;have w1:=cU (n:=k) aa;have hlen:k<(vx ls k).length:=by rw[abu];exact aA
  obtain⟨b0,pM⟩:=aL hlen;have k9:=tO pM;have iE:=Jy (vx ls k) k (!dn ls (k+1));rw[<-amd]at iE;cases hp:(l.kind==1)with
  |true=>have hd:=MX df hp;have NQ:=tO (QL df hp);rw[hd]at iE;rw[L8]at iE;simp only[go_sem,i75_l1,h0,h3,hA,h4,iB,iK,zo,hi,Let.ps,aA,aM,w1,hp,NQ,k9,iE,hd]
  |false=>have hd:=MY df hp;rw[hd]at iE;simp only[go_sem,i75_l1,h0,h3,hA,h4,iB,iK,zo,hi,Let.ps,aA,aM,w1,hp,k9,iE,hd]
 have:k=ls.length:=aa;subst this;simp only[go_sem,i75_l1,i75_r2,h3,iK,zo,eS];exact Lq hA (by simp[vx])
abbrev Gd(id:Nat):Prop:=jw id=128
def ajw{g r T k:Nat}(h:k<=T-g):(tG g r T)[k]?=some (g+k,if k=0 then r else 0):=by
 cases k with
 |zero=>rfl
 |succ k=>unfold tG;rw[List.getElem?_cons_succ,fG,vp aa];simp;omega
def awv{g T k:Nat}(h:k<T-g):(vk g T)[k]?=some (g+1+k):=by unfold vk;rw[fG,vp h];rfl
def JF(g r T:Nat)(ps fs:s_)(i1 i2:Nat)(aj:aC)(v:V)(ao:aC):Prop:=
 ∃c1 c2 j2,v=.tup [.one c1,.one c2]/\grown 8192320192 ED 2 (ps++ql (tG g r T)) (.one c1) ao/\grown j2 3 1 (fs++nP (vk g T)) (.one c2) ao/\(j2=i2\/j2=8192256256)/\
  Kept (fun id=>Gd id\/id=i1\/id=i2) aj ao
def bt1:a_:=[8192000000,8192000064,8192128128,8192256192,8192256256,8192320128]
def bt2:a_:=[8192000000,8192000064,8192128128,8192128192,8192256192,8192320128,8192320192]
def ME{al:Al}{aj:aC}{g r T t i1 i2:Nat}{ps fs:s_}{c1 c2:C}(okf:∀id,Gd id->al.ok id=true)(o1:al.ok i1=true)(o2:al.ok i2=true)(hT:g<=T)(ht:t=if T=g then r else 0)(hb:T<=1000)(dS:ps.length<=1000000)(tc:fs.length<=1000000)
  (n12:i1≠i2) (nb1:i1∉bt1) (nb2:i2∉bt2) (h1:grown i1 ED 2 ps (.one c1) aj) (h2:grown i2 3 1 fs (.one c2) aj):
  ∃v ao,jg S 128 [.agg [.p (.int .i64 g),.p (.int .i64 r)],.agg [.p (.int .i64 T),.p (.int .i64 t)],.one c1,.one c2] al aj v ao/\JF g r T ps fs i1 i2 aj v ao:=by
 have k0:al.ok 8192000000=true:=okf _ rfl;have k64:al.ok 8192000064=true:=okf _ rfl;have kb1:al.ok 8192128128=true:=okf _ rfl;have ka1:al.ok 8192128192=true:=okf _ rfl;have OU:al.ok 8192256192=true:=okf _ rfl;have ka2:al.ok 8192256256=true:=okf _ rfl;have kb3:al.ok 8192320128=true:=okf _ rfl;have ka3:al.ok 8192320192=true:=okf _ rfl;refine nL c128 (iH rfl) ?_;simp only[go_sem,i128,k0,k64];have lenP:=Bz g r T;have lenF:=Tt g T;refine dD (fun k ak ao=>ak 4=.one (.aZ 8192000000 ((aj 8192000000).1+1) 0)/\ak 5=.one (.aZ 8192000064 ((aj 8192000064).1+1) 0)/\
   ao 8192000000=((aj 8192000000).1+1,some (.var [.p (.int .i64 ((g+k:Nat):Int)),.p (.int .i64 ((if k=0 then r else 0:Nat):Int))]))/\ao 8192000064=((aj 8192000064).1+1,some (.var [.p (.int .i64 T),.p (.int .i64 t)]))/\
   ∃d1 d2 j1 j2,ak 2=.one d1/\ak 3=.one d2/\(j1=i1\/j1=8192128192)/\(j2=i2\/j2=8192256256)/\grown j1 ED 2 (ps++ql ((tG g r T).take k)) (.one d1) ao/\grown j2 3 1 (fs++nP ((vk g T).take k)) (.one d2) ao/\Kept (fun id=>Gd id\/id=i1\/id=i2) aj ao) 0 (T-g) (bR _) ?_ ?_
 .simp only[go_sem];refine⟨rfl,c1,c2,i1,i2,rfl,rfl,.inl rfl,.inl rfl,?_,?_,?_⟩
  .exact(h1.of_eq (bj (SC nb1 (by simp[bt1])))).of_eq (bj (SC nb1 (by simp[bt1])))
  .exact(h2.of_eq (bj (SC nb2 (by simp[bt2])))).of_eq (bj (SC nb2 (by simp[bt2])))
  exact((Kept.refl _ _).eh (.inl rfl) _).eh (.inl rfl) _
 rintro k ak ao hk ⟨h4,h5,hA,hB,d1,d2,j1,j2,e2,e3,q1,q2,g1,g2,dM⟩
 have oj1:al.ok j1=true:=by rcases q1 with rfl|rfl<;>assumption
 have oj2:al.ok j2=true:=by rcases q2 with rfl|rfl<;>assumption
 have n1:∀a,a∈bt1->j1≠a:=fun a ha e=>by
  rcases q1 with rfl|rfl
  .exact nb1 (e▸ha)
  exact absurd (e▸ha) ae
 have n2:∀a,a∈bt2->j2≠a:=fun a ha e=>by
  rcases q2 with rfl|rfl
  .exact nb2 (e▸ha)
  exact absurd (e▸ha) ae
 have n3:j1≠j2:=fun e=>by
  rcases q1 with rfl|rfl
  .rcases q2 with rfl|rfl
   .exact n12 e
   exact n1 _ ae e
  exact n2 _ ae e.symm
 have kj1:Gd j1\/j1=i1\/j1=i2:=by
  rcases q1 with rfl|rfl
  .exact .inr (.inl rfl)
  exact .inl rfl
 have kj2:Gd j2\/j2=i1\/j2=i2:=by
  rcases q2 with rfl|rfl
  .exact .inr (.inr rfl)
  exact .inl rfl
 have ltk:((tG g r T).take k).length=k:=by rw[iz];omega
 have ltf:((vk g T).take k).length=k:=by rw[iz];omega
 by_cases aA:k<T-g
 .have aM:(((g+k:Nat):Int)<(T:Int)):=aa;have w1:IntKind.i64.wrap (((g+k:Nat):Int)+1)=((g+(k+1):Nat):Int):=cU (n:=g+k) aa;have hp:ql ((tG g r T).take (k+1))=ql ((tG g r T).take k)++[[.int .i64 ((g+k:Nat):Int),.int .i64 ((if k=0 then r else 0:Nat):Int)]]:=by
   rw[oZ,ajw aa,Ls];rfl
  have hf:nP ((vk g T).take (k+1))=nP ((vk g T).take k)++[[.int .i64 ((g+(k+1):Nat):Int)]]:=by rw[oZ,awv aA,Ld,show g+1+k=g+(k+1) by omega];rfl
  simp only[go_sem,i128_l1,h4,h5,hA,hB,e2,aM,k0,k64,kb1];refine Rm (id:=j1) (site:=8192128192) (bytes:=16) (xs:=[[.int .i64 ((g+k:Nat):Int),.int .i64 ((if k=0 then r else 0:Nat):Int)]]) (rd:=[8192128128]) (by simp[ka1,oj1,kb1]) (g1.of_eq (bj (n1 _ ae))) (by simp[fN,aP]) (.inl rfl) (by simp only[fS,cE,ltk,dI,fe];omega) fun c bn hc bK=>?_;have hA2:=(bK 8192000000 ae (n1 _ ae).symm).trans ((bj ae).trans hA);have vI:=(bK 8192000064 ae (n1 _ ae).symm).trans ((bj ae).trans hB);simp only[go_sem,h4,hA2,e3,w1,k0,OU]
  refine Rm (id:=j2) (site:=8192256256) (bytes:=8) (xs:=[[.int .i64 ((g+(k+1):Nat):Int)]]) (rd:=[8192256192]) (by simp[ka2,oj2,OU]) (g2.of_eq ((bj (n2 _ ae)).trans ((bj (n2 _ ae)).trans ((bK _ (n2 _ ae) n3.symm).trans (bj (n2 _ ae)))))) (by simp[fN,aP]) (.inl rfl) (by simp only[fS,cE,ltf,dI,fe];omega) fun c' gR iv ig=>?_;have hA3:=(ig 8192000000 ae (n2 _ ae).symm).trans ((bj ae).trans Ak);have hB3:=(ig 8192000064 ae (n2 _ ae).symm).trans ((bj ae).trans ((bj ae).trans vI));simp only[go_sem,h4,h5,hA3,hB3,e2,e3,aA];refine⟨rfl,c,c',8192128192,8192256256,rfl,rfl,.inr rfl,.inr rfl,?_,?_,fun id hn=>?_⟩
  .rw[hp,<-wH];exact hc.of_eq ((ig _ ae (n2 _ ae).symm).trans ((bj ae).trans (bj ae)))
  .rw[hf,<-wH];exact iv
  have a:∀x,Gd x->id≠x:=fun x hx e=>hn (.inl (e▸hx));have b1:id≠j1:=fun e=>hn (e▸kj1);have b2:id≠j2:=fun e=>hn (e▸kj2);exact(ig id (a _ rfl) b2).trans ((bj (a _ rfl)).trans ((bj (a _ rfl)).trans ((bK id (a _ rfl) b1).trans ((bj (a _ rfl)).trans (dM id hn)))))
 have:k=T-g:=aa;subst this;have aM:¬(((g+(T-g):Nat):Int)<(T:Int)):=aa;simp only[go_sem,i128_l1,i128_r2,h4,h5,hA,hB,e2,aM,k0,k64,kb3];have XO:ql (tG g r T)=ql ((tG g r T).take (T-g))++[[.int .i64 (T:Int),.int .i64 (t:Int)]]:=by
  have h1:=oZ (l:=tG g r T) (i:=T-g);rw[ajw (bY _),gK (show(tG g r T).length<=T-g+1 by omega)]at h1;have e1:g+(T-g)=T:=aa;have e2:(if T-g=0 then r else 0)=t:=by
   rw[ht];by_cases h:T=g
   .rw[aD h,aD aa]
   rw[au h,au aa]
  rw[e1,e2]at h1;exact(congrArg (fun l:v_=>ql l) h1).trans (Ls _ _)
 have dz:(vk g T).take (T-g)=vk g T:=gK aa;refine Rm (id:=j1) (site:=8192320192) (bytes:=16) (xs:=[[.int .i64 (T:Int),.int .i64 (t:Int)]]) (rd:=[8192320128]) (by simp[ka3,oj1,kb3]) (g1.of_eq (bj (n1 _ ae))) (by simp[fN,aP]) (.inl rfl) (by simp only[fS,cE,ltk,dI,fe];omega) fun c bn hc bK=>?_;simp only[go_sem,e3];refine⟨c,d2,j2,rfl,?_,?_,q2,fun id hn=>?_⟩
 .rw[XO,<-wH];exact hc
 .rw[dz]at g2;exact g2.of_eq ((bK _ (n2 _ ae) n3.symm).trans (bj (n2 _ ae)))
 have a:∀x,Gd x->id≠x:=fun x hx e=>hn (.inl (e▸hx));have b1:id≠j1:=fun e=>hn (e▸kj1);exact(bK id (a _ rfl) b1).trans ((bj (a _ rfl)).trans (dM id hn))
def abn(ok:fJ F ls)(hj:j<(aG ls).length):∃u l,(aG ls)[j]?=some u/\(aG ls).getD j 0=u/\ls[u]?=some l/\l.aE=true/\vF F ls l/\dF ls l=j:=by obtain⟨u,l,h1,h2,h3,h4,h5⟩:=My ok hj;obtain⟨l',k1,k2,k3⟩:=BK ok.ax h1;rw[h3]at k1;cases k1;exact⟨u,l,h1,h2,h3,h4,h5,k3⟩
def al0{pg pr qg qr:Nat}{p q:Let}(gp:vF F ls p)(gq:vF F ls q)(hp:dF ls p=j)(hq:dF ls q=j+1)(h1:p.gate=(pg:Int))(h2:p.aw=(pr:Int))(h3:q.gate=(qg:Int))(h4:q.aw=(qr:Int)):
  pg<=qg/\qr-1=if qg=pg then pr else 0:=by
 obtain⟨_,_,p1,p2⟩:=gp;obtain⟨_,_,q1,q2⟩:=gq;unfold dF at hp hq;rw[h1,h2]at hp;rw[h3,h4]at hq;rw[h2]at p1;rw[h1,h2]at p2;rw[h4]at q1;rw[h3,h4]at q2;simp only[qu]at hp hq p2 q2;have sp:=uM ls pg;have sq:=uM ls qg;have hle:pg<=qg:=by
  rcases P0 qg pg with h|h
  .have:=BS (ls:=ls) (show qg+1<=pg by omega);omega
  exact h
 refine⟨hle,?_⟩;by_cases e:qg=pg
 .subst e;rw[aD rfl];omega
 rw[au e];have:=BS (ls:=ls) (show pg+1<=qg by omega);omega
def alY{qg qr:Nat}{q:Let}(gq:vF F ls q)(hq:dF ls q=0)(h3:q.gate=(qg:Int))(h4:q.aw=(qr:Int)):qr-1=0:=by obtain⟨_,_,q1,q2⟩:=gq;unfold dF at hq;rw[h3,h4]at hq;rw[h4]at q1;simp only[qu]at hq;omega
def av6:S.sites 128=[128]:=ah
def vv{vs:e_}{aj:aC}:∀id,Gd id->(allow (S.ctx .all) 128 vs aj).ok id=true:=fun id h=>uE (by rw[av6,h];simp)
def auY(ok:fJ F ls)(hF:F<=1000)(hj:j<(aG ls).length):
  aK S 102 [.one (.p (nN F ls)),vi j] (.tup [.one (aW ED 2 (ql (qU F ls j))),.one (aW 3 1 (nP (EC F ls j)))]):=by
 have hl:=ok.hl;have gT:(aG ls).length<=1000000:=oz (xT ls ls.length) hl;have hm:=de (j+1) (show 0<(aG ls).length by omega);obtain⟨u,p,hu,du,hp,pp,gp,xp⟩:=abn ok hj;obtain⟨v,q,hv,dv,hq,pq,gq,xq⟩:=abn ok hm;unfold qU EC;simp only[du,dv,A3 hp,A3 hq,Zw hp];have fv:=jf hp;have Ek:=jf hq;have yu:=kN hu;have Cl:=kN hv;have e1:=xG (j+1) (aG ls).length;have w1:=cU (n:=j) aa;have w2:=IS (a:=(aG ls).length) aa aa;have pP:¬(((aG ls).length:Int)=0):=aa
 have hg0:=gp.g0;have HM:=gp.g1;have Cg:=gq.g0;have df:=gq.g1;have vT:=gp.r0;have ke:=gp.r1;have qN:=gq.r0;have kM:=gq.r1;have hcg:cg ls p.gate.toNat<=ls.length:=sR _ _;have hcq:cg ls q.gate.toNat<=ls.length:=sR _ _;obtain⟨pg,h1⟩:=tJ (show 0<=p.gate by omega);obtain⟨pr,h2⟩:=tJ (show 0<=p.aw by omega);obtain⟨qg,h3⟩:=tJ (show 0<=q.gate by omega);obtain⟨qr,h4⟩:=tJ (show 0<=q.aw by omega);have wr:=IS (a:=qr) (by rw[h4]at qN;omega) aa;have jC:S.shared 128=true:=ah;have FY:=fun h=>al0 gp gq xp (h:dF ls q=j+1) h1 h2 h3 h4;have XK:=fun h=>alY gq (h:dF ls q=0) h3 h4
 rw[h1]at HM ke hcg hg0;rw[h2]at ke vT;rw[h3]at Cg df kM hcq;rw[h4]at qN kM;rw[h1,h2,h3];simp only[qu]at ke hcg kM hcq |-;refine bt c102 ?_;by_cases aA:j+1<(aG ls).length
 .have aM:(j:Int)<(((aG ls).length-1:Nat):Int):=aa;rw[fT aA]at xq;obtain⟨n1,n2⟩:=FY xq;simp only[aD aA];simp only[go_sem,i102,yu,Cl,fv,Ek,Let.ps,w1,e1,w2,wr,aM,pP,h1,h2,h3,h4,jC];refine⟨aJ,?_⟩;refine r5 (P:=JF pg pr qg [] [] 8192128192 8192256256 _) zR (ME (g:=pg) (r:=pr) (T:=qg) (t:=qr-1) (c1:=.p .nils) (c2:=.p .nils) vv (vv _ rfl) (vv _ rfl) n1 n2 aa (bR _) (bR _) ae ae ae grown.nil grown.nil) ?_;rintro v ao ⟨c1,c2,j2,rfl,g1,g2,nk,dM⟩
  have nk:j2=8192256256:=by rcases nk with h|h<;>exact h
  subst nk;simp only[go_sem];exact Rp ae g1 g2
 have aM:¬(j:Int)<(((aG ls).length-1:Nat):Int):=aa;have HO:(j+1)%(aG ls).length=0:=by rw[show j+1=(aG ls).length by omega,E0]
 rw[HO]at xq;have n2:=XK xq;simp only[au aA];have XO:∃t:Nat,t=(if F=pg then pr else 0):=⟨_,rfl⟩;obtain⟨t,ht⟩:=XO;have fin:∀(ak:Env) (aj:aC) (c1 c2:C),True:=fun _ _ _ _=>trivial;have ini:(((pg:Int)==(F:Int))=true/\t=pr/\F=pg)\/(((pg:Int)==(F:Int))=false/\t=0):=by
  by_cases h:F=pg
  .subst h;rw[aD rfl]at ht;exact .inl ⟨af,ht,rfl⟩
  rw[au h]at ht;exact .inr ⟨by simp;omega,ht⟩
 rcases ini with⟨hb,Cp,hFp⟩|⟨hb,Cp⟩
 .subst hFp;simp only[go_sem,i102,yu,Cl,fv,Ek,Let.ps,w1,e1,w2,wr,aM,pP,h1,h2,h3,h4,jC,hb];refine⟨aJ,?_⟩;refine⟨aJ,?_⟩;refine r5 (P:=JF F pr F [] [] 8192128192 8192256256 _) zR (ME (g:=F) (r:=pr) (T:=F) (t:=pr) (c1:=.p .nils) (c2:=.p .nils) vv (vv _ rfl) (vv _ rfl) aa (by rw[aD rfl]) aa (bR _) (bR _) ae ae ae grown.nil grown.nil) ?_;rintro v cF ⟨c1,c2,j2,rfl,g1,g2,nk,dM⟩
  have nk:j2=8192256256:=by rcases nk with h|h<;>exact h
  subst nk;rw[gn]at g1 g2;have hA:=dM 6528256384 ae;simp only[go_sem]at hA;simp only[go_sem,hA,jC];refine r5 (P:=JF 0 0 qg (ql (tG F pr F)) (nP (vk F F)) 8192320192 8192256256 _) zR (ME (g:=0) (r:=0) (T:=qg) (t:=qr-1) (c1:=c1) (c2:=c2) vv (vv _ rfl) (vv _ rfl) (bR _) (by rw[n2];split<;>rfl) aa (by simp only[cE,Bz];omega) (by simp only[cE,Tt];omega) ae ae ae g1 g2) ?_;rintro v bn ⟨d1,d2,j3,rfl,k1,k2,Ce,_⟩
  have Ce:j3=8192256256:=by rcases Ce with h|h<;>exact h
  subst Ce;simp only[go_sem];rw[Ls,Ld];exact Rp ae k1 k2
 simp only[go_sem,i102,yu,Cl,fv,Ek,Let.ps,w1,e1,w2,wr,aM,pP,h1,h2,h3,h4,jC,hb];refine⟨aJ,?_⟩;refine⟨aJ,?_⟩;refine r5 (P:=JF pg pr F [] [] 8192128192 8192256256 _) zR (ME (g:=pg) (r:=pr) (T:=F) (t:=0) (c1:=.p .nils) (c2:=.p .nils) vv (vv _ rfl) (vv _ rfl) aa (by rw[Cp]at ht;exact ht) aa (bR _) (bR _) ae ae ae grown.nil grown.nil) ?_;rintro v cF ⟨c1,c2,j2,rfl,g1,g2,nk,dM⟩
 have nk:j2=8192256256:=by rcases nk with h|h<;>exact h
 subst nk;rw[gn]at g1 g2;have hA:=dM 6528256384 ae;simp only[go_sem]at hA;simp only[go_sem,hA,jC];refine r5 (P:=JF 0 0 qg (ql (tG pg pr F)) (nP (vk pg F)) 8192320192 8192256256 _) zR (ME (g:=0) (r:=0) (T:=qg) (t:=qr-1) (c1:=c1) (c2:=c2) vv (vv _ rfl) (vv _ rfl) (bR _) (by rw[n2];split<;>rfl) aa (by simp only[cE,Bz];omega) (by simp only[cE,Tt];omega) ae ae ae g1 g2) ?_;rintro v bn ⟨d1,d2,j3,rfl,k1,k2,Ce,_⟩
 have Ce:j3=8192256256:=by rcases Ce with h|h<;>exact h
 subst Ce;simp only[go_sem];rw[Ls,Ld];exact Rp ae k1 k2
end
end Go.Abs
