/- A part. -/
import Derived.Test.YtfohniicngjeoaaGreatDoorWa
set_option linter.all false
set_option maxRecDepth 100000
set_option maxHeartbeats 16000000
namespace Go.Abs
section
variable{ls:List Let}{F j n2 x:Nat}
abbrev lD(F:Nat)(ls:List Let):PV:=KM F ls (.sl (bP (iO ls))) (.sl (nP (aF ls))) (.sl (nP (jK ls ls.length))) (.mp true (pG ls ls.length)) (.sl (nP (counts ls F)))
structure fj (F:Nat) (ls:List Let):Prop where
 hl:ls.length<=1000000
 ax:BE F ls
 cr:lV ls=true
 kinds:∀l∈ls,l.aE=true\/l.aB=true
theorem ye{a:Nat}(h:a<=9223372036854775807):IntKind.i64.wrap ((a:Int)-1)=(a:Int)-1:=by
 cases a with
 |zero=>decide
 |succ a=>rw[GV aa h];omega
theorem afP{a n:Nat}(hn:1<=n)(h:a+n<=9223372036854775807):IntKind.i64.wrap (((a:Int)-1)+(n:Int))=((a+n-1:Nat):Int):=by have e:((a:Int)-1)+(n:Int)=((a+n-1:Nat):Int):=aa;rw[e];exact wrap_small aa
theorem Uh(F:Nat)(ls:List Let)(i:Nat)(hl:ls.length<=1000000)(hi:i<ls.length):aI S 102 [.one (.p (lD F ls)),vi i] (ri (dJ ls.length i true)):=by refine aZ c102 ?_;have e:=tX (a:=i) aa;simp only[go_sem,i102,e,dJ]
theorem Rh(F:Nat)(ls:List Let)(i:Nat)(hl:ls.length<=1000000)(hi:i<ls.length):aI S 101 [.one (.p (lD F ls)),vi i] (ri (dJ ls.length i false)):=by refine aZ c101 ?_;have e1:=ye (a:=i) aa;have e2:=afP (a:=i) (n:=ls.length) aa aa;have e3:=vB (i+ls.length-1) ls.length;have hm:=eH (i+ls.length-1) (show 0<ls.length by omega);have e4:=tX (a:=(i+ls.length-1)%ls.length) aa;have e5:=cn (n:=2*((i+ls.length-1)%ls.length)) aa;have hz:¬((ls.length:Int)=0):=aa;simp only[go_sem,i101,e1,e2,e3,e4,e5,hz,dJ]
theorem NW{v:Nat}{l:Let}(h:ls[v]?=some l)(hp:l.aE=true):(iO ls)[v]?=some (dn ls v):=by have:=(aW.1 h).1;simp[iO,r4 this,gV,h,hp]
theorem aoh{v:Nat}{l:Let}(h:ls[v]?=some l)(hp:l.aE=true):(jK ls ls.length)[v]?=some (dR ls l):=by have:=(aW.1 h).1;simp[jK,this,GH h hp]
theorem fj.Pm(ok:fj F ls){v:Nat}{l:Let}(h:ls[v]?=some l)(h2:(l.kind==2)=false):l.aE=true:=by
 rcases ok.kinds l (aU h) with hp|hc
 .exact hp
 unfold Let.aB at hc;rw[h2] at hc;cases hc
theorem Yu(ok:fj F ls)(d:Nat)(hd:d<2*ls.length+2*(aF ls).length):aI S 89 [.one (.p (lD F ls)),vi d] (ri (gQ ls (aF ls) d)):=by
 have hl:=ok.hl;have gZ:(aF ls).length<=1000000:=mD (vL ls ls.length) hl;have j6:∀x∈aF ls,x<ls.length/\ ∃l,ls[x]?=some l/\l.aE=true:=fun x hx=>by obtain⟨l,h1,h2⟩:=tg.1 hx;exact⟨(aW.1 h1).1,l,h1,h2⟩
 have m1:IntKind.i64.wrap (2*(ls.length:Int))=((2*ls.length:Nat):Int):=tX aa;unfold gQ;by_cases h:2*ls.length<=d
 .rw[if_pos h];refine aZ c89 ?_;have h':((2*ls.length:Nat):Int)<=(d:Int):=aa;have m2:=WB (a:=d) (b:=2*ls.length) h aa;have m3:=wrap_small (n:=(d-2*ls.length)/2) aa;have hm:=eH ((d-2*ls.length)/2+1) (show 0<(aF ls).length by omega);have nX:¬(((aF ls).length:Int)=0):=aa;obtain⟨u,hu⟩:=aL (ls:=aF ls) (k:=(d-2*ls.length)/2) aa;have El:=j9 hu;by_cases h2:d%2=0
  .rw[if_pos h2];have m4:=cn (n:=(d-2*ls.length)/2) aa;have gH:(((d%2:Nat):Int)==0)=true:=by simp[h2]
   have m5:=vB ((d-2*ls.length)/2+1) (aF ls).length;obtain⟨v,hv⟩:=aL hm;have qh:(aF ls).getD (((d-2*ls.length)/2+1)%(aF ls).length) 0=v:=by rw[dq,hv];rfl
   rw[qh];obtain⟨rK,l,nW,Cs⟩:=j6 v (aU hv);have Aq:=j9 hv;have eF:=sv (NW nW Cs);have pf:=Uh F ls v hl rK;have pb:=Rh F ls v hl rK;cases hq:dn ls v with
   |true=>rw[hq] at eF;simp only[go_sem,i89,m1,m2,m3,m4,m5,h',gH,El,Aq,eF,nX,jy,fE,ez,s101,eJ pb];exact⟨aG,aG⟩
   |false=>rw[hq] at eF;simp only[go_sem,i89,m1,m2,m3,m4,m5,h',gH,El,Aq,eF,nX,jy,fE,ez,s102,eJ pf];exact⟨aG,aG⟩
  rw[if_neg h2];have gH:(((d%2:Nat):Int)==0)=false:=by simp;omega
  have qh:(aF ls).getD ((d-2*ls.length)/2) 0=u:=by rw[dq,hu];rfl
  rw[qh];obtain⟨rK,l,nW,Cs⟩:=j6 u (aU hu);have eF:=sv (NW nW Cs);have pf:=Uh F ls u hl rK;have pb:=Rh F ls u hl rK;cases hq:dn ls u with
  |true=>rw[hq] at eF;simp only[go_sem,i89,m1,m2,m3,h',gH,El,eF,jy,fE,ez,s102,eJ pf];exact aG
  |false=>rw[hq] at eF;simp only[go_sem,i89,m1,m2,m3,h',gH,El,eF,jy,fE,ez,s101,eJ pb];exact aG
 rw[if_neg h];have h':¬(((2*ls.length:Nat):Int)<=(d:Int)):=aa;have m3:=wrap_small (n:=d/2) aa;have iM:¬((ls.length:Int)=0):=aa;have nX:=eH (d/2+1) (show 0<ls.length by omega);have m4:=cn (n:=d/2) aa;have m5:=vB (d/2+1) ls.length;have body:∀v:Nat,v<ls.length->∀fw:Bool,v=(if fw then (d/2+1)%ls.length else d/2)->(((d%2:Nat):Int)==0)=fw->aI S 89 [.one (.p (lD F ls)),vi d] (ri ((match ls[v]? with
   |none=>0
   |some l=>if l.kind==2 then dJ ls.length (fN ls v) (fw==(l.over==(l.sign==1)))
    else if dn ls v==fw then 2*ls.length+2*(aF ls).idxOf v else 2*ls.length+2*(((aF ls).idxOf v+(aF ls).length-1)%(aF ls).length)+1:Nat):Int)):=by
  intro v hv fw fp qK;obtain⟨l,nW⟩:=aL hv;have hU:=iI nW;rw[nW];simp only;refine aZ c89 ?_;cases hk:(l.kind==2) with
  |true=>
   have hc:l.aB=true:=hk;have cK:(l.kind==1)=false:=by simp only[beq_iff_eq] at hk;rw[hk];rfl
   obtain⟨Et,Mh⟩:=PH ok.cr nW hc;have hf:=Z9 ls ls.length l.id;rw[if_pos (O6 (aU nW) hc)] at hf;have pf:=Uh F ls (fN ls v) hl Mh;have pb:=Rh F ls (fN ls v) hl Mh;cases ho:l.over with
   |true=>
    rw[ho] at Et;have Et:fY ls ls.length l.id false=some (fN ls v):=Et;simp only[qD,Et] at hf;simp only[Bm] at hf;cases hs:(l.sign==1) with
    |true=>
     cases fw with
     |true=>have fp:v=(d/2+1)%ls.length:=fp;rw[fp] at hU hf pf pb ⊢;simp only[go_sem,i89,m1,m3,m4,m5,h',qK,hU,Let.ps,iM,cK,ho,hs,jy,fE,ez,mapOf,mapVal,iC,hf,s102,eJ pf];exact⟨aG,aG⟩
     |false=>have fp:v=d/2:=fp;rw[fp] at hU hf pf pb ⊢;simp only[go_sem,i89,m1,m3,h',qK,hU,Let.ps,cK,ho,hs,jy,fE,ez,mapOf,mapVal,iC,hf,s101,eJ pb];exact⟨aG,aG⟩
    |false=>
     cases fw with
     |true=>have fp:v=(d/2+1)%ls.length:=fp;rw[fp] at hU hf pf pb ⊢;simp only[go_sem,i89,m1,m3,m4,m5,h',qK,hU,Let.ps,iM,cK,ho,hs,jy,fE,ez,mapOf,mapVal,iC,hf,s101,eJ pb];exact⟨aG,aG⟩
     |false=>have fp:v=d/2:=fp;rw[fp] at hU hf pf pb ⊢;simp only[go_sem,i89,m1,m3,h',qK,hU,Let.ps,cK,ho,hs,jy,fE,ez,mapOf,mapVal,iC,hf,s102,eJ pf];exact⟨aG,aG⟩
   |false=>
    rw[ho] at Et;have Et:fY ls ls.length l.id true=some (fN ls v):=Et;simp only[qD,Et] at hf;simp only[Bm] at hf;cases hs:(l.sign==1) with
    |true=>
     cases fw with
     |true=>have fp:v=(d/2+1)%ls.length:=fp;rw[fp] at hU hf pf pb ⊢;simp only[go_sem,i89,m1,m3,m4,m5,h',qK,hU,Let.ps,iM,cK,ho,hs,jy,fE,ez,mapOf,mapVal,iC,hf,s101,eJ pb];exact⟨aG,aG⟩
     |false=>have fp:v=d/2:=fp;rw[fp] at hU hf pf pb ⊢;simp only[go_sem,i89,m1,m3,h',qK,hU,Let.ps,cK,ho,hs,jy,fE,ez,mapOf,mapVal,iC,hf,s102,eJ pf];exact⟨aG,aG⟩
    |false=>
     cases fw with
     |true=>have fp:v=(d/2+1)%ls.length:=fp;rw[fp] at hU hf pf pb ⊢;simp only[go_sem,i89,m1,m3,m4,m5,h',qK,hU,Let.ps,iM,cK,ho,hs,jy,fE,ez,mapOf,mapVal,iC,hf,s102,eJ pf];exact⟨aG,aG⟩
     |false=>have fp:v=d/2:=fp;rw[fp] at hU hf pf pb ⊢;simp only[go_sem,i89,m1,m3,h',qK,hU,Let.ps,cK,ho,hs,jy,fE,ez,mapOf,mapVal,iC,hf,s101,eJ pb];exact⟨aG,aG⟩
  |false=>
   have hp:=ok.Pm nW hk;have cK:(l.kind==1)=true:=hp;have eF:=sv (NW nW hp);have cA:=j9 (aoh nW hp);have F2:=Ks ok.ax nW hp;have hpT:=VQ (ok.ax.fm l (aU nW) hp);rw[Fj ok.ax.qG] at hpT;rw[F2];have L6:¬(((aF ls).length:Int)=0):=aa;have oZ:=eH (dR ls l+(aF ls).length-1) (show 0<(aF ls).length by omega);have n1:=tX (a:=dR ls l) aa;have n2:=wrap_add (a:=2*ls.length) (b:=2*dR ls l) aa;have n3:=ye (a:=dR ls l) aa;have n4:=afP (a:=dR ls l) (n:=(aF ls).length) aa aa;have n5:=vB (dR ls l+(aF ls).length-1) (aF ls).length;have n6:=tX (a:=(dR ls l+(aF ls).length-1)%(aF ls).length) aa;have n7:=wrap_add (a:=2*ls.length) (b:=2*((dR ls l+(aF ls).length-1)%(aF ls).length)) aa
   have n8:=cn (n:=2*ls.length+2*((dR ls l+(aF ls).length-1)%(aF ls).length)) aa;cases fw with
   |true=>
    have fp:v=(d/2+1)%ls.length:=fp;cases LK:dn ls v with
    |true=>rw[LK] at eF;rw[fp] at hU eF cA;simp only[go_sem,i89,m1,m3,m4,m5,h',qK,hU,Let.ps,iM,cK,jy,fE,ez,eF,cA,n1,n2];exact aG
    |false=>rw[LK] at eF;rw[fp] at hU eF cA;simp only[go_sem,i89,m1,m3,m4,m5,h',qK,hU,Let.ps,iM,cK,jy,fE,ez,eF,cA,n3,n4,n5,n6,n7,n8,L6];exact aG
   |false=>
    have fp:v=d/2:=fp;cases LK:dn ls v with
    |true=>rw[LK] at eF;rw[fp] at hU eF cA;simp only[go_sem,i89,m1,m3,h',qK,hU,Let.ps,cK,jy,fE,ez,eF,cA,n3,n4,n5,n6,n7,n8,L6];exact aG
    |false=>rw[LK] at eF;rw[fp] at hU eF cA;simp only[go_sem,i89,m1,m3,h',qK,hU,Let.ps,cK,jy,fE,ez,eF,cA,n1,n2];exact aG
 have rK:(if (d%2==0)=true then (d/2+1)%ls.length else d/2)<ls.length:=by
  split
  .exact nX
  omega
 have:=body _ rK (d%2==0) rfl (by cases hq:(d%2==0)<;>simp at hq ⊢ <;>omega);exact this
abbrev aV(ls:List Let):Nat->Nat:=gQ ls (aF ls)
theorem ajz(ok:fj F ls){Q:dA}:
  ∀(fuel x:Nat) (sn:List Bool) (ak:Env) (aj:aA),ak 0=.one (.p (lD F ls))->ak 4=.one (.hsl 4544128064 1 1 0 sn.length)->aj 4544128064=(1,some (.arr 4 1 (bP sn)))->
   ak 7=vi x->x<sn.length->sn.length=2*ls.length+2*(aF ls).length->xZ sn<fuel->
   (∀aC ao,aC 0=ak 0->aC 4=ak 4->aC 5=ak 5->aC 24=ak 24->aC 25=ak 25->ao 4544128064=(1,some (.arr 4 1 (bP (fe (aV ls) fuel x sn).2)))->Q .normal aC ao)->
   W S .all (.loop i71_l1) (mI 2 Q) ak aj:=by
 have gZ:(aF ls).length<=1000000:=mD (vL ls ls.length) ok.hl;have j6:∀x∈aF ls,x<ls.length:=fun x h=>NM h;have hp:∀v l,ls[v]?=some l->(l.kind==2)=false->v∈aF ls:=fun v l hv h2=>tg.2 ⟨l,hv,ok.Pm hv h2⟩;intro fuel
 induction fuel with
 |zero=>intro x sn ak aj _ _ _ _ _ _ h;omega
 |succ fuel ih=>
  intro x sn ak aj h0 h4 hS h7 hx hsl hu hq;obtain⟨b,hb⟩:=aL hx;have kz:=sv hb;have yV:sn.getD x true=b:=by rw[dq,hb];rfl
  unfold fe at hq;rw[yV] at hq;refine rj ?_;cases b with
  |true=>simp only[go_sem,i71_l1,h4,hS,h7,hx,kz];refine hq _ _ ?_ ?_ ?_ ?_ ?_ hS;all_goals simp only[go_sem,h4]
  |false=>
   have Es:=Nj hb;have pt:=Yu ok x aa;have lI:=QD (d:=x) j6 hp aa;have ia:=Hw sn x true;simp only[go_sem,i71_l1,h0,h4,hS,h7,hx,kz,ia,s89,eJ pt];refine ih (gQ ls (aF ls) x) (sn.set x true) _ _ ?_ ?_ ?_ ?_ (by simpa [hsl] using lI) (by simpa using hsl) aa ?_
   .simp only[go_sem,h0]
   .simp only[go_sem,h4,qX]
   .simp only[go_sem]
   .simp only[go_sem]
   intro aC ao q0 q4 q5 qq A6 b1;refine hq aC ao ?_ ?_ ?_ ?_ ?_ b1
   .rw[q0];simp only[go_sem]
   .rw[q4];simp only[go_sem]
   .rw[q5];simp only[go_sem]
   .rw[qq];simp only[go_sem]
   rw[A6];simp only[go_sem]
theorem ajC(ok:fj F ls):aI S 71 [.one (.p (lD F ls))] (rb (l5 ls==aw Let.aE ls+aw Let.aB ls/2+2)):=by
 have hl:=ok.hl;have gZ:(aF ls).length<=ls.length:=vL ls ls.length;have m1:=tX (a:=ls.length) aa;have m2:=tX (a:=(aF ls).length) aa;have m3:=wrap_add (a:=2*ls.length) (b:=2*(aF ls).length) aa;have lX:2*ls.length+2*(aF ls).length<=140737488355328:=aa;have vg:List.replicate (2*ls.length+2*(aF ls).length) [PV.bool false]=bP (List.replicate (2*ls.length+2*(aF ls).length) false):=af;have oZ:(pG ls ls.length).length=aw Let.aB ls/2:=by have:=ok.cr;unfold lV at this;simp only[cX,beq_iff_eq] at this;simp[pG,this.2]
 have vZ:aw Let.aB ls<=ls.length:=tj _ _;refine aZ c71 ?_;simp only[go_sem,i71,m1,m2,m3,lX,vg];refine⟨aG,?_⟩;generalize hN:2*ls.length+2*(aF ls).length=N at lX;refine cV (fun k ak aj=>ak 0=.one (.p (lD F ls))/\ak 4=.one (.hsl 4544128064 1 1 0 N)/\aj 4544128064=(1,some (.arr 4 1 (bP (dG (aV ls) N k).2)))/\
   ak 5=vi (dG (aV ls) N k).1.length/\ak 24=vi N/\ak 25=vi k) 0 N (bG _) ?_ ?_
 .simp only[go_sem];exact⟨rfl,rfl,rfl⟩
 rintro k ak aj hk ⟨h0,h4,hS,h5,mh,mj⟩
 have hlen:=GU (aV ls) N k;have Em:=Nn (aV ls) N k;by_cases ay:k<N
 .have aJ:((k:Int)<(N:Int)):=aa;have w1:=cn (n:=k) aa;have hs:=ya (aV ls) N k;generalize cQ:dG (aV ls) N k=st at hlen hs hS h5 Em;obtain⟨out,sn⟩:=st;simp only at hlen hS h5 Em;obtain⟨b,hb⟩:=aL (ls:=sn) (k:=k) aa;have kz:=sv hb;unfold uL at hs;have yV:sn.getD k true=b:=by rw[dq,hb];rfl
  simp only[yV] at hs;cases b with
  |true=>have hs:dG (aV ls) N (k+1)=(out,sn):=hs;simp only[go_sem,i71_l3,i71_r2,h0,h4,hS,h5,mh,mj,ay,aJ,kz,w1,hs]
  |false=>
   have hs:dG (aV ls) N (k+1)=(out++[(fe (aV ls) (N+1) k sn).1],(fe (aV ls) (N+1) k sn).2):=by rw[hs,hlen];rfl
   have hul:=JQ sn;have w2:=cn (n:=out.length) aa;simp only[go_sem,i71_l3,h4,hS,h5,mh,mj,ay,aJ,kz,w2];refine ajz ok (N+1) k sn _ _ ?_ ?_ ?_ ?_ aa aa aa ?_
   .simp only[go_sem,h0]
   .simp only[go_sem,h4,hlen]
   .simp only[go_sem,hS]
   .simp only[go_sem]
   intro aC ao q0 q4 q5 qq A6 b1;simp only[go_sem,h0,h4,h5,mh,mj] at q0 q4 q5 qq A6;simp only[go_sem,i71_r2,q0,q4,q5,qq,A6,b1,w1,hs,ay];simp
 have:k=N:=aa;subst this;have he:l5 ls=(dG (aV ls) k k).1.length:=by unfold l5 iJ aV;rw[hN]
 rw[<- he] at h5;have w3:=wrap_add (a:=(aF ls).length) (b:=aw Let.aB ls/2) aa;have w4:IntKind.i64.wrap ((((aF ls).length+aw Let.aB ls/2:Nat):Int)+2)=(((aF ls).length+aw Let.aB ls/2+2:Nat):Int):=wrap_add (a:=(aF ls).length+aw Let.aB ls/2) (b:=2) aa;have hb:(((l5 ls:Nat):Int)==(((aF ls).length+aw Let.aB ls/2+2:Nat):Int))=(l5 ls==aw Let.aE ls+aw Let.aB ls/2+2):=by
  rw[Kr];cases h:(l5 ls==aw Let.aE ls+aw Let.aB ls/2+2) with
  |true=>simp at h ⊢;omega
  |false=>simp at h ⊢;omega
 simp only[go_sem,i71_l3,i71_r4,h0,h5,mh,mj,eE,zj,oZ,w3,w4,hb];exact aG
abbrev Kj(id:Nat):Prop:=id=1216320128\/(jo id=43\/jo id=69\/jo id=70)
def aiv(F:Nat)(ls:List Let)(g:Nat)(aj:aA):Prop:= ∃g1 g2 g3 g4 g5,
 aj 1216320128=(g,some (.var (uV F ls (hs 4416128448 g2 ls.length) (hs 4417344128 g5 (aF ls).length) (hs 4416192448 g3 ls.length) (.j8 4480256064 g4) (hs 4416064448 g1 (F+1)))))/\
 aj 4416064448=(g1,some (.arr 3 1 (nP (counts ls F))))/\aj 4416128448=(g2,some (.arr 4 1 (bP (iO ls))))/\aj 4416192448=(g3,some (.arr 3 1 (nP (jK ls ls.length))))/\
 aj 4417344128=(g5,some (.arr 3 1 (nP (aF ls))))/\aj 4480256064=(g4,some (.map true (pG ls ls.length)))
def QF(F:Nat)(ls:List Let):Bool:=decide (ls=[])||lR F ls
def Wr(F:Nat)(ls:List Let)(g:Nat)(nN:aA)(v:V)(ao:aA):Prop:=v=vb (QF F ls)/\Kept Kj nN ao/\(ls≠[]->lR F ls=true->aiv F ls g ao)/\(ls=[]->ao 1216320128=nN 1216320128)
theorem Wb:S.sites 43=[43,69,70]:=ah
theorem aeX:S.sites 69=[69]:=ah
theorem aeY:S.sites 70=[70]:=ah
theorem Kept.QI{K K':Nat->Prop}{a b:aA}(h:Kept K a b)(hk:∀id,K id->K' id):Kept K' a b:=fun id hn=>h id fun hh=>hn (hk id hh)
abbrev CZ(g:Nat):List (List C):=[[.hfn 67 [.aY 1216320128 g 0] []],[.hfn 68 [.aY 1216320128 g 0] []],[.hfn 69 [.aY 1216320128 g 0] []],[.hfn 70 [.aY 1216320128 g 0] []],[.hfn 71 [.aY 1216320128 g 0] []]]
section
variable {al:Al} {Q:dA} {ak:Env} {aj:aA} {g g0:Nat}
theorem Wv(k:Nat){f:Nat}{dv:PV}{r:List Nat}{b:Bool}(hk:k<5)(hf:(CZ g)[k]?=some [.hfn f [.aY 1216320128 g 0] []])(IM:S.shared f=false)(oV:al.ok 2752192640=true)
  (vU:ak 22=.one (hs 2752192640 g0 5)) (pX:ak 23=vi 5) (mh:ak 24=vi k) (bV:aj 2752192640=(g0,some (.iN 26 1 (CZ g))))
  (lK:nI aj (.one (.aY 1216320128 g 0))=some (.one (.p dv),r)) (hr:al.fD r=true) (hp:aI S f [.one (.p dv)] (rb b))
  (UA:b=false->∀aC,aC 2=vb false->Q .ret aC aj)
  (U3:b=true->∀aC,aC 22=.one (hs 2752192640 g0 5)->aC 23=vi 5->aC 24=vi ((k+1:Nat):Int)->W S al (.loop i43_l1) Q aC aj):W S al (.loop i43_l1) Q ak aj:=by
 refine rj ?_;have ay:((k:Int)<5):=aa;have w1:=cn (n:=k) aa;cases b with
 |false=>simp only[go_sem,i43_l1,vU,pX,mh,bV,ay,hk,hf,IM,oV,↓lK,aat hp,hr];exact UA rfl _ (by simp only[go_sem])
 |true=>
  simp only[go_sem,i43_l1,vU,pX,mh,bV,ay,hk,hf,IM,oV,↓lK,aat hp,hr,w1];refine U3 rfl _ ?_ ?_ ?_
  .simp only[go_sem,vU]
  .simp only[go_sem,pX]
  simp only[go_sem]
theorem afE(k:Nat){f:Nat}{P:V->aA->Prop}{b:Bool}(hk:k<5)(hf:(CZ g)[k]?=some [.hfn f [.aY 1216320128 g 0] []])(IM:S.shared f=true)(oV:al.ok 2752192640=true)
  (vU:ak 22=.one (hs 2752192640 g0 5)) (pX:ak 23=vi 5) (mh:ak 24=vi k) (bV:aj 2752192640=(g0,some (.iN 26 1 (CZ g))))
  (hh:al.holds (allow (S.ctx al) f [.one (.aY 1216320128 g 0)] aj)=true) (h:∃v ao,iK S f [.one (.aY 1216320128 g 0)] (allow (S.ctx al) f [.one (.aY 1216320128 g 0)] aj) aj v ao/\P v ao)
  (hP:∀v ao,P v ao->v=vb b)
  (UA:b=false->∀v aC ao,P v ao->aC 2=vb false->Q .ret aC ao)
  (U3:b=true->∀v aC ao,P v ao->aC 22=.one (hs 2752192640 g0 5)->aC 23=vi 5->aC 24=vi ((k+1:Nat):Int)->W S al (.loop i43_l1) Q aC ao):W S al (.loop i43_l1) Q ak aj:=by
 refine rj ?_;have ay:((k:Int)<5):=aa;have w1:=cn (n:=k) aa;simp only[go_sem,i43_l1,vU,pX,mh,bV,ay,hk,hf,IM,oV];refine rC hh h fun v ao hp=>?_;have hv:=hP v ao hp;subst hv;cases b with
 |false=>simp only[go_sem];exact UA rfl _ _ _ hp (by simp only[go_sem])
 |true=>
  simp only[go_sem,mh,w1];refine U3 rfl _ _ _ hp ?_ ?_ ?_
  .simp only[go_sem,vU]
  .simp only[go_sem,pX]
  simp only[go_sem]
end
theorem arU{al:Al}(okD:al.ok 1216320128=true)(okf:∀id,(jo id=43\/jo id=69\/jo id=70)->al.ok id=true)(f1:al.fs.contains 69=true)(f2:al.fs.contains 70=true)
  {aj:aA} {g F:Nat} {ls:List Let} (hl:ls.length<=1000000) (hF:F<=1000000)
  (bD:aj 1216320128=(g,some (.var (uV F ls (.p .nils) (.p .nils) (.p .nils) (.p .qp) (.p .nils))))):∃v ao,iK S 43 [.one (.aY 1216320128 g 0)] al aj v ao/\Wr F ls g aj v ao:=by
 have oV:=okf 2752192640 (.inl rfl);refine mF c43 (iv rfl) ?_;by_cases he:ls=[]
 .subst he;have hz:(((0:Nat):Int)==0)=true:=ae;simp only[go_sem,i43,bD,hz,okD];exact⟨rfl,Kept.refl _ _,fun h=>absurd rfl h,fun _=>rfl⟩
 have ju:=iX.2 he;have Ga:(((ls.length:Nat):Int)==0)=false:=by simp;omega
 obtain⟨l0,h0⟩:=aL ju;have u5:decide (ls=[])=false:=by simp[he]
 have pl:=aiw F ls (.sl []) (.sl []) (.sl []) .qp (.sl []) hl ⟨rfl,rfl,rfl,rfl,rfl⟩;have pb:=aiq F ls l0 (.sl []) (.sl []) (.sl []) .qp (.sl []) hl h0;have aa8:=Vs (F:=F) (ls:=ls);have fail:∀aC ao,Kept Kj aj ao->lR F ls=false->aC 2=vb false->mI 0 (zB S al i43_r2 (mJ al [(2,none)] (Wr F ls g aj))) .ret aC ao:=fun aC ao hk hv h2=>by simp only[go_sem,h2];exact⟨by rw[QF,u5,hv];rfl,hk,fun _ h=>(by rw[hv] at h;cases h),fun h=>absurd h he⟩
 have noL:wC F ls=false->lR F ls=false:=fun h=>by simp[lR,h]
 have VE:¬(ls.any (dz F)=false/\xW ls=true/\lV ls=true)->lR F ls=false:=fun h=>noL (by
  cases hq:wC F ls with
  |false=>rfl
  |true=>exact absurd (aa8.1 hq) h)
 simp only[go_sem,i43,bD,Ga,okD,oV];have cK:Kept Kj aj (dK aj 2752192640 ((aj 2752192640).1+1,some (.iN 26 1 (CZ g)))):=Kept.dK (Kept.refl _ _) (.inr (.inl rfl)) _;generalize cD:dK aj 2752192640 ((aj 2752192640).1+1,some (.iN 26 1 (CZ g)))=bK;rw[cD] at cK;have bV:bK 2752192640=((aj 2752192640).1+1,some (.iN 26 1 (CZ g))):=by rw[<- cD];simp only[go_sem]
 have bD:bK 1216320128=(g,some (.var (uV F ls (.p .nils) (.p .nils) (.p .nils) (.p .qp) (.p .nils)))):=by rw[<- cD];simp only[go_sem,bD]
 clear cD;have lK:nI bK (.one (.aY 1216320128 g 0))=some (.one (.p (KM F ls (.sl []) (.sl []) (.sl []) .qp (.sl []))),[1216320128]):=by simp only[go_sem,bD]
 have qf:al.fD [1216320128]=true:=by simp only[go_sem,okD]
 refine Wv 0 aa rfl s67 oV (by simp only[go_sem]) (by simp only[go_sem];rfl) (by simp only[go_sem];rfl) bV lK qf pl (fun hb aC h2=>fail aC bK cK (VE fun h=>by simp[h.1] at hb) h2) (fun hb aC zw tS qq=>?_);have cD:ls.any (dz F)=false:=by simpa using hb
 have pY:∀l∈ls,dz F l=false:=fun l hl=>by simpa using G0.1 cD l hl
 have hg:qG F ls:=fun l hl hp=>((sR hp).1 (pY l hl)).1.1.1;refine Wv 1 aa rfl s68 oV zw tS qq bV lK qf pb (fun hb aC h2=>fail aC bK cK (by simp only[lR,h0,hb];rfl) h2) (fun hbg aC zw tS qq=>?_);clear hb;have Mn:jm bK (.one (.aY 1216320128 g 0))=[1216320128]:=by rw[Jv bD];simp[Ju]
 refine afE (b:=xW ls) 2 aa rfl ah oV zw tS qq bV ?_ (apb (se (by simp[Mn])) (fun id h=>uR (by rw[aeX,h];rfl)) hl hF hg bD) (fun v ao h=>h.1) ?_ ?_
 .refine holds_of ?_ ?_
  .show al.fD ([V.one (.aY 1216320128 g 0)].map (jm bK)).flatten=true;simp only[dS,kQ,Mn,l8,Hb,kN];exact qf
  show(S.sites 69).all al.fs.contains=true;rw[aeX];simp only[mB,pM,f1];rfl
 .intro hb v aC ao hp h2;exact fail aC ao (cK.trans (hp.2.1.QI fun id h=>h.elim .inl fun h=>.inr (.inr (.inl h)))) (VE fun h=>by rw[h.2.1] at hb;cases hb) h2
 intro lJ v aC bh hp zw tS qq;obtain⟨_,jt,tF⟩:=hp;obtain⟨g1,g2,g3,g5,bD,bC,bW,oJ,bA⟩:=tF lJ;have j6:BE F ls:=by obtain⟨a,b⟩:=(M5 hg).1 lJ;exact⟨a,b⟩
 rw[ag2 j6] at bA;rw[Fj hg] at bD;have bV:bh 2752192640=((aj 2752192640).1+1,some (.iN 26 1 (CZ g))):=by rw[<- bV];exact jt _ ae
 have aa4:Kept Kj aj bh:=cK.trans (jt.QI fun id h=>h.elim .inl fun h=>.inr (.inr (.inl h)));have oC:=okf 4416064448 (.inr (.inl rfl));have oW:=okf 4416128448 (.inr (.inl rfl));have oP:=okf 4416192448 (.inr (.inl rfl));have oA:=okf 4417344128 (.inr (.inl rfl));have oM:=okf 4480256064 (.inr (.inr rfl));have Mo:jm bh (.one (.aY 1216320128 g 0))=[1216320128,4416128448,4417344128,4416192448,4416064448]:=by rw[Jv bD];simp only[dS,kQ,Ju,CQ bW,CQ bA,CQ oJ,CQ bC,l8,Hb,gD,kN,yf]
 refine afE (b:=lV ls) 3 aa rfl ah oV zw tS qq bV ?_ (air (se (by simp[Mo])) (fun id h=>uR (by rw[aeY,h];rfl)) hl bD) (fun v ao h=>h.1) ?_ ?_
 .refine holds_of ?_ ?_
  .show al.fD ([V.one (.aY 1216320128 g 0)].map (jm bh)).flatten=true;simp only[dS,kQ,Mo,l8,Hb,kN,Jj,GB,okD,oC,oW,oP,oA,wN]
  show(S.sites 70).all al.fs.contains=true;rw[aeY];simp only[mB,pM,f2];rfl
 .intro hb v aC ao hp h2;exact fail aC ao (aa4.trans (hp.2.1.QI fun id h=>h.elim .inl fun h=>.inr (.inr (.inr h)))) (VE fun h=>by rw[h.2.2] at hb;cases hb) h2
 intro fv v aC gT hp zw tS qq;obtain⟨_,hk3,hr3⟩:=hp;obtain⟨g4,bD,bM⟩:=hr3 fv;have kp:∀id,jo id=69->gT id=bh id:=fun id h=>hk3 id (by
  rintro (e|e)
  .rw[e] at h;revert h;decide
  rw[e] at h;revert h;decide)
 rw[<- kp _ rfl] at bC bW oJ bA;have bV:gT 2752192640=((aj 2752192640).1+1,some (.iN 26 1 (CZ g))):=by rw[<- bV];exact hk3 _ ae
 have aa5:Kept Kj aj gT:=aa4.trans (hk3.QI fun id h=>h.elim .inl fun h=>.inr (.inr (.inr h)));have ok:fj F ls:=⟨hl,j6,fv,fun l hl=>yz (pY l hl)⟩;have pf:=ajC ok;have hlR:wC F ls=true:=aa8.2 ⟨cD,lJ,fv⟩;have hvr:lR F ls=(l5 ls==aw Let.aE ls+aw Let.aB ls/2+2):=by
  have aaR:(l0.kind==1)=true/\(aw Let.aE ls%2==0)=true:=by simpa using hbg
  simp only[lR,h0,aaR.1,aaR.2,hlR,Db]
 have t1:List.take ls.length (bP (iO ls))=bP (iO ls):=gR (by simp[iO]);have t2:List.take (aF ls).length (nP (aF ls))=nP (aF ls):=gR af;have t3:List.take ls.length (nP (jK ls ls.length))=nP (jK ls ls.length):=gR (by simp[jK]);have t4:List.take (F+1) (nP (counts ls F))=nP (counts ls F):=gR (by simp[counts]);have n1:ls.length<=(iO ls).length:=by simp[iO]
 have n3:ls.length<=(jK ls ls.length).length:=by simp[jK]
 have n4:F+1<=(counts ls F).length:=by simp[counts]
 have lK:nI gT (.one (.aY 1216320128 g 0))=some (.one (.p (lD F ls)),[1216320128,4416128448,4417344128,4416192448,4480256064,4416064448]):=by simp only[go_sem,ae9,bD,bW,bA,oJ,bC,bM,Wh,t1,t2,t3,t4,n1,n3,n4]
 have qf:al.fD [1216320128,4416128448,4417344128,4416192448,4480256064,4416064448]=true:=by simp only[Jj,GB,okD,oC,oW,oP,oA,oM,wN]
 refine Wv 4 aa rfl s71 oV zw tS qq bV lK qf pf (fun hb aC h2=>fail aC gT aa5 (by rw[hvr];exact hb) h2) (fun xE aC zw tS qq=>?_);have hv:lR F ls=true:=by rw[hvr];exact xE
 refine rj ?_;have n5:¬((((4+1:Nat)):Int)<5):=ae;simp only[go_sem,i43_l1,i43_r2,tS,qq,n5];exact⟨by rw[QF,u5,hv];rfl,aa5,fun _ _=>⟨g1,g2,g3,g4,g5,bD,bC,bW,oJ,bA,bM⟩,fun h=>absurd h he⟩
abbrev uW(f:Int):PV:=KM f [] (.sl []) (.sl []) (.sl []) .qp (.sl [])
abbrev zA(a b:PV):RV:=.tup [.one (.p a),.one (.p b)]
def Jw(f:Int)(ls:List Let):RV:=if cU f ls=0 then zA (if ls=[] then uW f else lD f.toNat ls) (.int .i64 0) else zA .tQ (.int .i64 (cU f ls))
theorem fL{aj:aA}{s:Nat}{a b:PV}{l:Bool}:land aj [] s ((zA a b).gK l)=some (.tup [.one (.p a),.one (.p b)],[]):=by cases l<;>rfl
theorem M6{f:Int}{e:Int}(h:cU f ls=e)(he:e≠0):Jw f ls=zA .tQ (.int .i64 e):=by unfold Jw;rw[h,if_neg he]
theorem CR{f:Int}(h:cU f ls=0):Jw f ls=zA (if ls=[] then uW f else lD f.toNat ls) (.int .i64 0):=by unfold Jw;rw[if_pos h]
theorem EM(f:Int)(ls:List Let)(hl:ls.length<=1000000):aI S 19 [dX f ls] (Jw f ls):=by
 have pc:=R9 f ls hl;refine aZ c19 ?_;by_cases h1:400<ls.length
 .have jO:(400:Int)<(ls.length:Int):=aa;rw[M6 (e:=7) (by unfold cU;rw[if_pos (Or.inl h1)]) ae];simp only[go_sem,i19,jO];rfl
 have jO:¬(400:Int)<(ls.length:Int):=aa;by_cases h2:200<aw Let.aB ls
 .have gH:(200:Int)<(aw Let.aB ls:Int):=aa;rw[M6 (e:=7) (by unfold cU;rw[if_pos (Or.inr h2)]) ae];simp only[go_sem,i19,jO,gH,s42,eJ pc];rfl
 have gH:¬(200:Int)<(aw Let.aB ls:Int):=aa;have n1:¬(400<ls.length\/200<aw Let.aB ls):=aa;by_cases h3:f<0
 .rw[M6 (e:=2) (by unfold cU;rw[if_neg n1,if_pos (Or.inl h3)]) ae];simp only[go_sem,i19,jO,gH,h3,s42,eJ pc];rfl
 by_cases h4:40<f
 .rw[M6 (e:=2) (by unfold cU;rw[if_neg n1,if_pos (Or.inr h4)]) ae];simp only[go_sem,i19,jO,gH,h3,h4,s42,eJ pc];rfl
 have n2:¬(f<0\/40<f):=aa;obtain⟨F,rfl⟩:=sZ (show 0<=f by omega);have jk:S.shared 43=true:=ah;simp only[go_sem,i19,jO,gH,h3,h4,s42,eJ pc,jk];refine rC (P:=Wr F ls 1 _) za (arU (F:=F) (ls:=ls) ?_ ?_ ?_ ?_ hl aa ?_) ?_
 .refine se ?_;rw[dS,kQ,Jv (g0:=1) (cs:=uV F ls (.p .nils) (.p .nils) (.p .nils) (.p .qp) (.p .nils)) (by simp only[go_sem])];simp
 .intro id h;refine uR ?_;rw[Wb];rcases h with h|h|h<;>rw[h]<;>rfl
 .show(S.sites 43).contains _=true;rw[Wb];rfl
 .show(S.sites 43).contains _=true;rw[Wb];rfl
 .simp only[go_sem]
 rintro v ao ⟨rfl,hk,hr,hz⟩
 unfold QF;by_cases he:ls=[]
 .have hc:cU F ls=0:=by unfold cU;rw[if_neg n1,if_neg n2,if_pos he]
  have bD:=hz he;rw[CR hc,if_pos he];have u5:(decide (ls=[])||lR F ls)=true:=by simp[he]
  rw[u5];subst he;simp only[go_sem] at bD;simp only[go_sem];simp only[go_sem,iU,tA,uX,nT,mT,ke,bD];rfl
 have u5:decide (ls=[])=false:=by simp[he]
 cases hv:lR F ls with
 |false=>rw[M6 (e:=3) (by unfold cU;rw[if_neg n1,if_neg n2,if_neg he,hv];rfl) ae];rw[u5,Da];simp only[go_sem];rfl
 |true=>
  have hc:cU F ls=0:=by unfold cU;rw[if_neg n1,if_neg n2,if_neg he,hv];rfl
  rw[CR hc,if_neg he];obtain⟨g1,g2,g3,g4,g5,bD,bC,bW,oJ,bA,bM⟩:=hr he hv;have hFn:(F:Int).toNat=F:=rfl;rw[hFn];have t1:List.take ls.length (bP (iO ls))=bP (iO ls):=gR (by simp[iO]);have t2:List.take (aF ls).length (nP (aF ls))=nP (aF ls):=gR af;have t3:List.take ls.length (nP (jK ls ls.length))=nP (jK ls ls.length):=gR (by simp[jK]);have t4:List.take (F+1) (nP (counts ls F))=nP (counts ls F):=gR (by simp[counts]);have n1:ls.length<=(iO ls).length:=by simp[iO]
  have n3:ls.length<=(jK ls ls.length).length:=by simp[jK]
  have n4:F+1<=(counts ls F).length:=by simp[counts]
  rw[u5,Da];simp only[go_sem];simp only[go_sem,iU,tA,uX,nT,mT,ke,ae9,bD,bW,bA,oJ,bC,bM,Wh,t1,t2,t3,t4,n1,n3,n4];rfl
theorem ahN(f:Int)(ls:List Let)(hl:ls.length<=1000000):aI S 36 [dX f ls] (ri (cU f ls)):=by
 have pr:=EM f ls hl;refine aZ c36 ?_;unfold Jw at pr;by_cases h:cU f ls=0
 .rw[if_pos h] at pr;simp only[go_sem,i36,s19,cJ pr fL,h]
 rw[if_neg h] at pr;simp only[go_sem,i36,s19,cJ pr fL]
abbrev lZ(k a b c:Int)(l o:Bool)(s:Int):V:=.agg [.p (.int .i64 k),.p (.int .i64 a),.p (.int .i64 b),.p (.int .i64 c),.p (.bool l),.p (.bool o),.p (.int .i64 s)]
abbrev uI(e:Int):RV:=.tup [.agg [.p (.int .i64 0),.p .nils],.one (.p (.int .i64 e))]
theorem ami{aj:aA}{s:Nat}{e:Int}{l:Bool}:land aj [] s ((uI e).gK l)=some (.tup [.agg [.p (.int .i64 0),.p .nils],.one (.p (.int .i64 e))],[]):=by cases l<;>rfl
section
variable {f:Int} {ls:List Let} {e:Int}
abbrev kinds(k:Nat):List Nat:=(List.range k).map (· +1)
end
def jd(n v:Nat)(fw:Bool):Nat:=if fw then 2*((v+n-1)%n) else 2*v+1
def lvV(n e:Nat):Nat:=if e%2=0 then e/2 else (e/2+1)%n
theorem wE{n v:Nat}(hv:v<n):((v+n-1)%n+1)%n=v:=by
 by_cases h:v=0
 .subst h;rw[kU,jA (show n-1<n by omega),show n-1+1=n by omega,Dj]
 rw[show v+n-1=(v-1)+n by omega,yj,jA (show v-1<n by omega),show v-1+1=v by omega,jA hv]
theorem EG{n v:Nat}(hv:v<n):((v+1)%n+n-1)%n=v:=by
 by_cases h:v+1=n
 .rw[h,Dj,kU,jA (show n-1<n by omega)];omega
 rw[jA (show v+1<n by omega),show v+1+n-1=v+n by omega,yj,jA hv]
theorem ac4{n v:Nat}(hv:v<n)(g:Bool):lvV n (dJ n v g)=v/\(dJ n v g%2==0)=g:=by
 unfold lvV dJ;cases g with
 |true=>have h1:(2*v)%2=0:=aa;simp only[if_true,h1];exact⟨aa,rfl⟩
 |false=>have h1:(2*((v+n-1)%n)+1)%2=1:=aa;have h2:(2*((v+n-1)%n)+1)/2=(v+n-1)%n:=aa;simp only[dL,if_false,h1,h2,Nat.one_ne_zero,wE hv];exact⟨trivial,rfl⟩
def Jq(ls:List Let)(ax:List Nat)(e:Nat):Nat:=
 if 2*ls.length<=e then
  if e%2=0 then jd ls.length (ax.getD ((e-2*ls.length)/2) 0) (dn ls (ax.getD ((e-2*ls.length)/2) 0))
  else jd ls.length (ax.getD (((e-2*ls.length)/2+1)%ax.length) 0) (!dn ls (ax.getD (((e-2*ls.length)/2+1)%ax.length) 0))
 else
  let v:=lvV ls.length e
  let g:=e%2==0
  match ls[v]? with
  |none=>0
  |some l=>if l.kind==2 then
    match ls[fN ls v]? with
    |some u=>jd ls.length (fN ls v) (g==(u.over==(u.sign==1)))
    |none=>0
   else if g==dn ls v then 2*ls.length+2*ax.idxOf v+1 else 2*ls.length+2*((ax.idxOf v+ax.length-1)%ax.length)
theorem qS(hr:lV ls=true){i:Nat}{l:Let}(hl:ls[i]?=some l)(hc:l.aB=true):fN ls (fN ls i)=i/\ ∃m,ls[fN ls i]?=some m/\m.aB=true/\m.id=l.id/\m.over= !l.over/\m.sign=l.sign:=by
 obtain⟨h1,h2⟩:=PH hr hl hc;obtain⟨_,h3⟩:=GS h1;obtain⟨m,hm,mc,mi,mo⟩:=Ah h3;have hp:GC ls:=by have:=hr;unfold lV at this;simp only[cX,beq_iff_eq,ko,gj] at this;exact(GX.1 this.1.2).2
 have aH:i≠fN ls i:=by intro e;rw[<- e,hl] at hm;cases hm;revert mo;cases l.over<;>simp
 obtain⟨h4,h5⟩:=PH hr hm mc;obtain⟨_,h6⟩:=GS h4;obtain⟨x,hx,xc,xi,xo⟩:=Ah h6;refine⟨?_,m,hm,mc,mi,mo,((hp i _ l m hl hm hc mc mi.symm aH).2).symm⟩;refine Decidable.byContradiction fun hn=>?_;have:=(hp _ i x l hx hl xc hc (by rw[xi,mi]) hn).1;rw[xo,mo] at this;revert this;cases l.over<;>simp
theorem afy{ax:List Nat}{d v:Nat}{fw:Bool}{l:Let}(h:¬2*ls.length<=d)(xF:(d%2==0)=fw)(hv:v=if fw then (d/2+1)%ls.length else d/2)(hl:ls[v]?=some l):
  gQ ls ax d=if l.kind==2 then dJ ls.length (fN ls v) (fw==(l.over==(l.sign==1)))
   else if dn ls v==fw then 2*ls.length+2*ax.idxOf v else 2*ls.length+2*((ax.idxOf v+ax.length-1)%ax.length)+1:=by
 subst xF;subst hv;unfold gQ;rw[if_neg h];simp only[hl]
theorem aef(ok:fj F ls){d:Nat}(hd:d<2*ls.length+2*(aF ls).length):Jq ls (aF ls) (gQ ls (aF ls) d)=d:=by
 have j6:∀x∈aF ls,x<ls.length/\ ∃l,ls[x]?=some l/\l.aE=true:=fun x hx=>by obtain⟨l,h1,h2⟩:=tg.1 hx;exact⟨(aW.1 h1).1,l,h1,h2⟩
 have UD:∀ {p v:Nat},(aF ls)[p]?=some v->(aF ls).idxOf v=p:=fun {p v} hp=>by obtain⟨l,hl,Cs,he⟩:=BG ok.ax hp;rw[Ks ok.ax hl Cs,he]
 have along_small:∀ {v:Nat} (g:Bool),v<ls.length-> ¬2*ls.length<=dJ ls.length v g:=fun {v} g hv=>by have:=Hs (n:=ls.length) (fw:=g) hv;omega
 have notC:∀ {l:Let},l.aE=true->(l.kind==2)=false:=fun {l} h=>pI h;have fromAxis:∀ {p v:Nat} (g:Bool),(aF ls)[p]?=some v->Jq ls (aF ls) (dJ ls.length v g)=if g==dn ls v then 2*ls.length+2*p+1 else 2*ls.length+2*((p+(aF ls).length-1)%(aF ls).length):=by intro p v g hp;obtain⟨hv,l,hl,Cs⟩:=j6 v (aU hp);obtain⟨e1,e2⟩:=ac4 hv g;unfold Jq;rw[if_neg (along_small g hv)];simp only[e1,e2,hl,notC Cs,UD hp];rfl
 by_cases h:2*ls.length<=d
 .unfold gQ;rw[if_pos h];have hm:=eH ((d-2*ls.length)/2+1) (show 0<(aF ls).length by omega);by_cases h2:d%2=0
  .rw[if_pos h2];obtain⟨v,hv⟩:=aL hm;have qh:(aF ls).getD (((d-2*ls.length)/2+1)%(aF ls).length) 0=v:=by rw[dq,hv];rfl
   rw[qh,fromAxis _ hv];have hb:((!dn ls v)==dn ls v)=false:=by cases dn ls v<;>rfl
   rw[hb,EG (show(d-2*ls.length)/2<(aF ls).length by omega)];simp only[dL,if_false];omega
  rw[if_neg h2];obtain⟨v,hv⟩:=aL (ls:=aF ls) (k:=(d-2*ls.length)/2) aa;have qh:(aF ls).getD ((d-2*ls.length)/2) 0=v:=by rw[dq,hv];rfl
  rw[qh,fromAxis _ hv];simp only[beq_self_eq_true,if_true];omega
 have hn:0<ls.length:=aa;have nX:=eH (d/2+1) hn;have key:∀(v:Nat) (fw:Bool),v<ls.length->(d%2==0)=fw->v=(if fw then (d/2+1)%ls.length else d/2)->jd ls.length v fw=d:=by
  intro v fw hv xF fp;unfold jd;cases fw with
  |true=>
   have xF:d%2=0:=by simpa using xF
   simp only[if_true] at fp ⊢;rw[fp,EG (show d/2<ls.length by omega)];omega
  |false=>
   have xF:d%2≠0:=by simpa using xF
   simp only[dL,if_false] at fp ⊢;omega
 generalize hv:(if (d%2==0)=true then (d/2+1)%ls.length else d/2)=v;generalize xF:(d%2==0)=fw at hv;have rK:v<ls.length:=by rw[<- hv];split<;>omega
 have Ee:=key v fw rK xF hv.symm;obtain⟨l,hl⟩:=aL rK;rw[afy h xF hv.symm hl];cases hk:(l.kind==2) with
 |true=>
  have hc:l.aB=true:=hk;obtain⟨hb,m,hm,mc,mi,mo,ms⟩:=qS ok.cr hl hc;have Mh:=(PH ok.cr hl hc).2;rw[if_pos rfl];obtain⟨e1,e2⟩:=ac4 Mh (fw==(l.over==(l.sign==1)));unfold Jq;rw[if_neg (along_small _ Mh)];have mk:(m.kind==2)=true:=mc;simp only[e1,e2,hm,mk,if_true,hb,hl];have Ch:((fw==(l.over==(l.sign==1)))==(l.over==(l.sign==1)))=fw:=by cases fw<;>cases (l.over==(l.sign==1))<;>rfl
  rw[Ch];exact Ee
 |false=>
  have hp:=ok.Pm hl hk;have F2:=Ks ok.ax hl hp;have cA:=Rg ok.ax hl hp;have hpT:=(aW.1 cA).1;rw[if_neg af,F2];cases hq:(dn ls v==fw) with
  |true=>
   simp only[if_true];unfold Jq;rw[if_pos aa,if_pos aa];have e1:(2*ls.length+2*dR ls l-2*ls.length)/2=dR ls l:=aa;have e2:(aF ls).getD (dR ls l) 0=v:=by rw[dq,cA];rfl
   rw[e1,e2,show dn ls v=fw by simpa using hq];exact Ee
  |false=>
   have oZ:=eH (dR ls l+(aF ls).length-1) (show 0<(aF ls).length by omega);simp only[dL,if_false];unfold Jq;rw[if_pos aa,if_neg aa];have e1:(2*ls.length+2*((dR ls l+(aF ls).length-1)%(aF ls).length)+1-2*ls.length)/2=(dR ls l+(aF ls).length-1)%(aF ls).length:=aa;have e2:(aF ls).getD (dR ls l) 0=v:=by rw[dq,cA];rfl
   rw[e1,wE hpT,e2,show(!dn ls v)=fw by revert hq;cases dn ls v<;>cases fw<;>simp];exact Ee
theorem arQ(ok:fj F ls){d e:Nat}(hd:d<2*ls.length+2*(aF ls).length)(he:e<2*ls.length+2*(aF ls).length)(h:aV ls d=aV ls e):d=e:=by have h1:=aef ok hd;have h2:=aef ok he;rw[<- h1,<- h2];exact congrArg _ h
def Js(next:Nat->Nat)(n2:Nat):Nat->Nat->List Bool->List Nat×List Bool
 |0,_,sp=>([],sp)
 |k+1,x,sp=>if x<n2 then
   if sp.getD x true then ([],sp) else (x::(Js next n2 k (next x) (sp.set x true)).1,(Js next n2 k (next x) (sp.set x true)).2)
  else (x::(Js next n2 k (next x) sp).1,(Js next n2 k (next x) sp).2)
abbrev sn(S:List Bool)(x:Nat):Bool:=S.getD x true
theorem Nb{S:List Bool}{y:Nat}(hx:x<S.length):sn (S.set x true) y=if y=x then true else sn S y:=by
 unfold sn;rw[dq,dq,pN];by_cases h:x=y
 .subst h;simp[hx]
 rw[if_neg h,if_neg (fun e=>h e.symm)]
structure yr (next:Nat->Nat) (n2 N:Nat):Prop where
 le:n2<=N
 lt:∀x,x<N->next x<N
 inj:∀x y,x<N->y<N->next x=next y->x=y
 ax:∀x,x<N->n2<=x->next x<n2
def Kg(next:Nat->Nat)(N:Nat)(S:List Bool):Prop:=∀y,y<N->sn S y=sn S (next y)
structure Inv (next:Nat->Nat) (N d:Nat) (S:List Bool) (x:Nat):Prop where
 i1:∀y,y<N->sn S (next y)=true->sn S y=true\/next y=d
 i2:∀y,y<N->sn S y=true->sn S (next y)=true\/next y=x
 i4:sn S x=true->x=d
 pr:(x=d/\sn S x=false)\/ ∃p,p<N/\next p=x/\sn S p=true
theorem Inv.start{next:Nat->Nat}{N d:Nat}{S:List Bool}(h:Kg next N S)(hd:sn S d=false):Inv next N d S d:=
 ⟨fun y hy hs=>.inl (by rw[h y hy];exact hs),fun y hy hs=>.inl (by rw[<- h y hy];exact hs),fun _=>rfl,.inl ⟨rfl,hd⟩⟩
theorem Inv.stop{next:Nat->Nat}{N d:Nat}{S:List Bool}(m:yr next n2 N)(h:Inv next N d S x)(hx:sn S x=true):Kg next N S:=by
 have hxd:=h.i4 hx;subst hxd;intro y hy;cases h1:sn S y with
 |true=>
  rcases h.i2 y hy h1 with h2|h2
  .rw[h2]
  rw[h2,hx]
 |false=>
  cases h2:sn S (next y) with
  |false=>rfl
  |true=>
   rcases h.i1 y hy h2 with h3|h3
   .rw[h3] at h1;cases h1
   rcases h.pr with ⟨_,h4⟩|⟨p,hp,jF,dE⟩
   .rw[hx] at h4;cases h4
   have:=m.inj y p hy hp (by rw[h3,jF]);rw[this,dE] at h1;cases h1
theorem Inv.step{next:Nat->Nat}{N d:Nat}{S:List Bool}(m:yr next n2 N)(hl:S.length=N)(Ax:x<N)(h:Inv next N d S x)(hx:sn S x=false):Inv next N d (S.set x true) (next x):=by
 have vk:x<S.length:=aa;refine⟨fun y hy hs=>?_,fun y hy hs=>?_,fun hs=>?_,.inr ⟨x,Ax,rfl,by rw[Nb vk,if_pos rfl]⟩⟩
 .rw[Nb vk] at hs ⊢;by_cases e:next y=x
  .rcases h.pr with ⟨h1,_⟩|⟨p,hp,jF,dE⟩
   .exact .inr (by rw[e,h1])
   have:=m.inj y p hy hp (by rw[e,jF]);left;rw[this];split
   .rfl
   exact dE
  rw[if_neg e] at hs;rcases h.i1 y hy hs with h2|h2
  .left;split
   .rfl
   exact h2
  exact .inr h2
 .rw[Nb vk] at hs ⊢;by_cases e:y=x
  .subst e;exact .inr rfl
  rw[if_neg e] at hs;rcases h.i2 y hy hs with h2|h2
  .left;split
   .rfl
   exact h2
  left;rw[if_pos h2]
 rw[Nb vk] at hs;by_cases e:next x=x
 .rcases h.pr with ⟨h1,_⟩|⟨p,hp,jF,dE⟩
  .rw[e,h1]
  have:=m.inj p x hp Ax (by rw[jF,e]);rw[this,hx] at dE;cases dE
 rw[if_neg e] at hs;rcases h.i1 x Ax hs with h2|h2
 .rw[hx] at h2;cases h2
 exact h2
theorem Wd{S:List Bool}(hx:x<n2)(hl:n2<=S.length):(S.take n2).getD x true=sn S x:=by unfold sn;rw[dq,dq,mW,if_pos hx]
theorem afq{S:List Bool}:(S.take n2).set x true=(S.set x true).take n2:=by rw[<- List.take_set]
theorem afp{S:List Bool}(hx:n2<=x):(S.set x true).take n2=S.take n2:=by rw[List.take_set];exact List.set_eq_of_length_le (by rw[iu];omega)
theorem ar5{next:Nat->Nat}{N d:Nat}(m:yr next n2 N)(hd:d<n2):∀(fuel x:Nat) (S:List Bool),S.length=N->x<N->Inv next N d S x->xZ S<fuel->
  Kg next N (fe next fuel x S).2/\Js next n2 fuel x (S.take n2)=((fe next fuel x S).1,(fe next fuel x S).2.take n2):=by
 intro fuel
 induction fuel with
 |zero=>intro x S _ _ _ h;omega
 |succ fuel ih=>
  intro x S hl hx hi hu;have hle:=m.le;unfold fe Js;cases hs:S.getD x true with
  |true=>have hxd:=hi.i4 hs;have ay:x<n2:=aa;rw[if_pos ay,Wd ay aa,show sn S x=true from hs];exact⟨hi.stop m hs,rfl⟩
  |false=>
   have IS:S[x]?=some false:=by
    rw[dq] at hs;cases h1:S[x]? with
    |none=>rw[h1] at hs;cases hs
    |some b=>rw[h1] at hs;exact congrArg some hs
   have Es:=Nj IS;obtain⟨c1,c2⟩:=ih (next x) (S.set x true) (by rw[qX,hl]) (m.lt x hx) (hi.step m hl hx hs) aa;simp only[dL,if_false];refine⟨c1,?_⟩;by_cases ay:x<n2
   .rw[if_pos ay,Wd ay aa,show sn S x=false from hs];simp only[dL,if_false];rw[afq,c2]
   rw[if_neg ay];rw[afp aa] at c2;rw[c2]
theorem fj.j6(_:fj F ls):∀x∈aF ls,x<ls.length:=fun _ h=>NM h
theorem fj.hp(ok:fj F ls):∀v l,ls[v]?=some l->(l.kind==2)=false->v∈aF ls:=fun _ l hv h2=>tg.2 ⟨l,hv,ok.Pm hv h2⟩
abbrev nD(ls:List Let):Nat:=2*ls.length+2*(aF ls).length
theorem maps(ok:fj F ls):yr (aV ls) (2*ls.length) (nD ls):=by
 refine⟨by unfold nD;omega,fun x hx=>QD ok.j6 ok.hp hx,fun x y hx hy h=>arQ ok hx hy h,fun x hx hn=>?_⟩;have hx:x<2*ls.length+2*(aF ls).length:=hx;have Cn:∀k,k<(aF ls).length->(aF ls).getD k 0<ls.length:=fun k hk=>by obtain⟨v,hv⟩:=aL hk;rw[dq,hv];exact ok.j6 v (aU hv)
 have hm:=eH ((x-2*ls.length)/2+1) (show 0<(aF ls).length by omega);show gQ ls (aF ls) x<_;unfold gQ;rw[if_pos hn];split
 .exact Hs (Cn _ hm)
 exact Hs (Cn _ aa)
theorem afI(next:Nat->Nat):∀(k x:Nat) (S:List Bool) (y:Nat),sn S y=true->sn (fe next k x S).2 y=true:=by
 intro k
 induction k with
 |zero=>intro x S y h;exact h
 |succ k ih=>
  intro x S y h;unfold fe;split
  .exact h
  refine ih _ _ _ ?_;unfold sn;rw[dq,pN];split
  .split<;>rfl
  rw[<- dq];exact h
theorem afG(next:Nat->Nat)(k x:Nat)(S:List Bool)(hk:xZ S<k):sn (fe next k x S).2 x=true:=by
 cases k with
 |zero=>omega
 |succ k=>
  unfold fe;cases hs:S.getD x true with
  |true=>simpa using hs
  |false=>
   simp only[dL,if_false];refine afI _ _ _ _ _ ?_;unfold sn;rw[dq,pN];split
   .split<;>rfl
   rename_i h;exact absurd rfl h
section
variable {next:Nat->Nat} {n2 N:Nat}
theorem Wc(h:x<N):sn (List.replicate N false) x=false:=by unfold sn;rw[dq,List.getElem?_replicate,if_pos h];rfl
theorem QH(m:yr next n2 N):∀k,k<=n2->Kg next N (dG next N k).2/\ ∀x,x<k->sn (dG next N k).2 x=true:=by
 intro k
 induction k with
 |zero=>intro _;refine⟨fun y hy=>?_,fun x h=>absurd h (qY x)⟩;show sn (List.replicate N false) y=sn (List.replicate N false) (next y);rw[Wc hy,Wc (m.lt y hy)]
 |succ k ih=>
  intro hk;obtain⟨c,s⟩:=ih aa;have hlen:=GU next N k;have hle:=m.le;rw[ya];unfold uL;cases hs:(dG next N k).2.getD k true with
  |true=>
   simp only[if_true];refine⟨c,fun x hx=>?_⟩;rcases mY.1 hx with h|rfl
   .exact s x h
   exact hs
  |false=>
   simp only[dL,if_false];have hul:=JQ (dG next N k).2;obtain⟨c1,_⟩:=ar5 m (show k<n2 by omega) ((dG next N k).2.length+1) k (dG next N k).2 hlen aa (Inv.start c hs) aa;refine⟨c1,fun x hx=>?_⟩;rcases mY.1 hx with h|rfl
   .exact afI _ _ _ _ _ (s x h)
   exact afG _ _ _ _ aa
theorem Ww(m:yr next n2 N):∀k,n2<=k->k<=N->dG next N k=dG next N n2:=by
 intro k
 induction k with
 |zero=>intro h _;rw[show n2=0 by omega]
 |succ k ih=>
  intro h1 h2;by_cases e:n2=k+1
  .rw[e]
  rw[ya,ih aa aa];obtain⟨c,s⟩:=QH m n2 (bN _);unfold uL;have:(dG next N n2).2.getD k true=true:=by have h3:=c k aa;have h4:=s (next k) (m.ax k aa aa);show sn (dG next N n2).2 k=true;rw[h3,h4]
  rw[this];rfl
end

abbrev oD(o:List (Nat×Nat)):List (List PV):=o.map fun p=>[PV.int .i64 (p.1:Int),PV.int .i64 (p.2:Int)]
def rZ(g r to:Nat):List (Nat×Nat):=(g,r)::(List.range (to-g)).map fun i=>(g+1+i,0)
def tV(g to:Nat):List Nat:=(List.range (to-g)).map fun i=>g+1+i
abbrev CN:Nat:=173
def gN (ls:List Let)(i:Nat):Nat:=match ls[i]? with|some l=>l.gate.toNat|none=>0
def rN (ls:List Let)(i:Nat):Nat:=match ls[i]? with|some l=>l.aD.toNat|none=>0
theorem FI{i:Nat}{l:Let}(h:ls[i]?=some l):gN ls i=l.gate.toNat:=by simp[gN,h]
theorem ao9{i:Nat}{l:Let}(h:ls[i]?=some l):rN ls i=l.aD.toNat:=by simp[rN,h]
def tR(F:Nat)(ls:List Let)(j:Nat):List (Nat×Nat):=
 let u:=(aF ls).getD j 0
 let v:=(aF ls).getD ((j+1)%(aF ls).length) 0
 if j+1<(aF ls).length then rZ (gN ls u) (rN ls u) (gN ls v) else rZ (gN ls u) (rN ls u) F++rZ 0 0 (gN ls v)
def CM(F:Nat)(ls:List Let)(j:Nat):List Nat:=
 let u:=(aF ls).getD j 0
 let v:=(aF ls).getD ((j+1)%(aF ls).length) 0
 if j+1<(aF ls).length then tV (gN ls u) (gN ls v) else tV (gN ls u) F++tV 0 (gN ls v)
theorem Jo(a b:List (Nat×Nat)):oD (a++b)=oD a++oD b:=af
theorem I9(a b:List Nat):nP (a++b)=nP a++nP b:=af
theorem Bg(g r to:Nat):(rZ g r to).length=to-g+1:=by simp[rZ]
theorem Qu(g to:Nat):(tV g to).length=to-g:=by simp[tV]
theorem Xo(ok:fj F ls)(hj:j<(aF ls).length):∃u l,(aF ls)[j]?=some u/\(aF ls).getD j 0=u/\ls[u]?=some l/\l.aE=true/\uq F ls l:=by obtain⟨u,hu⟩:=aL hj;obtain⟨l,h1,h2⟩:=tg.1 (aU hu);exact⟨u,l,hu,by rw[dq,hu];rfl,h1,h2,ok.ax.fm l (aU h1) h2⟩
structure Fc where
 ij:Bool
 dp:List Nat
 places:List (Nat×Nat)
 xh:List Nat
 outer:Bool
def Fc.ps(f:Fc):List PV:=[.bool f.ij,.sl (nP f.dp),.sl (oD f.places),.sl (nP f.xh),.bool f.outer]
def Fc.add(F:Nat)(ls:List Let)(f:Fc)(x:Nat):Fc:=
 if x<2*ls.length then {f with dp:=f.dp++[x]}
 else {f with places:=f.places++(if x%2=0 then tR F ls ((x-2*ls.length)/2) else (tR F ls ((x-2*ls.length)/2)).reverse),xh:=f.xh++(if x%2=0 then CM F ls ((x-2*ls.length)/2) else (CM F ls ((x-2*ls.length)/2)).reverse),outer:=f.outer||decide ((x-2*ls.length)/2+1=(aF ls).length)}
def Fc.new(ls:List Let)(d:Nat):Fc:=⟨dn ls (d/2+1),[],[],[],false⟩
def nv(F:Nat)(ls:List Let)(w:List Nat):Fc:=w.foldl (Fc.add F ls) (Fc.new ls (w.headD 0))
def eV(F:Nat)(ls:List Let):List Fc:=(iJ (aV ls) (nD ls)).map (nv F ls)
theorem Oy(ok:fj F ls)(hj:j<(aF ls).length):gN ls ((aF ls).getD j 0)<=F:=by obtain⟨u,l,_,du,hl,_,hg⟩:=Xo ok hj;rw[du,FI hl];have:=hg.g1;have:=hg.g0;omega
theorem ad5(ok:fj F ls)(hj:j<(aF ls).length):(tR F ls j).length<=2*F+2:=by have h1:=Oy ok hj;have h2:=Oy ok (eH (j+1) (show 0<(aF ls).length by omega));unfold tR;simp only;split<;>simp only[gh,Bg]<;>omega
theorem ad4(ok:fj F ls)(hj:j<(aF ls).length):(CM F ls j).length<=2*F+2:=by have h1:=Oy ok hj;have h2:=Oy ok (eH (j+1) (show 0<(aF ls).length by omega));unfold CM;simp only;split<;>simp only[gh,Qu]<;>omega
theorem ar1(next:Nat->Nat):∀(k x:Nat) (S:List Bool),∀y∈(fe next k x S).1,y<S.length:=by
 intro k
 induction k with
 |zero=>intro x S y h;simp[fe] at h
 |succ k ih=>
  intro x S y h;unfold fe at h;cases hs:S.getD x true with
  |true=>rw[hs] at h;simp at h
  |false=>
   rw[hs] at h;have hx:x<S.length:=by
    rcases Nat.lt_or_ge x S.length with h1|h1
    .exact h1
    rw[dq,tZ h1] at hs;cases hs
   simp only[dL,if_false,cP] at h;rcases h with rfl|h
   .exact hx
   have:=ih _ _ y h
   simpa using this
theorem ar2(next:Nat->Nat):∀(k x:Nat) (S:List Bool),(fe next k x S).1.length<=xZ S:=by
 intro k
 induction k with
 |zero=>intro x S;simp[fe]
 |succ k ih=>
  intro x S;unfold fe;cases hs:S.getD x true with
  |true=>simp
  |false=>
   have IS:S[x]?=some false:=by
    rw[dq] at hs;cases h1:S[x]? with
    |none=>rw[h1] at hs;cases hs
    |some b=>rw[h1] at hs;exact congrArg some hs
   have Es:=Nj IS;have:=ih (next x) (S.set x true);simp only[dL,if_false,dh];omega
theorem afF(next:Nat->Nat){k:Nat}{S:List Bool}(h:S.getD x true=false):∃t,(fe next (k+1) x S).1=x::t:=by unfold fe;rw[h];exact⟨_,rfl⟩
theorem ar6(next:Nat->Nat)(N:Nat):∀k,∀w∈(dG next N k).1,(∃d t,w=d::t/\d<k)/\w.length<=N/\ ∀y∈w,y<N:=by
 intro k
 induction k with
 |zero=>intro w h;simp[dG] at h
 |succ k ih=>
  intro w h;rw[ya] at h;unfold uL at h;have hlen:=GU next N k;have old:w∈(dG next N k).1->(∃d t,w=d::t/\d<k+1)/\w.length<=N/\ ∀y∈w,y<N:=fun h=>by obtain⟨⟨d,t,h1,h2⟩,h3⟩:=ih w h;exact⟨⟨d,t,h1,aa⟩,h3⟩
  cases hs:(dG next N k).2.getD k true with
  |true=>simp only[hs,if_true] at h;exact old h
  |false=>
   simp only[hs,dL,if_false,fg,pO] at h;rcases h with h|rfl
   .exact old h
   obtain⟨t,ht⟩:=afF next (k:=(dG next N k).2.length) hs;refine⟨⟨k,t,ht,aa⟩,?_,fun y hy=>?_⟩
   .have h1:=ar2 next ((dG next N k).2.length+1) k (dG next N k).2;have h2:=JQ (dG next N k).2;omega
   have:=ar1 next _ _ _ y hy;omega
theorem No(ok:fj F ls):∀w∈iJ (aV ls) (nD ls),(∃d t,w=d::t/\d<2*ls.length)/\w.length<=nD ls/\ ∀y∈w,y<nD ls:=by intro w h;unfold iJ at h;rw[Ww (maps ok) (nD ls) (by unfold nD;omega) (bN _)] at h;exact ar6 (aV ls) (nD ls) _ w h
abbrev zV:Nat:=152
theorem aso{a b:PV}{id g z o l:Nat}{cp cf:C}:Bj [[.p a,.hsl id g z o l,cp,cf,.p b]]=none:=rfl
theorem aiK{aj:aA}{s g ty sd td zd sp tp zp sf tf zf:Nat}{a o:Bool}{cd cp cf:C}{D P G:List (List PV)}(hb:aj s=(g,some (.iN ty 5 [[.p (.bool a),cd,cp,cf,.p (.bool o)]])))(gd:grown sd td zd D (.one cd) aj)(gp:grown sp tp zp P (.one cp) aj)(gf:grown sf tf zf G (.one cf) aj):
  ∃fr,fF aj (.one (.hsl s g 5 0 1))=some ([[.bool a,.sl D,.sl P,.sl G,.bool o]],[s],fr)/\nK aj fr/\ ∀i∈fr,i=sd\/i=sp\/i=sf:=by
 obtain⟨r1,n1,a1,q1⟩:=gd.Qp;obtain⟨r2,n2,a2,q2⟩:=gp.Qp;obtain⟨r3,n3,a3,q3⟩:=gf.Qp;refine⟨r1++(r2++r3),?_,a1.app (a2.app a3),fun i hi=>?_⟩
 .simp only[fF,hb];simp[collect,n1,n2,n3,Qs,PV.norm]
 simp only[fg] at hi;rcases hi with hi|hi|hi
 .rcases q1 with rfl|rfl<;>simp at hi;exact .inl hi
 .rcases q2 with rfl|rfl<;>simp at hi;exact .inr (.inl hi)
 rcases q3 with rfl|rfl<;>simp at hi;exact .inr (.inr hi)
abbrev tx(l:List Fc):List (List PV):=l.map Fc.ps
theorem agl(F:Nat)(ls:List Let):∀(w:List Nat) (f:Fc),f.dp≠[]->(w.foldl (Fc.add F ls) f).dp≠[]:=by
 intro w
 induction w with
 |nil=>intro f h;exact h
 |cons x w ih=>
  intro f h;refine ih _ ?_;unfold Fc.add;split
  .simp
  exact h
theorem ajk{d:Nat}{t:List Nat}(h:d<2*ls.length):(nv F ls (d::t)).dp≠[]:=by unfold nv;refine agl F ls t _ ?_;unfold Fc.add;rw[show(d::t).headD 0=d from rfl,if_pos h];simp
def uf(ls:List Let)(k:Nat):List Bool:=(List.range ls.length).map fun i=>decide (i<k)&& !dn ls (i+1)
theorem XB(ls:List Let)(k:Nat):(uf ls k).length=ls.length:=by simp[uf]
theorem ahf(ls:List Let):uf ls 0=List.replicate ls.length false:=by
 refine Kb fun i=>?_;simp only[uf,fZ,List.getElem?_replicate];by_cases h:i<ls.length
 .simp[h]
 rw[tZ (by simpa using h),if_neg h];rfl
theorem ahe(ls:List Let)(k:Nat):uf ls (k+1)=(uf ls k).set k (!dn ls (k+1)):=by
 refine Kb fun i=>?_;rw[pN,XB];simp only[uf,fZ];by_cases h:i<ls.length
 .rw[r4 h];by_cases e:k=i
  .subst e;simp[h]
  simp only[ng,e,if_false];congr 2;exact decide_eq_decide.2 aa
 rw[tZ (by simpa using h)];by_cases e:k=i
 .subst e;rw[if_pos rfl,if_neg h];rfl
 rw[if_neg e];rfl
abbrev BJ(ls:List Let):List Bool:=uf ls ls.length
theorem ahg{i:Nat}(h:i<ls.length):(BJ ls)[i]?=some (!dn ls (i+1)):=by simp[uf,h]
theorem ahi(ok:fj F ls):aI S 103 [.one (.p (lD F ls))] (.one (.own 4 1 (bP (BJ ls)))):=by
 have hl:=ok.hl;have lX:ls.length<=140737488355328:=aa;have vg:List.replicate ls.length [PV.bool false]=bP (uf ls 0):=by rw[ahf];simp
 refine aZ c103 ?_;simp only[go_sem,i103,lX,vg];refine cV (fun k ak aj=>ak 0=.one (.p (lD F ls))/\ak 3=.one (.hsl 6592064384 1 1 0 ls.length)/\aj 6592064384=(1,some (.arr 4 1 (bP (uf ls k))))/\
   ak 4=vb (!dn ls k)/\ak 18=.one (.p (cF ls))/\ak 19=vi ls.length/\ak 20=vi k) 0 ls.length (bG _) ?_ ?_
 .simp only[go_sem];first|exact⟨rfl,rfl⟩|exact⟨rfl,rfl,rfl⟩|exact⟨rfl,rfl,rfl,rfl⟩|exact rfl
 rintro k ak aj hk ⟨h0,h3,hA,h4,gY,iB,xn⟩
 by_cases ay:k<ls.length
 .obtain⟨l,cK⟩:=aL ay;have hi:=iI cK;have aJ:((k:Int)<(ls.length:Int)):=aa;have w1:=cn (n:=k) aa;have hlen:k<(uf ls k).length:=by rw[XB];exact ay
  obtain⟨b0,nU⟩:=aL hlen;have kz:=sv nU;have ia:=Hw (uf ls k) k (!dn ls (k+1));rw[<- ahe] at ia;cases hp:(l.kind==1) with
  |true=>have hd:=KN cK hp;have akA:=sv (NW cK hp);rw[hd] at ia;rw[Bool.not_not] at ia;simp only[go_sem,i103_l1,h0,h3,hA,h4,gY,iB,xn,hi,Let.ps,ay,aJ,w1,hp,akA,kz,ia,hd]
  |false=>have hd:=KO cK hp;rw[hd] at ia;simp only[go_sem,i103_l1,h0,h3,hA,h4,gY,iB,xn,hi,Let.ps,ay,aJ,w1,hp,kz,ia,hd]
 have:k=ls.length:=aa;subst this;simp only[go_sem,i103_l1,i103_r2,h3,iB,xn,eE];exact Jm hA (by simp[uf])
abbrev EA(id:Nat):Prop:=jo id=151
theorem afd{g r T k:Nat}(h:k<=T-g):(rZ g r T)[k]?=some (g+k,if k=0 then r else 0):=by
 cases k with
 |zero=>rfl
 |succ k=>unfold rZ;rw[List.getElem?_cons_succ,fZ,r4 aa];simp;omega
theorem aqZ{g T k:Nat}(h:k<T-g):(tV g T)[k]?=some (g+1+k):=by unfold tV;rw[fZ,r4 h];rfl
def HD(g r T:Nat)(ps fs:List (List PV))(i1 i2:Nat)(aj:aA)(v:V)(ao:aA):Prop:=
 ∃c1 c2 j2,v=.tup [.one c1,.one c2]/\grown 9664320192 CN 2 (ps++oD (rZ g r T)) (.one c1) ao/\grown j2 3 1 (fs++nP (tV g T)) (.one c2) ao/\(j2=i2\/j2=9664256256)/\
  Kept (fun id=>EA id\/id=i1\/id=i2) aj ao
def bt1:List Nat:=[9664000000,9664000064,9664128128,9664256192,9664256256,9664320128]
def bt2:List Nat:=[9664000000,9664000064,9664128128,9664128192,9664256192,9664320128,9664320192]
theorem Kx{al:Al}{aj:aA}{g r T t i1 i2:Nat}{ps fs:List (List PV)}{c1 c2:C}(okf:∀id,EA id->al.ok id=true)(o1:al.ok i1=true)(o2:al.ok i2=true)(hT:g<=T)(ht:t=if T=g then r else 0)(hb:T<=1000)(dE:ps.length<=1000000)(rF:fs.length<=1000000)
  (n12:i1≠i2) (MN:i1∉bt1) (MO:i2∉bt2) (h1:grown i1 CN 2 ps (.one c1) aj) (h2:grown i2 3 1 fs (.one c2) aj):
  ∃v ao,iK S 151 [.agg [.p (.int .i64 g),.p (.int .i64 r)],.agg [.p (.int .i64 T),.p (.int .i64 t)],.one c1,.one c2] al aj v ao/\HD g r T ps fs i1 i2 aj v ao:=by
 have k0:al.ok 9664000000=true:=okf _ rfl;have k64:al.ok 9664000064=true:=okf _ rfl;have kb1:al.ok 9664128128=true:=okf _ rfl;have ka1:al.ok 9664128192=true:=okf _ rfl;have MC:al.ok 9664256192=true:=okf _ rfl;have ka2:al.ok 9664256256=true:=okf _ rfl;have kb3:al.ok 9664320128=true:=okf _ rfl;have ka3:al.ok 9664320192=true:=okf _ rfl;refine mF c151 (iv rfl) ?_;simp only[go_sem,i151,k0,k64];have lenP:=Bg g r T;have lenF:=Qu g T;refine cV (fun k ak ao=>ak 4=.one (.aY 9664000000 ((aj 9664000000).1+1) 0)/\ak 5=.one (.aY 9664000064 ((aj 9664000064).1+1) 0)/\
   ao 9664000000=((aj 9664000000).1+1,some (.var [.p (.int .i64 ((g+k:Nat):Int)),.p (.int .i64 ((if k=0 then r else 0:Nat):Int))]))/\ao 9664000064=((aj 9664000064).1+1,some (.var [.p (.int .i64 T),.p (.int .i64 t)]))/\
   ∃d1 d2 j1 j2,ak 2=.one d1/\ak 3=.one d2/\(j1=i1\/j1=9664128192)/\(j2=i2\/j2=9664256256)/\grown j1 CN 2 (ps++oD ((rZ g r T).take k)) (.one d1) ao/\grown j2 3 1 (fs++nP ((tV g T).take k)) (.one d2) ao/\Kept (fun id=>EA id\/id=i1\/id=i2) aj ao) 0 (T-g) (bG _) ?_ ?_
 .simp only[go_sem];refine⟨rfl,c1,c2,i1,i2,rfl,rfl,.inl rfl,.inl rfl,?_,?_,?_⟩
  .exact(h1.of_eq (aS (Py MN (by simp[bt1])))).of_eq (aS (Py MN (by simp[bt1])))
  .exact(h2.of_eq (aS (Py MO (by simp[bt2])))).of_eq (aS (Py MO (by simp[bt2])))
  exact((Kept.refl _ _).dK (.inl rfl) _).dK (.inl rfl) _
 rintro k ak ao hk ⟨h4,h5,hA,hB,d1,d2,j1,j2,e2,e3,q1,q2,g1,g2,dd⟩
 have oj1:al.ok j1=true:=by rcases q1 with rfl|rfl<;>assumption
 have oj2:al.ok j2=true:=by rcases q2 with rfl|rfl<;>assumption
 have n1:∀a,a∈bt1->j1≠a:=fun a ha e=>by
  rcases q1 with rfl|rfl
  .exact MN (e▸ha)
  exact absurd (e▸ha) ae
 have n2:∀a,a∈bt2->j2≠a:=fun a ha e=>by
  rcases q2 with rfl|rfl
  .exact MO (e▸ha)
  exact absurd (e▸ha) ae
 have n3:j1≠j2:=fun e=>by
  rcases q1 with rfl|rfl
  .rcases q2 with rfl|rfl
   .exact n12 e
   exact n1 _ ae e
  exact n2 _ ae e.symm
 have kj1:EA j1\/j1=i1\/j1=i2:=by
  rcases q1 with rfl|rfl
  .exact .inr (.inl rfl)
  exact .inl rfl
 have kj2:EA j2\/j2=i1\/j2=i2:=by
  rcases q2 with rfl|rfl
  .exact .inr (.inr rfl)
  exact .inl rfl
 have ltk:((rZ g r T).take k).length=k:=by rw[iu];omega
 have ltf:((tV g T).take k).length=k:=by rw[iu];omega
 by_cases ay:k<T-g
 .have aJ:(((g+k:Nat):Int)<(T:Int)):=aa;have w1:IntKind.i64.wrap (((g+k:Nat):Int)+1)=((g+(k+1):Nat):Int):=cn (n:=g+k) aa;have hp:oD ((rZ g r T).take (k+1))=oD ((rZ g r T).take k)++[[.int .i64 ((g+k:Nat):Int),.int .i64 ((if k=0 then r else 0:Nat):Int)]]:=by
   rw[pP,afd aa,Jo];rfl
  have hf:nP ((tV g T).take (k+1))=nP ((tV g T).take k)++[[.int .i64 ((g+(k+1):Nat):Int)]]:=by rw[pP,aqZ ay,I9,show g+1+k=g+(k+1) by omega];rfl
  simp only[go_sem,i151_l1,h4,h5,hA,hB,e2,aJ,k0,k64,kb1];refine Oz (id:=j1) (site:=9664128192) (bytes:=16) (xs:=[[.int .i64 ((g+k:Nat):Int),.int .i64 ((if k=0 then r else 0:Nat):Int)]]) (rd:=[9664128128]) (by simp[ka1,oj1,kb1]) (g1.of_eq (aS (n1 _ ae))) (by simp[fF,aN]) (.inl rfl) (by simp only[gh,cM,ltk,dh,ff];omega) fun c bh hc bj=>?_;have hA2:=(bj 9664000000 ae (n1 _ ae).symm).trans ((aS ae).trans hA);have uv:=(bj 9664000064 ae (n1 _ ae).symm).trans ((aS ae).trans hB);simp only[go_sem,h4,hA2,e3,w1,k0,MC]
  refine Oz (id:=j2) (site:=9664256256) (bytes:=8) (xs:=[[.int .i64 ((g+(k+1):Nat):Int)]]) (rd:=[9664256192]) (by simp[ka2,oj2,MC]) (g2.of_eq ((aS (n2 _ ae)).trans ((aS (n2 _ ae)).trans ((bj _ (n2 _ ae) n3.symm).trans (aS (n2 _ ae)))))) (by simp[fF,aN]) (.inl rfl) (by simp only[gh,cM,ltf,dh,ff];omega) fun c' gT kJ hJ=>?_;have hA3:=(hJ 9664000000 ae (n2 _ ae).symm).trans ((aS ae).trans wM);have hB3:=(hJ 9664000064 ae (n2 _ ae).symm).trans ((aS ae).trans ((aS ae).trans uv));simp only[go_sem,h4,h5,hA3,hB3,e2,e3,ay];refine⟨rfl,c,c',9664128192,9664256256,rfl,rfl,.inr rfl,.inr rfl,?_,?_,fun id hn=>?_⟩
  .rw[hp,<- zE];exact hc.of_eq ((hJ _ ae (n2 _ ae).symm).trans ((aS ae).trans (aS ae)))
  .rw[hf,<- zE];exact kJ
  have a:∀x,EA x->id≠x:=fun x hx e=>hn (.inl (e▸hx));have b1:id≠j1:=fun e=>hn (e▸kj1);have b2:id≠j2:=fun e=>hn (e▸kj2);exact(hJ id (a _ rfl) b2).trans ((aS (a _ rfl)).trans ((aS (a _ rfl)).trans ((bj id (a _ rfl) b1).trans ((aS (a _ rfl)).trans (dd id hn)))))
 have:k=T-g:=aa;subst this;have aJ:¬(((g+(T-g):Nat):Int)<(T:Int)):=aa;simp only[go_sem,i151_l1,i151_r2,h4,h5,hA,hB,e2,aJ,k0,k64,kb3];have L4:oD (rZ g r T)=oD ((rZ g r T).take (T-g))++[[.int .i64 (T:Int),.int .i64 (t:Int)]]:=by
  have h1:=pP (l:=rZ g r T) (i:=T-g);rw[afd (bN _),gR (show(rZ g r T).length<=T-g+1 by omega)] at h1;have e1:g+(T-g)=T:=aa;have e2:(if T-g=0 then r else 0)=t:=by
   rw[ht];by_cases h:T=g
   .rw[if_pos h,if_pos aa]
   rw[if_neg h,if_neg aa]
  rw[e1,e2] at h1;exact(congrArg (fun l:List (Nat×Nat)=>oD l) h1).trans (Jo _ _)
 have dy:(tV g T).take (T-g)=tV g T:=gR aa;refine Oz (id:=j1) (site:=9664320192) (bytes:=16) (xs:=[[.int .i64 (T:Int),.int .i64 (t:Int)]]) (rd:=[9664320128]) (by simp[ka3,oj1,kb3]) (g1.of_eq (aS (n1 _ ae))) (by simp[fF,aN]) (.inl rfl) (by simp only[gh,cM,ltk,dh,ff];omega) fun c bh hc bj=>?_;simp only[go_sem,e3];refine⟨c,d2,j2,rfl,?_,?_,q2,fun id hn=>?_⟩
 .rw[L4,<- zE];exact hc
 .rw[dy] at g2;exact g2.of_eq ((bj _ (n2 _ ae) n3.symm).trans (aS (n2 _ ae)))
 have a:∀x,EA x->id≠x:=fun x hx e=>hn (.inl (e▸hx));have b1:id≠j1:=fun e=>hn (e▸kj1);exact(bj id (a _ rfl) b1).trans ((aS (a _ rfl)).trans (dd id hn))
theorem Xp(ok:fj F ls)(hj:j<(aF ls).length):∃u l,(aF ls)[j]?=some u/\(aF ls).getD j 0=u/\ls[u]?=some l/\l.aE=true/\uq F ls l/\dR ls l=j:=by obtain⟨u,l,h1,h2,h3,h4,h5⟩:=Xo ok hj;obtain⟨l',k1,k2,k3⟩:=BG ok.ax h1;rw[h3] at k1;cases k1;exact⟨u,l,h1,h2,h3,h4,h5,k3⟩
theorem ag3{pg pr qg qr:Nat}{p q:Let}(gp:uq F ls p)(gq:uq F ls q)(hp:dR ls p=j)(hq:dR ls q=j+1)(h1:p.gate=(pg:Int))(h2:p.aD=(pr:Int))(h3:q.gate=(qg:Int))(h4:q.aD=(qr:Int)):
  pg<=qg/\qr-1=if qg=pg then pr else 0:=by
 obtain⟨_,_,p1,p2⟩:=gp;obtain⟨_,_,q1,q2⟩:=gq;unfold dR at hp hq;rw[h1,h2] at hp;rw[h3,h4] at hq;rw[h2] at p1;rw[h1,h2] at p2;rw[h4] at q1;rw[h3,h4] at q2;simp only[tY] at hp hq p2 q2;have sp:=tz ls pg;have sq:=tz ls qg;have hle:pg<=qg:=by
  rcases Nat.lt_or_ge qg pg with h|h
  .have:=zW (ls:=ls) (show qg+1<=pg by omega);omega
  exact h
 refine⟨hle,?_⟩;by_cases e:qg=pg
 .subst e;rw[if_pos rfl];omega
 rw[if_neg e];have:=zW (ls:=ls) (show pg+1<=qg by omega);omega
theorem ag1{qg qr:Nat}{q:Let}(gq:uq F ls q)(hq:dR ls q=0)(h3:q.gate=(qg:Int))(h4:q.aD=(qr:Int)):qr-1=0:=by obtain⟨_,_,q1,q2⟩:=gq;unfold dR at hq;rw[h3,h4] at hq;rw[h4] at q1;simp only[tY] at hq;omega
theorem aqC:S.sites 151=[151]:=ah
theorem ue{vs:List V}{aj:aA}:∀id,EA id->(allow (S.ctx .all) 151 vs aj).ok id=true:=fun id h=>uR (by rw[aqC,h];simp)
theorem apy(ok:fj F ls)(hF:F<=1000)(hj:j<(aF ls).length):
  aI S 123 [.one (.p (lD F ls)),vi j] (.tup [.one (aT CN 2 (oD (tR F ls j))),.one (aT 3 1 (nP (CM F ls j)))]):=by
 have hl:=ok.hl;have gZ:(aF ls).length<=1000000:=mD (vL ls ls.length) hl;have hm:=eH (j+1) (show 0<(aF ls).length by omega);obtain⟨u,p,hu,du,hp,pp,gp,xp⟩:=Xp ok hj;obtain⟨v,q,hv,dv,hq,pq,gq,xq⟩:=Xp ok hm;unfold tR CM;simp only[du,dv,FI hp,FI hq,ao9 hp];have iS:=iI hp;have Gd:=iI hq;have El:=j9 hu;have Aq:=j9 hv;have e1:=vB (j+1) (aF ls).length;have w1:=cn (n:=j) aa;have w2:=GV (a:=(aF ls).length) aa aa;have nX:¬(((aF ls).length:Int)=0):=aa
 have hg0:=gp.g0;have F1:=gp.g1;have Ak:=gq.g0;have cK:=gq.g1;have uC:=gp.r0;have jv:=gp.r1;have o9:=gq.r0;have ji:=gq.r1;have hcg:cg ls p.gate.toNat<=ls.length:=tj _ _;have hcq:cg ls q.gate.toNat<=ls.length:=tj _ _;obtain⟨pg,h1⟩:=sZ (show 0<=p.gate by omega);obtain⟨pr,h2⟩:=sZ (show 0<=p.aD by omega);obtain⟨qg,h3⟩:=sZ (show 0<=q.gate by omega);obtain⟨qr,h4⟩:=sZ (show 0<=q.aD by omega);have wr:=GV (a:=qr) (by rw[h4] at o9;omega) aa;have jk:S.shared 151=true:=ah;have Ek:=fun h=>ag3 gp gq xp (h:dR ls q=j+1) h1 h2 h3 h4;have UB:=fun h=>ag1 gq (h:dR ls q=0) h3 h4
 rw[h1] at F1 jv hcg hg0;rw[h2] at jv uC;rw[h3] at Ak cK ji hcq;rw[h4] at o9 ji;rw[h1,h2,h3];simp only[tY] at jv hcg ji hcq ⊢;refine aZ c123 ?_;by_cases ay:j+1<(aF ls).length
 .have aJ:(j:Int)<(((aF ls).length-1:Nat):Int):=aa;rw[jA ay] at xq;obtain⟨n1,n2⟩:=Ek xq;simp only[if_pos ay];simp only[go_sem,i123,El,Aq,iS,Gd,Let.ps,w1,e1,w2,wr,aJ,nX,h1,h2,h3,h4,jk];refine⟨aG,?_⟩;refine rC (P:=HD pg pr qg [] [] 9664128192 9664256256 _) za (Kx (g:=pg) (r:=pr) (T:=qg) (t:=qr-1) (c1:=.p .nils) (c2:=.p .nils) ue (ue _ rfl) (ue _ rfl) n1 n2 aa (bG _) (bG _) ae ae ae grown.nil grown.nil) ?_;rintro v ao ⟨c1,c2,j2,rfl,g1,g2,mM,dd⟩
  have mM:j2=9664256256:=by rcases mM with h|h<;>exact h
  subst mM;simp only[go_sem];exact OC ae g1 g2
 have aJ:¬(j:Int)<(((aF ls).length-1:Nat):Int):=aa;have F3:(j+1)%(aF ls).length=0:=by rw[show j+1=(aF ls).length by omega,Dj]
 rw[F3] at xq;have n2:=UB xq;simp only[if_neg ay];have L4:∃t:Nat,t=(if F=pg then pr else 0):=⟨_,rfl⟩;obtain⟨t,ht⟩:=L4;have fin:∀(ak:Env) (aj:aA) (c1 c2:C),True:=fun _ _ _ _=>trivial;have ini:(((pg:Int)==(F:Int))=true/\t=pr/\F=pg)\/(((pg:Int)==(F:Int))=false/\t=0):=by
  by_cases h:F=pg
  .subst h;rw[if_pos rfl] at ht;exact .inl ⟨af,ht,rfl⟩
  rw[if_neg h] at ht;exact .inr ⟨by simp;omega,ht⟩
 rcases ini with ⟨hb,ht2,hFp⟩|⟨hb,ht2⟩
 .subst hFp;simp only[go_sem,i123,El,Aq,iS,Gd,Let.ps,w1,e1,w2,wr,aJ,nX,h1,h2,h3,h4,jk,hb];refine⟨aG,?_⟩;refine⟨aG,?_⟩;refine rC (P:=HD F pr F [] [] 9664128192 9664256256 _) za (Kx (g:=F) (r:=pr) (T:=F) (t:=pr) (c1:=.p .nils) (c2:=.p .nils) ue (ue _ rfl) (ue _ rfl) aa (by rw[if_pos rfl]) aa (bG _) (bG _) ae ae ae grown.nil grown.nil) ?_;rintro v bK ⟨c1,c2,j2,rfl,g1,g2,mM,dd⟩
  have mM:j2=9664256256:=by rcases mM with h|h<;>exact h
  subst mM;rw[gD] at g1 g2;have hA:=dd 7872256384 ae;simp only[go_sem] at hA;simp only[go_sem,hA,jk];refine rC (P:=HD 0 0 qg (oD (rZ F pr F)) (nP (tV F F)) 9664320192 9664256256 _) za (Kx (g:=0) (r:=0) (T:=qg) (t:=qr-1) (c1:=c1) (c2:=c2) ue (ue _ rfl) (ue _ rfl) (bG _) (by rw[n2];split<;>rfl) aa (by simp only[cM,Bg];omega) (by simp only[cM,Qu];omega) ae ae ae g1 g2) ?_;rintro v bh ⟨d1,d2,j3,rfl,k1,k2,Ai,_⟩
  have Ai:j3=9664256256:=by rcases Ai with h|h<;>exact h
  subst Ai;simp only[go_sem];rw[Jo,I9];exact OC ae k1 k2
 simp only[go_sem,i123,El,Aq,iS,Gd,Let.ps,w1,e1,w2,wr,aJ,nX,h1,h2,h3,h4,jk,hb];refine⟨aG,?_⟩;refine⟨aG,?_⟩;refine rC (P:=HD pg pr F [] [] 9664128192 9664256256 _) za (Kx (g:=pg) (r:=pr) (T:=F) (t:=0) (c1:=.p .nils) (c2:=.p .nils) ue (ue _ rfl) (ue _ rfl) aa (by rw[ht2] at ht;exact ht) aa (bG _) (bG _) ae ae ae grown.nil grown.nil) ?_;rintro v bK ⟨c1,c2,j2,rfl,g1,g2,mM,dd⟩
 have mM:j2=9664256256:=by rcases mM with h|h<;>exact h
 subst mM;rw[gD] at g1 g2;have hA:=dd 7872256384 ae;simp only[go_sem] at hA;simp only[go_sem,hA,jk];refine rC (P:=HD 0 0 qg (oD (rZ pg pr F)) (nP (tV pg F)) 9664320192 9664256256 _) za (Kx (g:=0) (r:=0) (T:=qg) (t:=qr-1) (c1:=c1) (c2:=c2) ue (ue _ rfl) (ue _ rfl) (bG _) (by rw[n2];split<;>rfl) aa (by simp only[cM,Bg];omega) (by simp only[cM,Qu];omega) ae ae ae g1 g2) ?_;rintro v bh ⟨d1,d2,j3,rfl,k1,k2,Ai,_⟩
 have Ai:j3=9664256256:=by rcases Ai with h|h<;>exact h
 subst Ai;simp only[go_sem];rw[Jo,I9];exact OC ae k1 k2
end
end Go.Abs
