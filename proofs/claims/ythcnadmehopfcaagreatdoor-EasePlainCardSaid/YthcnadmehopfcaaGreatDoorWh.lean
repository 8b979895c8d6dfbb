/- A part. -/
import Derived.Test.YthcnadmehopfcaaGreatDoorWa
set_option linter.all false
set_option maxRecDepth 100000
set_option maxHeartbeats 16000000
namespace Go.Abs
section
variable{ls:List Let}{F j n2 x:Nat}
abbrev mF(F:Nat)(ls:List Let):PV:=IF F ls (.sl (bP (ke ls))) (.sl (nP (aB ls))) (.sl (nP (jw ls ls.length))) (.mp true (pL ls ls.length)) (.sl (nP (counts ls F)))
structure eX (F:Nat) (ls:List Let):Prop where
 hl:ls.length<=1000000
 ax:B0 F ls
 cr:kL ls=true
 kinds:∀l∈ls,l.aG=true\/l.aC=true
theorem yI{a:Nat}(h:a<=9223372036854775807):IntKind.i64.wrap ((a:Int)-1)=(a:Int)-1:=by
 cases a with
 |zero=>decide
 |succ a=>rw[Hv aa h];omega
theorem ah7{a n:Nat}(hn:1<=n)(h:a+n<=9223372036854775807):IntKind.i64.wrap (((a:Int)-1)+(n:Int))=((a+n-1:Nat):Int):=by have e:((a:Int)-1)+(n:Int)=((a+n-1:Nat):Int):=aa;rw[e];exact wrap_small aa
theorem Vx(F:Nat)(ls:List Let)(i:Nat)(hl:ls.length<=1000000)(hi:i<ls.length):aK S 125 [.one (.p (mF F ls)),vi i] (ri (dr ls.length i true)):=by refine bh c125 ?_;have e:=ue (a:=i) aa;simp only[go_sem,i125,e,dr]
theorem SO(F:Nat)(ls:List Let)(i:Nat)(hl:ls.length<=1000000)(hi:i<ls.length):aK S 124 [.one (.p (mF F ls)),vi i] (ri (dr ls.length i false)):=by refine bh c124 ?_;have e1:=yI (a:=i) aa;have e2:=ah7 (a:=i) (n:=ls.length) aa aa;have e3:=uU (i+ls.length-1) ls.length;have hm:=dO (i+ls.length-1) (show 0<ls.length by omega);have e4:=ue (a:=(i+ls.length-1)%ls.length) aa;have e5:=cA (n:=2*((i+ls.length-1)%ls.length)) aa;have hz:¬((ls.length:Int)=0):=aa;simp only[go_sem,i124,e1,e2,e3,e4,e5,hz,dr]
theorem O8{v:Nat}{l:Let}(h:ls[v]?=some l)(hp:l.aG=true):(ke ls)[v]?=some (dn ls v):=by have:=(aW.1 h).1;simp[ke,uf this,iJ,h,hp]
theorem ark{v:Nat}{l:Let}(h:ls[v]?=some l)(hp:l.aG=true):(jw ls ls.length)[v]?=some (dC ls l):=by have:=(aW.1 h).1;simp[jw,this,Hb h hp]
theorem eX.Qy(ok:eX F ls){v:Nat}{l:Let}(h:ls[v]?=some l)(h2:(l.kind==2)=false):l.aG=true:=by
 rcases ok.kinds l (aU h) with hp|hc
 .exact hp
 unfold Let.aC at hc;rw[h2] at hc;cases hc
theorem aaB(ok:eX F ls)(d:Nat)(hd:d<2*ls.length+2*(aB ls).length):aK S 102 [.one (.p (mF F ls)),vi d] (ri (gH ls (aB ls) d)):=by
 have hl:=ok.hl;have fi:(aB ls).length<=1000000:=mT (wC ls ls.length) hl;have jD:∀x∈aB ls,x<ls.length/\ ∃l,ls[x]?=some l/\l.aG=true:=fun x hx=>by obtain⟨l,h1,h2⟩:=tu.1 hx;exact⟨(aW.1 h1).1,l,h1,h2⟩
 have m1:IntKind.i64.wrap (2*(ls.length:Int))=((2*ls.length:Nat):Int):=ue aa;unfold gH;by_cases h:2*ls.length<=d
 .rw[aF h];refine bh c102 ?_;have h':((2*ls.length:Nat):Int)<=(d:Int):=aa;have m2:=Yj (a:=d) (b:=2*ls.length) h aa;have m3:=wrap_small (n:=(d-2*ls.length)/2) aa;have hm:=dO ((d-2*ls.length)/2+1) (show 0<(aB ls).length by omega);have nT:¬(((aB ls).length:Int)=0):=aa;obtain⟨u,hu⟩:=aM (ls:=aB ls) (k:=(d-2*ls.length)/2) aa;have Ew:=jY hu;by_cases h2:d%2=0
  .rw[aF h2];have m4:=cA (n:=(d-2*ls.length)/2) aa;have iV:(((d%2:Nat):Int)==0)=true:=by simp[h2]
   have m5:=uU ((d-2*ls.length)/2+1) (aB ls).length;obtain⟨v,hv⟩:=aM hm;have qo:(aB ls).getD (((d-2*ls.length)/2+1)%(aB ls).length) 0=v:=by rw[di,hv];rfl
   rw[qo];obtain⟨rL,l,nQ,CL⟩:=jD v (aU hv);have Ba:=jY hv;have eS:=sa (O8 nQ CL);have pf:=Vx F ls v hl rL;have pb:=SO F ls v hl rL;cases hq:dn ls v with
   |true=>rw[hq] at eS;simp only[go_sem,i102,m1,m2,m3,m4,m5,h',iV,Ew,Ba,eS,nT,jq,fv,eo,s124,dY pb];exact⟨aH,aH⟩
   |false=>rw[hq] at eS;simp only[go_sem,i102,m1,m2,m3,m4,m5,h',iV,Ew,Ba,eS,nT,jq,fv,eo,s125,dY pf];exact⟨aH,aH⟩
  rw[ay h2];have iV:(((d%2:Nat):Int)==0)=false:=by simp;omega
  have qo:(aB ls).getD ((d-2*ls.length)/2) 0=u:=by rw[di,hu];rfl
  rw[qo];obtain⟨rL,l,nQ,CL⟩:=jD u (aU hu);have eS:=sa (O8 nQ CL);have pf:=Vx F ls u hl rL;have pb:=SO F ls u hl rL;cases hq:dn ls u with
  |true=>rw[hq] at eS;simp only[go_sem,i102,m1,m2,m3,h',iV,Ew,eS,jq,fv,eo,s125,dY pf];exact aH
  |false=>rw[hq] at eS;simp only[go_sem,i102,m1,m2,m3,h',iV,Ew,eS,jq,fv,eo,s124,dY pb];exact aH
 rw[ay h];have h':¬(((2*ls.length:Nat):Int)<=(d:Int)):=aa;have m3:=wrap_small (n:=d/2) aa;have iu:¬((ls.length:Int)=0):=aa;have nT:=dO (d/2+1) (show 0<ls.length by omega);have m4:=cA (n:=d/2) aa;have m5:=uU (d/2+1) ls.length;have body:∀v:Nat,v<ls.length->∀fw:Bool,v=(if fw then (d/2+1)%ls.length else d/2)->(((d%2:Nat):Int)==0)=fw->aK S 102 [.one (.p (mF F ls)),vi d] (ri ((match ls[v]? with
   |none=>0
   |some l=>if l.kind==2 then dr ls.length (fG ls v) (fw==(l.over==(l.sign==1)))
    else if dn ls v==fw then 2*ls.length+2*(aB ls).idxOf v else 2*ls.length+2*(((aB ls).idxOf v+(aB ls).length-1)%(aB ls).length)+1:Nat):Int)):=by
  intro v hv fw fe qN;obtain⟨l,nQ⟩:=aM hv;have fO:=ia nQ;rw[nQ];simp only;refine bh c102 ?_;cases hk:(l.kind==2) with
  |true=>
   have hc:l.aC=true:=hk;have cP:(l.kind==1)=false:=by simp only[dI] at hk;rw[hk];rfl
   obtain⟨EE,Nf⟩:=QT ok.cr nQ hc;have hf:=ab7 ls ls.length l.id;rw[aF (Ql (aU nQ) hc)] at hf;have pf:=Vx F ls (fG ls v) hl Nf;have pb:=SO F ls (fG ls v) hl Nf;cases ho:l.over with
   |true=>
    rw[ho] at EE;have EE:fV ls ls.length l.id false=some (fG ls v):=EE;simp only[qI,EE] at hf;simp only[BO] at hf;cases hs:(l.sign==1) with
    |true=>
     cases fw with
     |true=>have fe:v=(d/2+1)%ls.length:=fe;rw[fe] at fO hf pf pb ⊢;simp only[go_sem,i102,m1,m3,m4,m5,h',qN,fO,Let.ps,iu,cP,ho,hs,jq,fv,eo,mapOf,mapVal,iw,hf,s125,dY pf];exact⟨aH,aH⟩
     |false=>have fe:v=d/2:=fe;rw[fe] at fO hf pf pb ⊢;simp only[go_sem,i102,m1,m3,h',qN,fO,Let.ps,cP,ho,hs,jq,fv,eo,mapOf,mapVal,iw,hf,s124,dY pb];exact⟨aH,aH⟩
    |false=>
     cases fw with
     |true=>have fe:v=(d/2+1)%ls.length:=fe;rw[fe] at fO hf pf pb ⊢;simp only[go_sem,i102,m1,m3,m4,m5,h',qN,fO,Let.ps,iu,cP,ho,hs,jq,fv,eo,mapOf,mapVal,iw,hf,s124,dY pb];exact⟨aH,aH⟩
     |false=>have fe:v=d/2:=fe;rw[fe] at fO hf pf pb ⊢;simp only[go_sem,i102,m1,m3,h',qN,fO,Let.ps,cP,ho,hs,jq,fv,eo,mapOf,mapVal,iw,hf,s125,dY pf];exact⟨aH,aH⟩
   |false=>
    rw[ho] at EE;have EE:fV ls ls.length l.id true=some (fG ls v):=EE;simp only[qI,EE] at hf;simp only[BO] at hf;cases hs:(l.sign==1) with
    |true=>
     cases fw with
     |true=>have fe:v=(d/2+1)%ls.length:=fe;rw[fe] at fO hf pf pb ⊢;simp only[go_sem,i102,m1,m3,m4,m5,h',qN,fO,Let.ps,iu,cP,ho,hs,jq,fv,eo,mapOf,mapVal,iw,hf,s124,dY pb];exact⟨aH,aH⟩
     |false=>have fe:v=d/2:=fe;rw[fe] at fO hf pf pb ⊢;simp only[go_sem,i102,m1,m3,h',qN,fO,Let.ps,cP,ho,hs,jq,fv,eo,mapOf,mapVal,iw,hf,s125,dY pf];exact⟨aH,aH⟩
    |false=>
     cases fw with
     |true=>have fe:v=(d/2+1)%ls.length:=fe;rw[fe] at fO hf pf pb ⊢;simp only[go_sem,i102,m1,m3,m4,m5,h',qN,fO,Let.ps,iu,cP,ho,hs,jq,fv,eo,mapOf,mapVal,iw,hf,s125,dY pf];exact⟨aH,aH⟩
     |false=>have fe:v=d/2:=fe;rw[fe] at fO hf pf pb ⊢;simp only[go_sem,i102,m1,m3,h',qN,fO,Let.ps,cP,ho,hs,jq,fv,eo,mapOf,mapVal,iw,hf,s124,dY pb];exact⟨aH,aH⟩
  |false=>
   have hp:=ok.Qy nQ hk;have cP:(l.kind==1)=true:=hp;have eS:=sa (O8 nQ hp);have bU:=jY (ark nQ hp);have CG:=Ij ok.ax nQ hp;have hpT:=Xw (ok.ax.eF l (aU nQ) hp);rw[Fu ok.ax.qL] at hpT;rw[CG];have MZ:¬(((aB ls).length:Int)=0):=aa;have nj:=dO (dC ls l+(aB ls).length-1) (show 0<(aB ls).length by omega);have n1:=ue (a:=dC ls l) aa;have n2:=wrap_add (a:=2*ls.length) (b:=2*dC ls l) aa;have n3:=yI (a:=dC ls l) aa;have n4:=ah7 (a:=dC ls l) (n:=(aB ls).length) aa aa;have n5:=uU (dC ls l+(aB ls).length-1) (aB ls).length;have n6:=ue (a:=(dC ls l+(aB ls).length-1)%(aB ls).length) aa;have n7:=wrap_add (a:=2*ls.length) (b:=2*((dC ls l+(aB ls).length-1)%(aB ls).length)) aa
   have n8:=cA (n:=2*ls.length+2*((dC ls l+(aB ls).length-1)%(aB ls).length)) aa;cases fw with
   |true=>
    have fe:v=(d/2+1)%ls.length:=fe;cases MH:dn ls v with
    |true=>rw[MH] at eS;rw[fe] at fO eS bU;simp only[go_sem,i102,m1,m3,m4,m5,h',qN,fO,Let.ps,iu,cP,jq,fv,eo,eS,bU,n1,n2];exact aH
    |false=>rw[MH] at eS;rw[fe] at fO eS bU;simp only[go_sem,i102,m1,m3,m4,m5,h',qN,fO,Let.ps,iu,cP,jq,fv,eo,eS,bU,n3,n4,n5,n6,n7,n8,MZ];exact aH
   |false=>
    have fe:v=d/2:=fe;cases MH:dn ls v with
    |true=>rw[MH] at eS;rw[fe] at fO eS bU;simp only[go_sem,i102,m1,m3,h',qN,fO,Let.ps,cP,jq,fv,eo,eS,bU,n3,n4,n5,n6,n7,n8,MZ];exact aH
    |false=>rw[MH] at eS;rw[fe] at fO eS bU;simp only[go_sem,i102,m1,m3,h',qN,fO,Let.ps,cP,jq,fv,eo,eS,bU,n1,n2];exact aH
 have rL:(if (d%2==0)=true then (d/2+1)%ls.length else d/2)<ls.length:=by
  split
  .exact nT
  omega
 have:=body _ rL (d%2==0) rfl (by cases hq:(d%2==0)<;>simp at hq ⊢ <;>omega);exact this
abbrev aS(ls:List Let):Nat->Nat:=gH ls (aB ls)
theorem amv(ok:eX F ls){Q:dD}:
  ∀(fuel x:Nat) (sn:List Bool) (ak:Env) (aj:aA),ak 0=.one (.p (mF F ls))->ak 4=.one (.hsl 5056128064 1 1 0 sn.length)->aj 5056128064=(1,some (.arr 4 1 (bP sn)))->
   ak 7=vi x->x<sn.length->sn.length=2*ls.length+2*(aB ls).length->yG sn<fuel->
   (∀aD ao,aD 0=ak 0->aD 4=ak 4->aD 5=ak 5->aD 24=ak 24->aD 25=ak 25->ao 5056128064=(1,some (.arr 4 1 (bP (eV (aS ls) fuel x sn).2)))->Q .normal aD ao)->
   W S .all (.loop i79_l1) (lU 2 Q) ak aj:=by
 have fi:(aB ls).length<=1000000:=mT (wC ls ls.length) ok.hl;have jD:∀x∈aB ls,x<ls.length:=fun x h=>OX h;have hp:∀v l,ls[v]?=some l->(l.kind==2)=false->v∈aB ls:=fun v l hv h2=>tu.2 ⟨l,hv,ok.Qy hv h2⟩;intro fuel
 induction fuel with
 |zero=>intro x sn ak aj _ _ _ _ _ _ h;omega
 |succ fuel ih=>
  intro x sn ak aj h0 h4 hS h7 hx hsl hu hq;obtain⟨b,hb⟩:=aM hx;have ki:=sa hb;have vq:sn.getD x true=b:=by rw[di,hb];rfl
  unfold eV at hq;rw[vq] at hq;refine rm ?_;cases b with
  |true=>simp only[go_sem,i79_l1,h4,hS,h7,hx,ki];refine hq _ _ ?_ ?_ ?_ ?_ ?_ hS;all_goals simp only[go_sem,h4]
  |false=>
   have zU:=On hb;have pt:=aaB ok x aa;have js:=RX (d:=x) jD hp aa;have gQ:=Ik sn x true;simp only[go_sem,i79_l1,h0,h4,hS,h7,hx,ki,gQ,s102,dY pt];refine ih (gH ls (aB ls) x) (sn.set x true) _ _ ?_ ?_ ?_ ?_ (by simpa [hsl] using js) (by simpa using hsl) aa ?_
   .simp only[go_sem,h0]
   .simp only[go_sem,h4,tk]
   .simp only[go_sem]
   .simp only[go_sem]
   intro aD ao q0 q4 q5 qw By b1;refine hq aD ao ?_ ?_ ?_ ?_ ?_ b1
   .rw[q0];simp only[go_sem]
   .rw[q4];simp only[go_sem]
   .rw[q5];simp only[go_sem]
   .rw[qw];simp only[go_sem]
   rw[By];simp only[go_sem]
theorem amy(ok:eX F ls):aK S 79 [.one (.p (mF F ls))] (rb (lh ls==aw Let.aG ls+aw Let.aC ls/2+2)):=by
 have hl:=ok.hl;have fi:(aB ls).length<=ls.length:=wC ls ls.length;have m1:=ue (a:=ls.length) aa;have m2:=ue (a:=(aB ls).length) aa;have m3:=wrap_add (a:=2*ls.length) (b:=2*(aB ls).length) aa;have kx:2*ls.length+2*(aB ls).length<=140737488355328:=aa;have vC:List.replicate (2*ls.length+2*(aB ls).length) [PV.bool false]=bP (List.replicate (2*ls.length+2*(aB ls).length) false):=af;have nj:(pL ls ls.length).length=aw Let.aC ls/2:=by have:=ok.cr;unfold kL at this;simp only[cN,dI] at this;simp[pL,this.2]
 have tH:aw Let.aC ls<=ls.length:=tx _ _;refine bh c79 ?_;simp only[go_sem,i79,m1,m2,m3,kx,vC];refine⟨aH,?_⟩;generalize hN:2*ls.length+2*(aB ls).length=N at kx;refine cU (fun k ak aj=>ak 0=.one (.p (mF F ls))/\ak 4=.one (.hsl 5056128064 1 1 0 N)/\aj 5056128064=(1,some (.arr 4 1 (bP (dG (aS ls) N k).2)))/\
   ak 5=vi (dG (aS ls) N k).1.length/\ak 24=vi N/\ak 25=vi k) 0 N (bl _) ?_ ?_
 .simp only[go_sem];exact⟨rfl,rfl,rfl⟩
 rintro k ak aj hk ⟨h0,h4,hS,h5,lY,lZ⟩
 have hlen:=Hr (aS ls) N k;have Ey:=Ot (aS ls) N k;by_cases au:k<N
 .have aL:((k:Int)<(N:Int)):=aa;have w1:=cA (n:=k) aa;have hs:=yH (aS ls) N k;generalize cX:dG (aS ls) N k=st at hlen hs hS h5 Ey;obtain⟨out,sn⟩:=st;simp only at hlen hS h5 Ey;obtain⟨b,hb⟩:=aM (ls:=sn) (k:=k) aa;have ki:=sa hb;unfold uX at hs;have vq:sn.getD k true=b:=by rw[di,hb];rfl
  simp only[vq] at hs;cases b with
  |true=>have hs:dG (aS ls) N (k+1)=(out,sn):=hs;simp only[go_sem,i79_l3,i79_r2,h0,h4,hS,h5,lY,lZ,au,aL,ki,w1,hs]
  |false=>
   have hs:dG (aS ls) N (k+1)=(out++[(eV (aS ls) (N+1) k sn).1],(eV (aS ls) (N+1) k sn).2):=by rw[hs,hlen];rfl
   have hul:=KP sn;have w2:=cA (n:=out.length) aa;simp only[go_sem,i79_l3,h4,hS,h5,lY,lZ,au,aL,ki,w2];refine amv ok (N+1) k sn _ _ ?_ ?_ ?_ ?_ aa aa aa ?_
   .simp only[go_sem,h0]
   .simp only[go_sem,h4,hlen]
   .simp only[go_sem,hS]
   .simp only[go_sem]
   intro aD ao q0 q4 q5 qw By b1;simp only[go_sem,h0,h4,h5,lY,lZ] at q0 q4 q5 qw By;simp only[go_sem,i79_r2,q0,q4,q5,qw,By,b1,w1,hs,au];simp
 have:k=N:=aa;subst this;have he:lh ls=(dG (aS ls) k k).1.length:=by unfold lh gI aS;rw[hN]
 rw[<- he] at h5;have w3:=wrap_add (a:=(aB ls).length) (b:=aw Let.aC ls/2) aa;have w4:IntKind.i64.wrap ((((aB ls).length+aw Let.aC ls/2:Nat):Int)+2)=(((aB ls).length+aw Let.aC ls/2+2:Nat):Int):=wrap_add (a:=(aB ls).length+aw Let.aC ls/2) (b:=2) aa;have hb:(((lh ls:Nat):Int)==(((aB ls).length+aw Let.aC ls/2+2:Nat):Int))=(lh ls==aw Let.aG ls+aw Let.aC ls/2+2):=by
  rw[Ii];cases h:(lh ls==aw Let.aG ls+aw Let.aC ls/2+2) with
  |true=>simp at h ⊢;omega
  |false=>simp at h ⊢;omega
 simp only[go_sem,i79_l3,i79_r4,h0,h5,lY,lZ,dT,zX,nj,w3,w4,hb];exact aH
abbrev Lj(id:Nat):Prop:=id=1664320128\/(iN id=49\/iN id=77\/iN id=78)
def alj(F:Nat)(ls:List Let)(g:Nat)(aj:aA):Prop:= ∃g1 g2 g3 g4 g5,
 aj 1664320128=(g,some (.var (vg F ls (hs 4928128448 g2 ls.length) (hs 4929344128 g5 (aB ls).length) (hs 4928192448 g3 ls.length) (.jW 4992256064 g4) (hs 4928064448 g1 (F+1)))))/\
 aj 4928064448=(g1,some (.arr 3 1 (nP (counts ls F))))/\aj 4928128448=(g2,some (.arr 4 1 (bP (ke ls))))/\aj 4928192448=(g3,some (.arr 3 1 (nP (jw ls ls.length))))/\
 aj 4929344128=(g5,some (.arr 3 1 (nP (aB ls))))/\aj 4992256064=(g4,some (.map true (pL ls ls.length)))
def RZ(F:Nat)(ls:List Let):Bool:=decide (ls=[])||lz F ls
def X9(F:Nat)(ls:List Let)(g:Nat)(nL:aA)(v:V)(ao:aA):Prop:=v=vb (RZ F ls)/\Kept Lj nL ao/\(ls≠[]->lz F ls=true->alj F ls g ao)/\(ls=[]->ao 1664320128=nL 1664320128)
theorem XQ:S.sites 49=[49,77,78]:=ah
theorem aha:S.sites 77=[77]:=ah
theorem ahb:S.sites 78=[78]:=ah
theorem Kept.R6{K K':Nat->Prop}{a b:aA}(h:Kept K a b)(hk:∀id,K id->K' id):Kept K' a b:=fun id hn=>h id fun hh=>hn (hk id hh)
abbrev Dt(g:Nat):List (List C):=[[.hfn 75 [.aY 1664320128 g 0] []],[.hfn 76 [.aY 1664320128 g 0] []],[.hfn 77 [.aY 1664320128 g 0] []],[.hfn 78 [.aY 1664320128 g 0] []],[.hfn 79 [.aY 1664320128 g 0] []]]
section
variable {al:Al} {Q:dD} {ak:Env} {aj:aA} {g g0:Nat}
theorem Yd(k:Nat){f:Nat}{dv:PV}{r:List Nat}{b:Bool}(hk:k<5)(hf:(Dt g)[k]?=some [.hfn f [.aY 1664320128 g 0] []])(JA:S.shared f=false)(oV:al.ok 3136192640=true)
  (rD:ak 22=.one (hs 3136192640 g0 5)) (lX:ak 23=vi 5) (lY:ak 24=vi k) (bV:aj 3136192640=(g0,some (.iI 27 1 (Dt g))))
  (l8:nA aj (.one (.aY 1664320128 g 0))=some (.one (.p dv),r)) (hr:al.ft r=true) (hp:aK S f [.one (.p dv)] (rb b))
  (V0:b=false->∀aD,aD 2=vb false->Q .ret aD aj)
  (WB:b=true->∀aD,aD 22=.one (hs 3136192640 g0 5)->aD 23=vi 5->aD 24=vi ((k+1:Nat):Int)->W S al (.loop i49_l1) Q aD aj):W S al (.loop i49_l1) Q ak aj:=by
 refine rm ?_;have au:((k:Int)<5):=aa;have w1:=cA (n:=k) aa;cases b with
 |false=>simp only[go_sem,i49_l1,rD,lX,lY,bV,au,hk,hf,JA,oV,↓l8,acu hp,hr];exact V0 rfl _ (by simp only[go_sem])
 |true=>
  simp only[go_sem,i49_l1,rD,lX,lY,bV,au,hk,hf,JA,oV,↓l8,acu hp,hr,w1];refine WB rfl _ ?_ ?_ ?_
  .simp only[go_sem,rD]
  .simp only[go_sem,lX]
  simp only[go_sem]
theorem ahW(k:Nat){f:Nat}{P:V->aA->Prop}{b:Bool}(hk:k<5)(hf:(Dt g)[k]?=some [.hfn f [.aY 1664320128 g 0] []])(JA:S.shared f=true)(oV:al.ok 3136192640=true)
  (rD:ak 22=.one (hs 3136192640 g0 5)) (lX:ak 23=vi 5) (lY:ak 24=vi k) (bV:aj 3136192640=(g0,some (.iI 27 1 (Dt g))))
  (hh:al.holds (allow (S.ctx al) f [.one (.aY 1664320128 g 0)] aj)=true) (h:∃v ao,iF S f [.one (.aY 1664320128 g 0)] (allow (S.ctx al) f [.one (.aY 1664320128 g 0)] aj) aj v ao/\P v ao)
  (hP:∀v ao,P v ao->v=vb b)
  (V0:b=false->∀v aD ao,P v ao->aD 2=vb false->Q .ret aD ao)
  (WB:b=true->∀v aD ao,P v ao->aD 22=.one (hs 3136192640 g0 5)->aD 23=vi 5->aD 24=vi ((k+1:Nat):Int)->W S al (.loop i49_l1) Q aD ao):W S al (.loop i49_l1) Q ak aj:=by
 refine rm ?_;have au:((k:Int)<5):=aa;have w1:=cA (n:=k) aa;simp only[go_sem,i49_l1,rD,lX,lY,bV,au,hk,hf,JA,oV];refine qK hh h fun v ao hp=>?_;have hv:=hP v ao hp;subst hv;cases b with
 |false=>simp only[go_sem];exact V0 rfl _ _ _ hp (by simp only[go_sem])
 |true=>
  simp only[go_sem,lY,w1];refine WB rfl _ _ _ hp ?_ ?_ ?_
  .simp only[go_sem,rD]
  .simp only[go_sem,lX]
  simp only[go_sem]
end
theorem avb{al:Al}(okD:al.ok 1664320128=true)(okf:∀id,(iN id=49\/iN id=77\/iN id=78)->al.ok id=true)(f1:al.fs.contains 77=true)(f2:al.fs.contains 78=true)
  {aj:aA} {g F:Nat} {ls:List Let} (hl:ls.length<=1000000) (hF:F<=1000000)
  (bD:aj 1664320128=(g,some (.var (vg F ls (.p .nils) (.p .nils) (.p .nils) (.p .qU) (.p .nils))))):∃v ao,iF S 49 [.one (.aY 1664320128 g 0)] al aj v ao/\X9 F ls g aj v ao:=by
 have oV:=okf 3136192640 (.inl rfl);refine mA c49 (ig rfl) ?_;by_cases he:ls=[]
 .subst he;have hz:(((0:Nat):Int)==0)=true:=ae;simp only[go_sem,i49,bD,hz,okD];exact⟨rfl,Kept.refl _ _,fun h=>absurd rfl h,fun _=>rfl⟩
 have gE:=jf.2 he;have Gu:(((ls.length:Nat):Int)==0)=false:=by simp;omega
 obtain⟨l0,h0⟩:=aM gE;have rF:decide (ls=[])=false:=by simp[he]
 have pl:=alk F ls (.sl []) (.sl []) (.sl []) .qU (.sl []) hl ⟨rfl,rfl,rfl,rfl,rfl⟩;have pb:=ale F ls l0 (.sl []) (.sl []) (.sl []) .qU (.sl []) hl h0;have adh:=W3 (F:=F) (ls:=ls);have fail:∀aD ao,Kept Lj aj ao->lz F ls=false->aD 2=vb false->lU 0 (yF S al i49_r2 (mH al [(2,none)] (X9 F ls g aj))) .ret aD ao:=fun aD ao hk hv h2=>by simp only[go_sem,h2];exact⟨by rw[RZ,rF,hv];rfl,hk,fun _ h=>(by rw[hv] at h;cases h),fun h=>absurd h he⟩
 have noL:wZ F ls=false->lz F ls=false:=fun h=>by simp[lz,h]
 have Xh:¬(ls.any (dy F)=false/\yB ls=true/\kL ls=true)->lz F ls=false:=fun h=>noL (by
  cases hq:wZ F ls with
  |false=>rfl
  |true=>exact absurd (adh.1 hq) h)
 simp only[go_sem,i49,bD,Gu,okD,oV];have cP:Kept Lj aj (dJ aj 3136192640 ((aj 3136192640).1+1,some (.iI 27 1 (Dt g)))):=Kept.dJ (Kept.refl _ _) (.inr (.inl rfl)) _;generalize dd:dJ aj 3136192640 ((aj 3136192640).1+1,some (.iI 27 1 (Dt g)))=bQ;rw[dd] at cP;have bV:bQ 3136192640=((aj 3136192640).1+1,some (.iI 27 1 (Dt g))):=by rw[<- dd];simp only[go_sem]
 have bD:bQ 1664320128=(g,some (.var (vg F ls (.p .nils) (.p .nils) (.p .nils) (.p .qU) (.p .nils)))):=by rw[<- dd];simp only[go_sem,bD]
 clear dd;have l8:nA bQ (.one (.aY 1664320128 g 0))=some (.one (.p (IF F ls (.sl []) (.sl []) (.sl []) .qU (.sl []))),[1664320128]):=by simp only[go_sem,bD]
 have qk:al.ft [1664320128]=true:=by simp only[go_sem,okD]
 refine Yd 0 aa rfl s75 oV (by simp only[go_sem]) (by simp only[go_sem];rfl) (by simp only[go_sem];rfl) bV l8 qk pl (fun hb aD h2=>fail aD bQ cP (Xh fun h=>by simp[h.1] at hb) h2) (fun hb aD Ae tW qw=>?_);have dd:ls.any (dy F)=false:=by simpa using hb
 have tG:∀l∈ls,dy F l=false:=fun l hl=>by simpa using HD.1 dd l hl
 have hg:qL F ls:=fun l hl hp=>((sY hp).1 (tG l hl)).1.1.1;refine Yd 1 aa rfl s76 oV Ae tW qw bV l8 qk pb (fun hb aD h2=>fail aD bQ cP (by simp only[lz,h0,hb];rfl) h2) (fun hbg aD Ae tW qw=>?_);clear hb;have Np:jc bQ (.one (.aY 1664320128 g 0))=[1664320128]:=by rw[Kv bD];simp[Ku]
 refine ahW (b:=yB ls) 2 aa rfl ah oV Ae tW qw bV ?_ (asg (r7 (by simp[Np])) (fun id h=>um (by rw[aha,h];rfl)) hl hF hg bD) (fun v ao h=>h.1) ?_ ?_
 .refine holds_of ?_ ?_
  .show al.ft ([V.one (.aY 1664320128 g 0)].map (jc bQ)).flatten=true;simp only[dK,j7,Np,lQ,HE,jP];exact qk
  show(S.sites 77).all al.fs.contains=true;rw[aha];simp only[mw,pP,f1];rfl
 .intro hb v aD ao hp h2;exact fail aD ao (cP.trans (hp.2.1.R6 fun id h=>h.elim .inl fun h=>.inr (.inr (.inl h)))) (Xh fun h=>by rw[h.2.1] at hb;cases hb) h2
 intro k9 v aD bj hp Ae tW qw;obtain⟨_,jk,vA⟩:=hp;obtain⟨g1,g2,g3,g5,bD,bC,bW,oO,bA⟩:=vA k9;have jD:B0 F ls:=by obtain⟨a,b⟩:=(N8 hg).1 k9;exact⟨a,b⟩
 rw[ajG jD] at bA;rw[Fu hg] at bD;have bV:bj 3136192640=((aj 3136192640).1+1,some (.iI 27 1 (Dt g))):=by rw[<- bV];exact jk _ ae
 have adb:Kept Lj aj bj:=cP.trans (jk.R6 fun id h=>h.elim .inl fun h=>.inr (.inr (.inl h)));have oC:=okf 4928064448 (.inr (.inl rfl));have oW:=okf 4928128448 (.inr (.inl rfl));have oP:=okf 4928192448 (.inr (.inl rfl));have oA:=okf 4929344128 (.inr (.inl rfl));have oM:=okf 4992256064 (.inr (.inr rfl));have Nq:jc bj (.one (.aY 1664320128 g 0))=[1664320128,4928128448,4929344128,4928192448,4928064448]:=by rw[Kv bD];simp only[dK,j7,Ku,Dj bW,Dj bA,Dj oO,Dj bC,lQ,HE,fY,jP,yM]
 refine ahW (b:=kL ls) 3 aa rfl ah oV Ae tW qw bV ?_ (alf (r7 (by simp[Nq])) (fun id h=>um (by rw[ahb,h];rfl)) hl bD) (fun v ao h=>h.1) ?_ ?_
 .refine holds_of ?_ ?_
  .show al.ft ([V.one (.aY 1664320128 g 0)].map (jc bj)).flatten=true;simp only[dK,j7,Nq,lQ,HE,jP,Kk,GY,okD,oC,oW,oP,oA,vY]
  show(S.sites 78).all al.fs.contains=true;rw[ahb];simp only[mw,pP,f2];rfl
 .intro hb v aD ao hp h2;exact fail aD ao (adb.trans (hp.2.1.R6 fun id h=>h.elim .inl fun h=>.inr (.inr (.inr h)))) (Xh fun h=>by rw[h.2.2] at hb;cases hb) h2
 intro eI v aD fT hp Ae tW qw;obtain⟨_,hk3,hr3⟩:=hp;obtain⟨g4,bD,bM⟩:=hr3 eI;have kp:∀id,iN id=77->fT id=bj id:=fun id h=>hk3 id (by
  rintro (e|e)
  .rw[e] at h;revert h;decide
  rw[e] at h;revert h;decide)
 rw[<- kp _ rfl] at bC bW oO bA;have bV:fT 3136192640=((aj 3136192640).1+1,some (.iI 27 1 (Dt g))):=by rw[<- bV];exact hk3 _ ae
 have ade:Kept Lj aj fT:=adb.trans (hk3.R6 fun id h=>h.elim .inl fun h=>.inr (.inr (.inr h)));have ok:eX F ls:=⟨hl,jD,eI,fun l hl=>yX (tG l hl)⟩;have pf:=amy ok;have hlR:wZ F ls=true:=adh.2 ⟨dd,k9,eI⟩;have hvr:lz F ls=(lh ls==aw Let.aG ls+aw Let.aC ls/2+2):=by
  have acW:(l0.kind==1)=true/\(aw Let.aG ls%2==0)=true:=by simpa using hbg
  simp only[lz,h0,acW.1,acW.2,hlR,An]
 have t1:List.take ls.length (bP (ke ls))=bP (ke ls):=fR (by simp[ke]);have t2:List.take (aB ls).length (nP (aB ls))=nP (aB ls):=fR af;have t3:List.take ls.length (nP (jw ls ls.length))=nP (jw ls ls.length):=fR (by simp[jw]);have t4:List.take (F+1) (nP (counts ls F))=nP (counts ls F):=fR (by simp[counts]);have n1:ls.length<=(ke ls).length:=by simp[ke]
 have n3:ls.length<=(jw ls ls.length).length:=by simp[jw]
 have n4:F+1<=(counts ls F).length:=by simp[counts]
 have l8:nA fT (.one (.aY 1664320128 g 0))=some (.one (.p (mF F ls)),[1664320128,4928128448,4929344128,4928192448,4992256064,4928064448]):=by simp only[go_sem,ahl,bD,bW,bA,oO,bC,bM,XW,t1,t2,t3,t4,n1,n3,n4]
 have qk:al.ft [1664320128,4928128448,4929344128,4928192448,4992256064,4928064448]=true:=by simp only[Kk,GY,okD,oC,oW,oP,oA,oM,vY]
 refine Yd 4 aa rfl s79 oV Ae tW qw bV l8 qk pf (fun hb aD h2=>fail aD fT ade (by rw[hvr];exact hb) h2) (fun xY aD Ae tW qw=>?_);have hv:lz F ls=true:=by rw[hvr];exact xY
 refine rm ?_;have n5:¬((((4+1:Nat)):Int)<5):=ae;simp only[go_sem,i49_l1,i49_r2,tW,qw,n5];exact⟨by rw[RZ,rF,hv];rfl,ade,fun _ _=>⟨g1,g2,g3,g4,g5,bD,bC,bW,oO,bA,bM⟩,fun h=>absurd h he⟩
abbrev zh(f:Int):PV:=IF f [] (.sl []) (.sl []) (.sl []) .qU (.sl [])
abbrev yC(a b:PV):RV:=.tup [.one (.p a),.one (.p b)]
def Hg(f:Int)(ls:List Let):RV:=if cQ f ls=0 then yC (if ls=[] then zh f else mF f.toNat ls) (.int .i64 0) else yC .uP (.int .i64 (cQ f ls))
theorem gR{aj:aA}{s:Nat}{a b:PV}{l:Bool}:land aj [] s ((yC a b).fP l)=some (.tup [.one (.p a),.one (.p b)],[]):=by cases l<;>rfl
theorem N9{f:Int}{e:Int}(h:cQ f ls=e)(he:e≠0):Hg f ls=yC .uP (.int .i64 e):=by unfold Hg;rw[h,ay he]
theorem Kw{f:Int}(h:cQ f ls=0):Hg f ls=yC (if ls=[] then zh f else mF f.toNat ls) (.int .i64 0):=by unfold Hg;rw[aF h]
theorem Oa(f:Int)(ls:List Let)(hl:ls.length<=1000000):aK S 26 [dR f ls] (Hg f ls):=by
 have pc:=Tn f ls hl;refine bh c26 ?_;by_cases h1:400<ls.length
 .have jB:(400:Int)<(ls.length:Int):=aa;rw[N9 (e:=7) (by unfold cQ;rw[aF (Or.inl h1)]) ae];simp only[go_sem,i26,jB];rfl
 have jB:¬(400:Int)<(ls.length:Int):=aa;by_cases h2:200<aw Let.aC ls
 .have iV:(200:Int)<(aw Let.aC ls:Int):=aa;rw[N9 (e:=7) (by unfold cQ;rw[aF (Or.inr h2)]) ae];simp only[go_sem,i26,jB,iV,s48,dY pc];rfl
 have iV:¬(200:Int)<(aw Let.aC ls:Int):=aa;have n1:¬(400<ls.length\/200<aw Let.aC ls):=aa;by_cases h3:f<0
 .rw[N9 (e:=2) (by unfold cQ;rw[ay n1,aF (Or.inl h3)]) ae];simp only[go_sem,i26,jB,iV,h3,s48,dY pc];rfl
 by_cases h4:40<f
 .rw[N9 (e:=2) (by unfold cQ;rw[ay n1,aF (Or.inr h4)]) ae];simp only[go_sem,i26,jB,iV,h3,h4,s48,dY pc];rfl
 have n2:¬(f<0\/40<f):=aa;obtain⟨F,rfl⟩:=th (show 0<=f by omega);have iv:S.shared 49=true:=ah;simp only[go_sem,i26,jB,iV,h3,h4,s48,dY pc,iv];refine qK (P:=X9 F ls 1 _) yj (avb (F:=F) (ls:=ls) ?_ ?_ ?_ ?_ hl aa ?_) ?_
 .refine r7 ?_;rw[dK,j7,Kv (g0:=1) (cs:=vg F ls (.p .nils) (.p .nils) (.p .nils) (.p .qU) (.p .nils)) (by simp only[go_sem])];simp
 .intro id h;refine um ?_;rw[XQ];rcases h with h|h|h<;>rw[h]<;>rfl
 .show(S.sites 49).contains _=true;rw[XQ];rfl
 .show(S.sites 49).contains _=true;rw[XQ];rfl
 .simp only[go_sem]
 rintro v ao ⟨rfl,hk,hr,hz⟩
 unfold RZ;by_cases he:ls=[]
 .have hc:cQ F ls=0:=by unfold cQ;rw[ay n1,ay n2,aF he]
  have bD:=hz he;rw[Kw hc,aF he];have rF:(decide (ls=[])||lz F ls)=true:=by simp[he]
  rw[rF];subst he;simp only[go_sem] at bD;simp only[go_sem];simp only[go_sem,iE,sv,ux,ng,mj,jv,bD];rfl
 have rF:decide (ls=[])=false:=by simp[he]
 cases hv:lz F ls with
 |false=>rw[N9 (e:=3) (by unfold cQ;rw[ay n1,ay n2,ay he,hv];rfl) ae];rw[rF,BP];simp only[go_sem];rfl
 |true=>
  have hc:cQ F ls=0:=by unfold cQ;rw[ay n1,ay n2,ay he,hv];rfl
  rw[Kw hc,ay he];obtain⟨g1,g2,g3,g4,g5,bD,bC,bW,oO,bA,bM⟩:=hr he hv;have hFn:(F:Int).toNat=F:=rfl;rw[hFn];have t1:List.take ls.length (bP (ke ls))=bP (ke ls):=fR (by simp[ke]);have t2:List.take (aB ls).length (nP (aB ls))=nP (aB ls):=fR af;have t3:List.take ls.length (nP (jw ls ls.length))=nP (jw ls ls.length):=fR (by simp[jw]);have t4:List.take (F+1) (nP (counts ls F))=nP (counts ls F):=fR (by simp[counts]);have n1:ls.length<=(ke ls).length:=by simp[ke]
  have n3:ls.length<=(jw ls ls.length).length:=by simp[jw]
  have n4:F+1<=(counts ls F).length:=by simp[counts]
  rw[rF,BP];simp only[go_sem];simp only[go_sem,iE,sv,ux,ng,mj,jv,ahl,bD,bW,bA,oO,bC,bM,XW,t1,t2,t3,t4,n1,n3,n4];rfl
theorem aku(f:Int)(ls:List Let)(hl:ls.length<=1000000):aK S 35 [dR f ls] (ri (cQ f ls)):=by
 have pr:=Oa f ls hl;refine bh c35 ?_;unfold Hg at pr;by_cases h:cQ f ls=0
 .rw[aF h] at pr;simp only[go_sem,i35,s26,cV pr gR,h]
 rw[ay h] at pr;simp only[go_sem,i35,s26,cV pr gR]
abbrev oD(k a b c:Int)(l o:Bool)(s:Int):V:=.agg [.p (.int .i64 k),.p (.int .i64 a),.p (.int .i64 b),.p (.int .i64 c),.p (.bool l),.p (.bool o),.p (.int .i64 s)]
abbrev qX(e:Int):RV:=.tup [.agg [.p (.int .i64 0),.p .nils],.one (.p (.int .i64 e))]
theorem apc{aj:aA}{s:Nat}{e:Int}{l:Bool}:land aj [] s ((qX e).fP l)=some (.tup [.agg [.p (.int .i64 0),.p .nils],.one (.p (.int .i64 e))],[]):=by cases l<;>rfl
section
variable {f:Int} {ls:List Let} {e:Int}
abbrev kinds(k:Nat):List Nat:=(List.range k).map (· +1)
end
def eE(n v:Nat)(fw:Bool):Nat:=if fw then 2*((v+n-1)%n) else 2*v+1
def lvV(n e:Nat):Nat:=if e%2=0 then e/2 else (e/2+1)%n
theorem w9{n v:Nat}(hv:v<n):((v+n-1)%n+1)%n=v:=by
 by_cases h:v=0
 .subst h;rw[iQ,dV (show n-1<n by omega),show n-1+1=n by omega,rh]
 rw[show v+n-1=(v-1)+n by omega,qA,dV (show v-1<n by omega),show v-1+1=v by omega,dV hv]
theorem EP{n v:Nat}(hv:v<n):((v+1)%n+n-1)%n=v:=by
 by_cases h:v+1=n
 .rw[h,rh,iQ,dV (show n-1<n by omega)];omega
 rw[dV (show v+1<n by omega),show v+1+n-1=v+n by omega,qA,dV hv]
theorem ae9{n v:Nat}(hv:v<n)(g:Bool):lvV n (dr n v g)=v/\(dr n v g%2==0)=g:=by
 unfold lvV dr;cases g with
 |true=>have h1:(2*v)%2=0:=aa;simp only[if_true,h1];exact⟨aa,rfl⟩
 |false=>have h1:(2*((v+n-1)%n)+1)%2=1:=aa;have h2:(2*((v+n-1)%n)+1)/2=(v+n-1)%n:=aa;simp only[dx,if_false,h1,h2,Sn,w9 hv];exact⟨trivial,rfl⟩
def Kp(ls:List Let)(ax:List Nat)(e:Nat):Nat:=
 if 2*ls.length<=e then
  if e%2=0 then eE ls.length (ax.getD ((e-2*ls.length)/2) 0) (dn ls (ax.getD ((e-2*ls.length)/2) 0))
  else eE ls.length (ax.getD (((e-2*ls.length)/2+1)%ax.length) 0) (!dn ls (ax.getD (((e-2*ls.length)/2+1)%ax.length) 0))
 else
  let v:=lvV ls.length e
  let g:=e%2==0
  match ls[v]? with
  |none=>0
  |some l=>if l.kind==2 then
    match ls[fG ls v]? with
    |some u=>eE ls.length (fG ls v) (g==(u.over==(u.sign==1)))
    |none=>0
   else if g==dn ls v then 2*ls.length+2*ax.idxOf v+1 else 2*ls.length+2*((ax.idxOf v+ax.length-1)%ax.length)
theorem qW(hr:kL ls=true){i:Nat}{l:Let}(hl:ls[i]?=some l)(hc:l.aC=true):fG ls (fG ls i)=i/\ ∃m,ls[fG ls i]?=some m/\m.aC=true/\m.id=l.id/\m.over= !l.over/\m.sign=l.sign:=by
 obtain⟨h1,h2⟩:=QT hr hl hc;obtain⟨_,h3⟩:=Hq h1;obtain⟨m,hm,mc,mi,mo⟩:=A2 h3;have hp:GZ ls:=by have:=hr;unfold kL at this;simp only[cN,dI,jd,gA] at this;exact(Hx.1 this.1.2).2
 have aI:i≠fG ls i:=by intro e;rw[<- e,hl] at hm;cases hm;revert mo;cases l.over<;>simp
 obtain⟨h4,h5⟩:=QT hr hm mc;obtain⟨_,h6⟩:=Hq h4;obtain⟨x,hx,xc,xi,xo⟩:=A2 h6;refine⟨?_,m,hm,mc,mi,mo,((hp i _ l m hl hm hc mc mi.symm aI).2).symm⟩;refine Decidable.byContradiction fun hn=>?_;have:=(hp _ i x l hx hl xc hc (by rw[xi,mi]) hn).1;rw[xo,mo] at this;revert this;cases l.over<;>simp
theorem ahL{ax:List Nat}{d v:Nat}{fw:Bool}{l:Let}(h:¬2*ls.length<=d)(xZ:(d%2==0)=fw)(hv:v=if fw then (d/2+1)%ls.length else d/2)(hl:ls[v]?=some l):
  gH ls ax d=if l.kind==2 then dr ls.length (fG ls v) (fw==(l.over==(l.sign==1)))
   else if dn ls v==fw then 2*ls.length+2*ax.idxOf v else 2*ls.length+2*((ax.idxOf v+ax.length-1)%ax.length)+1:=by
 subst xZ;subst hv;unfold gH;rw[ay h];simp only[hl]
theorem agh(ok:eX F ls){d:Nat}(hd:d<2*ls.length+2*(aB ls).length):Kp ls (aB ls) (gH ls (aB ls) d)=d:=by
 have jD:∀x∈aB ls,x<ls.length/\ ∃l,ls[x]?=some l/\l.aG=true:=fun x hx=>by obtain⟨l,h1,h2⟩:=tu.1 hx;exact⟨(aW.1 h1).1,l,h1,h2⟩
 have V4:∀ {p v:Nat},(aB ls)[p]?=some v->(aB ls).idxOf v=p:=fun {p v} hp=>by obtain⟨l,hl,CL,he⟩:=B9 ok.ax hp;rw[Ij ok.ax hl CL,he]
 have along_small:∀ {v:Nat} (g:Bool),v<ls.length-> ¬2*ls.length<=dr ls.length v g:=fun {v} g hv=>by have:=Ia (n:=ls.length) (fw:=g) hv;omega
 have notC:∀ {l:Let},l.aG=true->(l.kind==2)=false:=fun {l} h=>nz h;have fromAxis:∀ {p v:Nat} (g:Bool),(aB ls)[p]?=some v->Kp ls (aB ls) (dr ls.length v g)=if g==dn ls v then 2*ls.length+2*p+1 else 2*ls.length+2*((p+(aB ls).length-1)%(aB ls).length):=by intro p v g hp;obtain⟨hv,l,hl,CL⟩:=jD v (aU hp);obtain⟨e1,e2⟩:=ae9 hv g;unfold Kp;rw[ay (along_small g hv)];simp only[e1,e2,hl,notC CL,V4 hp];rfl
 by_cases h:2*ls.length<=d
 .unfold gH;rw[aF h];have hm:=dO ((d-2*ls.length)/2+1) (show 0<(aB ls).length by omega);by_cases h2:d%2=0
  .rw[aF h2];obtain⟨v,hv⟩:=aM hm;have qo:(aB ls).getD (((d-2*ls.length)/2+1)%(aB ls).length) 0=v:=by rw[di,hv];rfl
   rw[qo,fromAxis _ hv];have hb:((!dn ls v)==dn ls v)=false:=by cases dn ls v<;>rfl
   rw[hb,EP (show(d-2*ls.length)/2<(aB ls).length by omega)];simp only[dx,if_false];omega
  rw[ay h2];obtain⟨v,hv⟩:=aM (ls:=aB ls) (k:=(d-2*ls.length)/2) aa;have qo:(aB ls).getD ((d-2*ls.length)/2) 0=v:=by rw[di,hv];rfl
  rw[qo,fromAxis _ hv];simp only[BS,if_true];omega
 have hn:0<ls.length:=aa;have nT:=dO (d/2+1) hn;have key:∀(v:Nat) (fw:Bool),v<ls.length->(d%2==0)=fw->v=(if fw then (d/2+1)%ls.length else d/2)->eE ls.length v fw=d:=by
  intro v fw hv xZ fe;unfold eE;cases fw with
  |true=>
   have xZ:d%2=0:=by simpa using xZ
   simp only[if_true] at fe ⊢;rw[fe,EP (show d/2<ls.length by omega)];omega
  |false=>
   have xZ:d%2≠0:=by simpa using xZ
   simp only[dx,if_false] at fe ⊢;omega
 generalize hv:(if (d%2==0)=true then (d/2+1)%ls.length else d/2)=v;generalize xZ:(d%2==0)=fw at hv;have rL:v<ls.length:=by rw[<- hv];split<;>omega
 have Ep:=key v fw rL xZ hv.symm;obtain⟨l,hl⟩:=aM rL;rw[ahL h xZ hv.symm hl];cases hk:(l.kind==2) with
 |true=>
  have hc:l.aC=true:=hk;obtain⟨hb,m,hm,mc,mi,mo,ms⟩:=qW ok.cr hl hc;have Nf:=(QT ok.cr hl hc).2;rw[aF rfl];obtain⟨e1,e2⟩:=ae9 Nf (fw==(l.over==(l.sign==1)));unfold Kp;rw[ay (along_small _ Nf)];have mk:(m.kind==2)=true:=mc;simp only[e1,e2,hm,mk,if_true,hb,hl];have uD:((fw==(l.over==(l.sign==1)))==(l.over==(l.sign==1)))=fw:=by cases fw<;>cases (l.over==(l.sign==1))<;>rfl
  rw[uD];exact Ep
 |false=>
  have hp:=ok.Qy hl hk;have CG:=Ij ok.ax hl hp;have bU:=SN ok.ax hl hp;have hpT:=(aW.1 bU).1;rw[ay af,CG];cases hq:(dn ls v==fw) with
  |true=>
   simp only[if_true];unfold Kp;rw[aF aa,aF aa];have e1:(2*ls.length+2*dC ls l-2*ls.length)/2=dC ls l:=aa;have e2:(aB ls).getD (dC ls l) 0=v:=by rw[di,bU];rfl
   rw[e1,e2,show dn ls v=fw by simpa using hq];exact Ep
  |false=>
   have nj:=dO (dC ls l+(aB ls).length-1) (show 0<(aB ls).length by omega);simp only[dx,if_false];unfold Kp;rw[aF aa,ay aa];have e1:(2*ls.length+2*((dC ls l+(aB ls).length-1)%(aB ls).length)+1-2*ls.length)/2=(dC ls l+(aB ls).length-1)%(aB ls).length:=aa;have e2:(aB ls).getD (dC ls l) 0=v:=by rw[di,bU];rfl
   rw[e1,w9 hpT,e2,show(!dn ls v)=fw by revert hq;cases dn ls v<;>cases fw<;>simp];exact Ep
theorem au5(ok:eX F ls){d e:Nat}(hd:d<2*ls.length+2*(aB ls).length)(he:e<2*ls.length+2*(aB ls).length)(h:aS ls d=aS ls e):d=e:=by have h1:=agh ok hd;have h2:=agh ok he;rw[<- h1,<- h2];exact congrArg _ h
def Ks(next:Nat->Nat)(n2:Nat):Nat->Nat->List Bool->List Nat×List Bool
 |0,_,sp=>([],sp)
 |k+1,x,sp=>if x<n2 then
   if sp.getD x true then ([],sp) else (x::(Ks next n2 k (next x) (sp.set x true)).1,(Ks next n2 k (next x) (sp.set x true)).2)
  else (x::(Ks next n2 k (next x) sp).1,(Ks next n2 k (next x) sp).2)
abbrev sn(S:List Bool)(x:Nat):Bool:=S.getD x true
theorem Oi{S:List Bool}{y:Nat}(hx:x<S.length):sn (S.set x true) y=if y=x then true else sn S y:=by
 unfold sn;rw[di,di,pQ];by_cases h:x=y
 .subst h;simp[hx]
 rw[ay h,ay (fun e=>h e.symm)]
structure yQ (next:Nat->Nat) (n2 N:Nat):Prop where
 le:n2<=N
 lt:∀x,x<N->next x<N
 inj:∀x y,x<N->y<N->next x=next y->x=y
 ax:∀x,x<N->n2<=x->next x<n2
def Li(next:Nat->Nat)(N:Nat)(S:List Bool):Prop:=∀y,y<N->sn S y=sn S (next y)
structure Inv (next:Nat->Nat) (N d:Nat) (S:List Bool) (x:Nat):Prop where
 i1:∀y,y<N->sn S (next y)=true->sn S y=true\/next y=d
 i2:∀y,y<N->sn S y=true->sn S (next y)=true\/next y=x
 i4:sn S x=true->x=d
 pr:(x=d/\sn S x=false)\/ ∃p,p<N/\next p=x/\sn S p=true
theorem Inv.start{next:Nat->Nat}{N d:Nat}{S:List Bool}(h:Li next N S)(hd:sn S d=false):Inv next N d S d:=
 ⟨fun y hy hs=>.inl (by rw[h y hy];exact hs),fun y hy hs=>.inl (by rw[<- h y hy];exact hs),fun _=>rfl,.inl ⟨rfl,hd⟩⟩
theorem Inv.stop{next:Nat->Nat}{N d:Nat}{S:List Bool}(m:yQ next n2 N)(h:Inv next N d S x)(hx:sn S x=true):Li next N S:=by
 have hxd:=h.i4 hx;subst hxd;intro y hy;cases h1:sn S y with
 |true=>
  rcases h.i2 y hy h1 with h2|h2
  .rw[h2]
  rw[h2,hx]
 |false=>
  cases h2:sn S (next y) with
  |false=>rfl
  |true=>
   rcases h.i1 y hy h2 with h3|h3
   .rw[h3] at h1;cases h1
   rcases h.pr with ⟨_,h4⟩|⟨p,hp,jl,dz⟩
   .rw[hx] at h4;cases h4
   have:=m.inj y p hy hp (by rw[h3,jl]);rw[this,dz] at h1;cases h1
theorem Inv.step{next:Nat->Nat}{N d:Nat}{S:List Bool}(m:yQ next n2 N)(hl:S.length=N)(Bf:x<N)(h:Inv next N d S x)(hx:sn S x=false):Inv next N d (S.set x true) (next x):=by
 have vG:x<S.length:=aa;refine⟨fun y hy hs=>?_,fun y hy hs=>?_,fun hs=>?_,.inr ⟨x,Bf,rfl,by rw[Oi vG,aF rfl]⟩⟩
 .rw[Oi vG] at hs ⊢;by_cases e:next y=x
  .rcases h.pr with ⟨h1,_⟩|⟨p,hp,jl,dz⟩
   .exact .inr (by rw[e,h1])
   have:=m.inj y p hy hp (by rw[e,jl]);left;rw[this];split
   .rfl
   exact dz
  rw[ay e] at hs;rcases h.i1 y hy hs with h2|h2
  .left;split
   .rfl
   exact h2
  exact .inr h2
 .rw[Oi vG] at hs ⊢;by_cases e:y=x
  .subst e;exact .inr rfl
  rw[ay e] at hs;rcases h.i2 y hy hs with h2|h2
  .left;split
   .rfl
   exact h2
  left;rw[aF h2]
 rw[Oi vG] at hs;by_cases e:next x=x
 .rcases h.pr with ⟨h1,_⟩|⟨p,hp,jl,dz⟩
  .rw[e,h1]
  have:=m.inj p x hp Bf (by rw[jl,e]);rw[this,hx] at dz;cases dz
 rw[ay e] at hs;rcases h.i1 x Bf hs with h2|h2
 .rw[hx] at h2;cases h2
 exact h2
theorem XS{S:List Bool}(hx:x<n2)(hl:n2<=S.length):(S.take n2).getD x true=sn S x:=by unfold sn;rw[di,di,kJ,aF hx]
theorem ahD{S:List Bool}:(S.take n2).set x true=(S.set x true).take n2:=by rw[<- List.take_set]
theorem ahC{S:List Bool}(hx:n2<=x):(S.set x true).take n2=S.take n2:=by rw[List.take_set];exact aip (by rw[fX];omega)
theorem avl{next:Nat->Nat}{N d:Nat}(m:yQ next n2 N)(hd:d<n2):∀(fuel x:Nat) (S:List Bool),S.length=N->x<N->Inv next N d S x->yG S<fuel->
  Li next N (eV next fuel x S).2/\Ks next n2 fuel x (S.take n2)=((eV next fuel x S).1,(eV next fuel x S).2.take n2):=by
 intro fuel
 induction fuel with
 |zero=>intro x S _ _ _ h;omega
 |succ fuel ih=>
  intro x S hl hx hi hu;have hle:=m.le;unfold eV Ks;cases hs:S.getD x true with
  |true=>have hxd:=hi.i4 hs;have au:x<n2:=aa;rw[aF au,XS au aa,show sn S x=true from hs];exact⟨hi.stop m hs,rfl⟩
  |false=>
   have CU:S[x]?=some false:=by
    rw[di] at hs;cases h1:S[x]? with
    |none=>rw[h1] at hs;cases hs
    |some b=>rw[h1] at hs;exact congrArg some hs
   have zU:=On CU;obtain⟨c1,c2⟩:=ih (next x) (S.set x true) (by rw[tk,hl]) (m.lt x hx) (hi.step m hl hx hs) aa;simp only[dx,if_false];refine⟨c1,?_⟩;by_cases au:x<n2
   .rw[aF au,XS au aa,show sn S x=false from hs];simp only[dx,if_false];rw[ahD,c2]
   rw[ay au];rw[ahC aa] at c2;rw[c2]
theorem eX.jD(_:eX F ls):∀x∈aB ls,x<ls.length:=fun _ h=>OX h
theorem eX.hp(ok:eX F ls):∀v l,ls[v]?=some l->(l.kind==2)=false->v∈aB ls:=fun _ l hv h2=>tu.2 ⟨l,hv,ok.Qy hv h2⟩
abbrev nD(ls:List Let):Nat:=2*ls.length+2*(aB ls).length
theorem maps(ok:eX F ls):yQ (aS ls) (2*ls.length) (nD ls):=by
 refine⟨by unfold nD;omega,fun x hx=>RX ok.jD ok.hp hx,fun x y hx hy h=>au5 ok hx hy h,fun x hx hn=>?_⟩;have hx:x<2*ls.length+2*(aB ls).length:=hx;have CF:∀k,k<(aB ls).length->(aB ls).getD k 0<ls.length:=fun k hk=>by obtain⟨v,hv⟩:=aM hk;rw[di,hv];exact ok.jD v (aU hv)
 have hm:=dO ((x-2*ls.length)/2+1) (show 0<(aB ls).length by omega);show gH ls (aB ls) x<_;unfold gH;rw[aF hn];split
 .exact Ia (CF _ hm)
 exact Ia (CF _ aa)
theorem ah0(next:Nat->Nat):∀(k x:Nat) (S:List Bool) (y:Nat),sn S y=true->sn (eV next k x S).2 y=true:=by
 intro k
 induction k with
 |zero=>intro x S y h;exact h
 |succ k ih=>
  intro x S y h;unfold eV;split
  .exact h
  refine ih _ _ _ ?_;unfold sn;rw[di,pQ];split
  .split<;>rfl
  rw[<- di];exact h
theorem ahY(next:Nat->Nat)(k x:Nat)(S:List Bool)(hk:yG S<k):sn (eV next k x S).2 x=true:=by
 cases k with
 |zero=>omega
 |succ k=>
  unfold eV;cases hs:S.getD x true with
  |true=>simpa using hs
  |false=>
   simp only[dx,if_false];refine ah0 _ _ _ _ _ ?_;unfold sn;rw[di,pQ];split
   .split<;>rfl
   rename_i h;exact absurd rfl h
section
variable {next:Nat->Nat} {n2 N:Nat}
theorem XR(h:x<N):sn (List.replicate N false) x=false:=by unfold sn;rw[di,List.getElem?_replicate,aF h];rfl
theorem R5(m:yQ next n2 N):∀k,k<=n2->Li next N (dG next N k).2/\ ∀x,x<k->sn (dG next N k).2 x=true:=by
 intro k
 induction k with
 |zero=>intro _;refine⟨fun y hy=>?_,fun x h=>absurd h (nE x)⟩;show sn (List.replicate N false) y=sn (List.replicate N false) (next y);rw[XR hy,XR (m.lt y hy)]
 |succ k ih=>
  intro hk;obtain⟨c,s⟩:=ih aa;have hlen:=Hr next N k;have hle:=m.le;rw[yH];unfold uX;cases hs:(dG next N k).2.getD k true with
  |true=>
   simp only[if_true];refine⟨c,fun x hx=>?_⟩;rcases mU.1 hx with h|rfl
   .exact s x h
   exact hs
  |false=>
   simp only[dx,if_false];have hul:=KP (dG next N k).2;obtain⟨c1,_⟩:=avl m (show k<n2 by omega) ((dG next N k).2.length+1) k (dG next N k).2 hlen aa (Inv.start c hs) aa;refine⟨c1,fun x hx=>?_⟩;rcases mU.1 hx with h|rfl
   .exact ah0 _ _ _ _ _ (s x h)
   exact ahY _ _ _ _ aa
theorem Ye(m:yQ next n2 N):∀k,n2<=k->k<=N->dG next N k=dG next N n2:=by
 intro k
 induction k with
 |zero=>intro h _;rw[show n2=0 by omega]
 |succ k ih=>
  intro h1 h2;by_cases e:n2=k+1
  .rw[e]
  rw[yH,ih aa aa];obtain⟨c,s⟩:=R5 m n2 (bJ _);unfold uX;have:(dG next N n2).2.getD k true=true:=by have h3:=c k aa;have h4:=s (next k) (m.ax k aa aa);show sn (dG next N n2).2 k=true;rw[h3,h4]
  rw[this];rfl
end

abbrev oE(o:List (Nat×Nat)):List (List PV):=o.map fun p=>[PV.int .i64 (p.1:Int),PV.int .i64 (p.2:Int)]
def rY(g r to:Nat):List (Nat×Nat):=(g,r)::(List.range (to-g)).map fun i=>(g+1+i,0)
def ua(g to:Nat):List Nat:=(List.range (to-g)).map fun i=>g+1+i
abbrev Dg:Nat:=170
def gN (ls:List Let)(i:Nat):Nat:=match ls[i]? with|some l=>l.gate.toNat|none=>0
def rN (ls:List Let)(i:Nat):Nat:=match ls[i]? with|some l=>l.aE.toNat|none=>0
theorem F2{i:Nat}{l:Let}(h:ls[i]?=some l):gN ls i=l.gate.toNat:=by simp[gN,h]
theorem ase{i:Nat}{l:Let}(h:ls[i]?=some l):rN ls i=l.aE.toNat:=by simp[rN,h]
def tU(F:Nat)(ls:List Let)(j:Nat):List (Nat×Nat):=
 let u:=(aB ls).getD j 0
 let v:=(aB ls).getD ((j+1)%(aB ls).length) 0
 if j+1<(aB ls).length then rY (gN ls u) (rN ls u) (gN ls v) else rY (gN ls u) (rN ls u) F++rY 0 0 (gN ls v)
def Df(F:Nat)(ls:List Let)(j:Nat):List Nat:=
 let u:=(aB ls).getD j 0
 let v:=(aB ls).getD ((j+1)%(aB ls).length) 0
 if j+1<(aB ls).length then ua (gN ls u) (gN ls v) else ua (gN ls u) F++ua 0 (gN ls v)
theorem Kn(a b:List (Nat×Nat)):oE (a++b)=oE a++oE b:=af
theorem JZ(a b:List Nat):nP (a++b)=nP a++nP b:=af
theorem BG(g r to:Nat):(rY g r to).length=to-g+1:=by simp[rY]
theorem Ry(g to:Nat):(ua g to).length=to-g:=by simp[ua]
theorem ZB(ok:eX F ls)(hj:j<(aB ls).length):∃u l,(aB ls)[j]?=some u/\(aB ls).getD j 0=u/\ls[u]?=some l/\l.aG=true/\uz F ls l:=by obtain⟨u,hu⟩:=aM hj;obtain⟨l,h1,h2⟩:=tu.1 (aU hu);exact⟨u,l,hu,by rw[di,hu];rfl,h1,h2,ok.ax.eF l (aU h1) h2⟩
structure Fc where
 gb:Bool
 cG:List Nat
 places:List (Nat×Nat)
 xI:List Nat
 outer:Bool
def Fc.ps(f:Fc):List PV:=[.bool f.gb,.sl (nP f.cG),.sl (oE f.places),.sl (nP f.xI),.bool f.outer]
def Fc.add(F:Nat)(ls:List Let)(f:Fc)(x:Nat):Fc:=
 if x<2*ls.length then {f with cG:=f.cG++[x]}
 else {f with places:=f.places++(if x%2=0 then tU F ls ((x-2*ls.length)/2) else (tU F ls ((x-2*ls.length)/2)).reverse),xI:=f.xI++(if x%2=0 then Df F ls ((x-2*ls.length)/2) else (Df F ls ((x-2*ls.length)/2)).reverse),outer:=f.outer||decide ((x-2*ls.length)/2+1=(aB ls).length)}
def Fc.new(ls:List Let)(d:Nat):Fc:=⟨dn ls (d/2+1),[],[],[],false⟩
def nc(F:Nat)(ls:List Let)(w:List Nat):Fc:=w.foldl (Fc.add F ls) (Fc.new ls (w.headD 0))
def eL(F:Nat)(ls:List Let):List Fc:=(gI (aS ls) (nD ls)).map (nc F ls)
theorem PC(ok:eX F ls)(hj:j<(aB ls).length):gN ls ((aB ls).getD j 0)<=F:=by obtain⟨u,l,_,du,hl,_,hg⟩:=ZB ok hj;rw[du,F2 hl];have:=hg.g1;have:=hg.g0;omega
theorem af5(ok:eX F ls)(hj:j<(aB ls).length):(tU F ls j).length<=2*F+2:=by have h1:=PC ok hj;have h2:=PC ok (dO (j+1) (show 0<(aB ls).length by omega));unfold tU;simp only;split<;>simp only[ff,BG]<;>omega
theorem af4(ok:eX F ls)(hj:j<(aB ls).length):(Df F ls j).length<=2*F+2:=by have h1:=PC ok hj;have h2:=PC ok (dO (j+1) (show 0<(aB ls).length by omega));unfold Df;simp only;split<;>simp only[ff,Ry]<;>omega
theorem avh(next:Nat->Nat):∀(k x:Nat) (S:List Bool),∀y∈(eV next k x S).1,y<S.length:=by
 intro k
 induction k with
 |zero=>intro x S y h;simp[eV] at h
 |succ k ih=>
  intro x S y h;unfold eV at h;cases hs:S.getD x true with
  |true=>rw[hs] at h;simp at h
  |false=>
   rw[hs] at h;have hx:x<S.length:=by
    rcases Lf x S.length with h1|h1
    .exact h1
    rw[di,ti h1] at hs;cases hs
   simp only[dx,if_false,cM] at h;rcases h with rfl|h
   .exact hx
   have:=ih _ _ y h
   simpa using this
theorem avi(next:Nat->Nat):∀(k x:Nat) (S:List Bool),(eV next k x S).1.length<=yG S:=by
 intro k
 induction k with
 |zero=>intro x S;simp[eV]
 |succ k ih=>
  intro x S;unfold eV;cases hs:S.getD x true with
  |true=>simp
  |false=>
   have CU:S[x]?=some false:=by
    rw[di] at hs;cases h1:S[x]? with
    |none=>rw[h1] at hs;cases hs
    |some b=>rw[h1] at hs;exact congrArg some hs
   have zU:=On CU;have:=ih (next x) (S.set x true);simp only[dx,if_false,dh];omega
theorem ahX(next:Nat->Nat){k:Nat}{S:List Bool}(h:S.getD x true=false):∃t,(eV next (k+1) x S).1=x::t:=by unfold eV;rw[h];exact⟨_,rfl⟩
theorem avm(next:Nat->Nat)(N:Nat):∀k,∀w∈(dG next N k).1,(∃d t,w=d::t/\d<k)/\w.length<=N/\ ∀y∈w,y<N:=by
 intro k
 induction k with
 |zero=>intro w h;simp[dG] at h
 |succ k ih=>
  intro w h;rw[yH] at h;unfold uX at h;have hlen:=Hr next N k;have old:w∈(dG next N k).1->(∃d t,w=d::t/\d<k+1)/\w.length<=N/\ ∀y∈w,y<N:=fun h=>by obtain⟨⟨d,t,h1,h2⟩,h3⟩:=ih w h;exact⟨⟨d,t,h1,aa⟩,h3⟩
  cases hs:(dG next N k).2.getD k true with
  |true=>simp only[hs,if_true] at h;exact old h
  |false=>
   simp only[hs,dx,if_false,eD,lD] at h;rcases h with h|rfl
   .exact old h
   obtain⟨t,ht⟩:=ahX next (k:=(dG next N k).2.length) hs;refine⟨⟨k,t,ht,aa⟩,?_,fun y hy=>?_⟩
   .have h1:=avi next ((dG next N k).2.length+1) k (dG next N k).2;have h2:=KP (dG next N k).2;omega
   have:=avh next _ _ _ y hy;omega
theorem Hs(ok:eX F ls):∀w∈gI (aS ls) (nD ls),(∃d t,w=d::t/\d<2*ls.length)/\w.length<=nD ls/\ ∀y∈w,y<nD ls:=by intro w h;unfold gI at h;rw[Ye (maps ok) (nD ls) (by unfold nD;omega) (bJ _)] at h;exact avm (aS ls) (nD ls) _ w h
abbrev AQ:Nat:=150
theorem avN{a b:PV}{id g z o l:Nat}{cp cf:C}:BJ [[.p a,.hsl id g z o l,cp,cf,.p b]]=none:=rfl
theorem alz{aj:aA}{s g ty sd td zd sp tp zp sf tf zf:Nat}{a o:Bool}{cd cp cf:C}{D P G:List (List PV)}(hb:aj s=(g,some (.iI ty 5 [[.p (.bool a),cd,cp,cf,.p (.bool o)]])))(gd:grown sd td zd D (.one cd) aj)(gp:grown sp tp zp P (.one cp) aj)(gf:grown sf tf zf G (.one cf) aj):
  ∃fr,fh aj (.one (.hsl s g 5 0 1))=some ([[.bool a,.sl D,.sl P,.sl G,.bool o]],[s],fr)/\oJ aj fr/\ ∀i∈fr,i=sd\/i=sp\/i=sf:=by
 obtain⟨r1,n1,a1,q1⟩:=gd.Rs;obtain⟨r2,n2,a2,q2⟩:=gp.Rs;obtain⟨r3,n3,a3,q3⟩:=gf.Rs;refine⟨r1++(r2++r3),?_,a1.app (a2.app a3),fun i hi=>?_⟩
 .simp only[fh,hb];simp[collect,n1,n2,n3,Rw,PV.norm]
 simp only[eD] at hi;rcases hi with hi|hi|hi
 .rcases q1 with rfl|rfl<;>simp at hi;exact .inl hi
 .rcases q2 with rfl|rfl<;>simp at hi;exact .inr (.inl hi)
 rcases q3 with rfl|rfl<;>simp at hi;exact .inr (.inr hi)
abbrev tD(l:List Fc):List (List PV):=l.map Fc.ps
theorem ai3(F:Nat)(ls:List Let):∀(w:List Nat) (f:Fc),f.cG≠[]->(w.foldl (Fc.add F ls) f).cG≠[]:=by
 intro w
 induction w with
 |nil=>intro f h;exact h
 |cons x w ih=>
  intro f h;refine ih _ ?_;unfold Fc.add;split
  .simp
  exact h
theorem amg{d:Nat}{t:List Nat}(h:d<2*ls.length):(nc F ls (d::t)).cG≠[]:=by unfold nc;refine ai3 F ls t _ ?_;unfold Fc.add;rw[show(d::t).headD 0=d from rfl,aF h];simp
def uq(ls:List Let)(k:Nat):List Bool:=(List.range ls.length).map fun i=>decide (i<k)&& !dn ls (i+1)
theorem ZI(ls:List Let)(k:Nat):(uq ls k).length=ls.length:=by simp[uq]
theorem ajU(ls:List Let):uq ls 0=List.replicate ls.length false:=by
 refine K4 fun i=>?_;simp only[uq,fQ,List.getElem?_replicate];by_cases h:i<ls.length
 .simp[h]
 rw[ti (by simpa using h),ay h];rfl
theorem ajT(ls:List Let)(k:Nat):uq ls (k+1)=(uq ls k).set k (!dn ls (k+1)):=by
 refine K4 fun i=>?_;rw[pQ,ZI];simp only[uq,fQ];by_cases h:i<ls.length
 .rw[uf h];by_cases e:k=i
  .subst e;simp[h]
  simp only[mz,e,if_false];congr 2;exact decide_eq_decide.2 aa
 rw[ti (by simpa using h)];by_cases e:k=i
 .subst e;rw[aF rfl,ay h];rfl
 rw[ay e];rfl
abbrev Cb(ls:List Let):List Bool:=uq ls ls.length
theorem ajV{i:Nat}(h:i<ls.length):(Cb ls)[i]?=some (!dn ls (i+1)):=by simp[uq,h]
theorem ajX(ok:eX F ls):aK S 104 [.one (.p (mF F ls))] (.one (.own 4 1 (bP (Cb ls)))):=by
 have hl:=ok.hl;have kx:ls.length<=140737488355328:=aa;have vC:List.replicate ls.length [PV.bool false]=bP (uq ls 0):=by rw[ajU];simp
 refine bh c104 ?_;simp only[go_sem,i104,kx,vC];refine cU (fun k ak aj=>ak 0=.one (.p (mF F ls))/\ak 3=.one (.hsl 6656064384 1 1 0 ls.length)/\aj 6656064384=(1,some (.arr 4 1 (bP (uq ls k))))/\
   ak 4=vb (!dn ls k)/\ak 18=.one (.p (cK ls))/\ak 19=vi ls.length/\ak 20=vi k) 0 ls.length (bl _) ?_ ?_
 .simp only[go_sem];first|exact⟨rfl,rfl⟩|exact⟨rfl,rfl,rfl⟩|exact⟨rfl,rfl,rfl,rfl⟩|exact rfl
 rintro k ak aj hk ⟨h0,h3,hA,h4,gO,gZ,vl⟩
 by_cases au:k<ls.length
 .obtain⟨l,cP⟩:=aM au;have hi:=ia cP;have aL:((k:Int)<(ls.length:Int)):=aa;have w1:=cA (n:=k) aa;have hlen:k<(uq ls k).length:=by rw[ZI];exact au
  obtain⟨b0,mJ⟩:=aM hlen;have ki:=sa mJ;have gQ:=Ik (uq ls k) k (!dn ls (k+1));rw[<- ajT] at gQ;cases hp:(l.kind==1) with
  |true=>have hd:=IG cP hp;have anB:=sa (O8 cP hp);rw[hd] at gQ;rw[Fj] at gQ;simp only[go_sem,i104_l1,h0,h3,hA,h4,gO,gZ,vl,hi,Let.ps,au,aL,w1,hp,anB,ki,gQ,hd]
  |false=>have hd:=LU cP hp;rw[hd] at gQ;simp only[go_sem,i104_l1,h0,h3,hA,h4,gO,gZ,vl,hi,Let.ps,au,aL,w1,hp,ki,gQ,hd]
 have:k=ls.length:=aa;subst this;simp only[go_sem,i104_l1,i104_r2,h3,gZ,vl,dT];exact Km hA (by simp[uq])
abbrev EJ(id:Nat):Prop:=iN id=159
theorem ahq{g r T k:Nat}(h:k<=T-g):(rY g r T)[k]?=some (g+k,if k=0 then r else 0):=by
 cases k with
 |zero=>rfl
 |succ k=>unfold rY;rw[List.getElem?_cons_succ,fQ,uf aa];simp;omega
theorem aug{g T k:Nat}(h:k<T-g):(ua g T)[k]?=some (g+1+k):=by unfold ua;rw[fQ,uf h];rfl
def Iq(g r T:Nat)(ps fs:List (List PV))(i1 i2:Nat)(aj:aA)(v:V)(ao:aA):Prop:=
 ∃c1 c2 j2,v=.tup [.one c1,.one c2]/\grown 10176320192 Dg 2 (ps++oE (rY g r T)) (.one c1) ao/\grown j2 3 1 (fs++nP (ua g T)) (.one c2) ao/\(j2=i2\/j2=10176256256)/\
  Kept (fun id=>EJ id\/id=i1\/id=i2) aj ao
def bt1:List Nat:=[10176000000,10176000064,10176128128,10176256192,10176256256,10176320128]
def bt2:List Nat:=[10176000000,10176000064,10176128128,10176128192,10176256192,10176320128,10176320192]
theorem Lw{al:Al}{aj:aA}{g r T t i1 i2:Nat}{ps fs:List (List PV)}{c1 c2:C}(okf:∀id,EJ id->al.ok id=true)(o1:al.ok i1=true)(o2:al.ok i2=true)(hT:g<=T)(ht:t=if T=g then r else 0)(hb:T<=1000)(dz:ps.length<=1000000)(qe:fs.length<=1000000)
  (n12:i1≠i2) (nb1:i1∉bt1) (nb2:i2∉bt2) (h1:grown i1 Dg 2 ps (.one c1) aj) (h2:grown i2 3 1 fs (.one c2) aj):
  ∃v ao,iF S 159 [.agg [.p (.int .i64 g),.p (.int .i64 r)],.agg [.p (.int .i64 T),.p (.int .i64 t)],.one c1,.one c2] al aj v ao/\Iq g r T ps fs i1 i2 aj v ao:=by
 have k0:al.ok 10176000000=true:=okf _ rfl;have k64:al.ok 10176000064=true:=okf _ rfl;have kb1:al.ok 10176128128=true:=okf _ rfl;have ka1:al.ok 10176128192=true:=okf _ rfl;have NF:al.ok 10176256192=true:=okf _ rfl;have ka2:al.ok 10176256256=true:=okf _ rfl;have kb3:al.ok 10176320128=true:=okf _ rfl;have ka3:al.ok 10176320192=true:=okf _ rfl;refine mA c159 (ig rfl) ?_;simp only[go_sem,i159,k0,k64];have lenP:=BG g r T;have lenF:=Ry g T;refine cU (fun k ak ao=>ak 4=.one (.aY 10176000000 ((aj 10176000000).1+1) 0)/\ak 5=.one (.aY 10176000064 ((aj 10176000064).1+1) 0)/\
   ao 10176000000=((aj 10176000000).1+1,some (.var [.p (.int .i64 ((g+k:Nat):Int)),.p (.int .i64 ((if k=0 then r else 0:Nat):Int))]))/\ao 10176000064=((aj 10176000064).1+1,some (.var [.p (.int .i64 T),.p (.int .i64 t)]))/\
   ∃d1 d2 j1 j2,ak 2=.one d1/\ak 3=.one d2/\(j1=i1\/j1=10176128192)/\(j2=i2\/j2=10176256256)/\grown j1 Dg 2 (ps++oE ((rY g r T).take k)) (.one d1) ao/\grown j2 3 1 (fs++nP ((ua g T).take k)) (.one d2) ao/\Kept (fun id=>EJ id\/id=i1\/id=i2) aj ao) 0 (T-g) (bl _) ?_ ?_
 .simp only[go_sem];refine⟨rfl,c1,c2,i1,i2,rfl,rfl,.inl rfl,.inl rfl,?_,?_,?_⟩
  .exact(h1.of_eq (bd (QJ nb1 (by simp[bt1])))).of_eq (bd (QJ nb1 (by simp[bt1])))
  .exact(h2.of_eq (bd (QJ nb2 (by simp[bt2])))).of_eq (bd (QJ nb2 (by simp[bt2])))
  exact((Kept.refl _ _).dJ (.inl rfl) _).dJ (.inl rfl) _
 rintro k ak ao hk ⟨h4,h5,hA,hB,d1,d2,j1,j2,e2,e3,q1,q2,g1,g2,dw⟩
 have oj1:al.ok j1=true:=by rcases q1 with rfl|rfl<;>assumption
 have oj2:al.ok j2=true:=by rcases q2 with rfl|rfl<;>assumption
 have n1:∀a,a∈bt1->j1≠a:=fun a ha e=>by
  rcases q1 with rfl|rfl
  .exact nb1 (e▸ha)
  exact absurd (e▸ha) ae
 have n2:∀a,a∈bt2->j2≠a:=fun a ha e=>by
  rcases q2 with rfl|rfl
  .exact nb2 (e▸ha)
  exact absurd (e▸ha) ae
 have n3:j1≠j2:=fun e=>by
  rcases q1 with rfl|rfl
  .rcases q2 with rfl|rfl
   .exact n12 e
   exact n1 _ ae e
  exact n2 _ ae e.symm
 have kj1:EJ j1\/j1=i1\/j1=i2:=by
  rcases q1 with rfl|rfl
  .exact .inr (.inl rfl)
  exact .inl rfl
 have kj2:EJ j2\/j2=i1\/j2=i2:=by
  rcases q2 with rfl|rfl
  .exact .inr (.inr rfl)
  exact .inl rfl
 have ltk:((rY g r T).take k).length=k:=by rw[fX];omega
 have ltf:((ua g T).take k).length=k:=by rw[fX];omega
 by_cases au:k<T-g
 .have aL:(((g+k:Nat):Int)<(T:Int)):=aa;have w1:IntKind.i64.wrap (((g+k:Nat):Int)+1)=((g+(k+1):Nat):Int):=cA (n:=g+k) aa;have hp:oE ((rY g r T).take (k+1))=oE ((rY g r T).take k)++[[.int .i64 ((g+k:Nat):Int),.int .i64 ((if k=0 then r else 0:Nat):Int)]]:=by
   rw[kX,ahq aa,Kn];rfl
  have hf:nP ((ua g T).take (k+1))=nP ((ua g T).take k)++[[.int .i64 ((g+(k+1):Nat):Int)]]:=by rw[kX,aug au,JZ,show g+1+k=g+(k+1) by omega];rfl
  simp only[go_sem,i159_l1,h4,h5,hA,hB,e2,aL,k0,k64,kb1];refine PD (id:=j1) (site:=10176128192) (bytes:=16) (xs:=[[.int .i64 ((g+k:Nat):Int),.int .i64 ((if k=0 then r else 0:Nat):Int)]]) (rd:=[10176128128]) (by simp[ka1,oj1,kb1]) (g1.of_eq (bd (n1 _ ae))) (by simp[fh,aN]) (.inl rfl) (by simp only[ff,cD,ltk,dh,ez];omega) fun c bj hc bn=>?_;have hA2:=(bn 10176000000 ae (n1 _ ae).symm).trans ((bd ae).trans hA);have uC:=(bn 10176000064 ae (n1 _ ae).symm).trans ((bd ae).trans hB);simp only[go_sem,h4,hA2,e3,w1,k0,NF]
  refine PD (id:=j2) (site:=10176256256) (bytes:=8) (xs:=[[.int .i64 ((g+(k+1):Nat):Int)]]) (rd:=[10176256192]) (by simp[ka2,oj2,NF]) (g2.of_eq ((bd (n2 _ ae)).trans ((bd (n2 _ ae)).trans ((bn _ (n2 _ ae) n3.symm).trans (bd (n2 _ ae)))))) (by simp[fh,aN]) (.inl rfl) (by simp only[ff,cD,ltf,dh,ez];omega) fun c' fT kE gn=>?_;have hA3:=(gn 10176000000 ae (n2 _ ae).symm).trans ((bd ae).trans Ai);have hB3:=(gn 10176000064 ae (n2 _ ae).symm).trans ((bd ae).trans ((bd ae).trans uC));simp only[go_sem,h4,h5,hA3,hB3,e2,e3,au];refine⟨rfl,c,c',10176128192,10176256256,rfl,rfl,.inr rfl,.inr rfl,?_,?_,fun id hn=>?_⟩
  .rw[hp,<- yK];exact hc.of_eq ((gn _ ae (n2 _ ae).symm).trans ((bd ae).trans (bd ae)))
  .rw[hf,<- yK];exact kE
  have a:∀x,EJ x->id≠x:=fun x hx e=>hn (.inl (e▸hx));have b1:id≠j1:=fun e=>hn (e▸kj1);have b2:id≠j2:=fun e=>hn (e▸kj2);exact(gn id (a _ rfl) b2).trans ((bd (a _ rfl)).trans ((bd (a _ rfl)).trans ((bn id (a _ rfl) b1).trans ((bd (a _ rfl)).trans (dw id hn)))))
 have:k=T-g:=aa;subst this;have aL:¬(((g+(T-g):Nat):Int)<(T:Int)):=aa;simp only[go_sem,i159_l1,i159_r2,h4,h5,hA,hB,e2,aL,k0,k64,kb3];have MY:oE (rY g r T)=oE ((rY g r T).take (T-g))++[[.int .i64 (T:Int),.int .i64 (t:Int)]]:=by
  have h1:=kX (l:=rY g r T) (i:=T-g);rw[ahq (bJ _),fR (show(rY g r T).length<=T-g+1 by omega)] at h1;have e1:g+(T-g)=T:=aa;have e2:(if T-g=0 then r else 0)=t:=by
   rw[ht];by_cases h:T=g
   .rw[aF h,aF aa]
   rw[ay h,ay aa]
  rw[e1,e2] at h1;exact(congrArg (fun l:List (Nat×Nat)=>oE l) h1).trans (Kn _ _)
 have dM:(ua g T).take (T-g)=ua g T:=fR aa;refine PD (id:=j1) (site:=10176320192) (bytes:=16) (xs:=[[.int .i64 (T:Int),.int .i64 (t:Int)]]) (rd:=[10176320128]) (by simp[ka3,oj1,kb3]) (g1.of_eq (bd (n1 _ ae))) (by simp[fh,aN]) (.inl rfl) (by simp only[ff,cD,ltk,dh,ez];omega) fun c bj hc bn=>?_;simp only[go_sem,e3];refine⟨c,d2,j2,rfl,?_,?_,q2,fun id hn=>?_⟩
 .rw[MY,<- yK];exact hc
 .rw[dM] at g2;exact g2.of_eq ((bn _ (n2 _ ae) n3.symm).trans (bd (n2 _ ae)))
 have a:∀x,EJ x->id≠x:=fun x hx e=>hn (.inl (e▸hx));have b1:id≠j1:=fun e=>hn (e▸kj1);exact(bn id (a _ rfl) b1).trans ((bd (a _ rfl)).trans (dw id hn))
theorem ZC(ok:eX F ls)(hj:j<(aB ls).length):∃u l,(aB ls)[j]?=some u/\(aB ls).getD j 0=u/\ls[u]?=some l/\l.aG=true/\uz F ls l/\dC ls l=j:=by obtain⟨u,l,h1,h2,h3,h4,h5⟩:=ZB ok hj;obtain⟨l',k1,k2,k3⟩:=B9 ok.ax h1;rw[h3] at k1;cases k1;exact⟨u,l,h1,h2,h3,h4,h5,k3⟩
theorem ajH{pg pr qg qr:Nat}{p q:Let}(gp:uz F ls p)(gq:uz F ls q)(hp:dC ls p=j)(hq:dC ls q=j+1)(h1:p.gate=(pg:Int))(h2:p.aE=(pr:Int))(h3:q.gate=(qg:Int))(h4:q.aE=(qr:Int)):
  pg<=qg/\qr-1=if qg=pg then pr else 0:=by
 obtain⟨_,_,p1,p2⟩:=gp;obtain⟨_,_,q1,q2⟩:=gq;unfold dC at hp hq;rw[h1,h2] at hp;rw[h3,h4] at hq;rw[h2] at p1;rw[h1,h2] at p2;rw[h4] at q1;rw[h3,h4] at q2;simp only[vZ] at hp hq p2 q2;have sp:=rB ls pg;have sq:=rB ls qg;have hle:pg<=qg:=by
  rcases Lf qg pg with h|h
  .have:=xJ (ls:=ls) (show qg+1<=pg by omega);omega
  exact h
 refine⟨hle,?_⟩;by_cases e:qg=pg
 .subst e;rw[aF rfl];omega
 rw[ay e];have:=xJ (ls:=ls) (show pg+1<=qg by omega);omega
theorem ajF{qg qr:Nat}{q:Let}(gq:uz F ls q)(hq:dC ls q=0)(h3:q.gate=(qg:Int))(h4:q.aE=(qr:Int)):qr-1=0:=by obtain⟨_,_,q1,q2⟩:=gq;unfold dC at hq;rw[h3,h4] at hq;rw[h4] at q1;simp only[vZ] at hq;omega
theorem atQ:S.sites 159=[159]:=ah
theorem uk{vs:List V}{aj:aA}:∀id,EJ id->(allow (S.ctx .all) 159 vs aj).ok id=true:=fun id h=>um (by rw[atQ,h];simp)
theorem asG(ok:eX F ls)(hF:F<=1000)(hj:j<(aB ls).length):
  aK S 130 [.one (.p (mF F ls)),vi j] (.tup [.one (aT Dg 2 (oE (tU F ls j))),.one (aT 3 1 (nP (Df F ls j)))]):=by
 have hl:=ok.hl;have fi:(aB ls).length<=1000000:=mT (wC ls ls.length) hl;have hm:=dO (j+1) (show 0<(aB ls).length by omega);obtain⟨u,p,hu,du,hp,pp,gp,xp⟩:=ZC ok hj;obtain⟨v,q,hv,dv,hq,pq,gq,xq⟩:=ZC ok hm;unfold tU Df;simp only[du,dv,F2 hp,F2 hq,ase hp];have hJ:=ia hp;have Gx:=ia hq;have Ew:=jY hu;have Ba:=jY hv;have e1:=uU (j+1) (aB ls).length;have w1:=cA (n:=j) aa;have w2:=Hv (a:=(aB ls).length) aa aa;have nT:¬(((aB ls).length:Int)=0):=aa
 have hg0:=gp.g0;have Gl:=gp.g1;have A5:=gq.g0;have cP:=gq.g1;have uI:=gp.r0;have jE:=gp.r1;have pG:=gq.r0;have jX:=gq.r1;have hcg:cg ls p.gate.toNat<=ls.length:=tx _ _;have hcq:cg ls q.gate.toNat<=ls.length:=tx _ _;obtain⟨pg,h1⟩:=th (show 0<=p.gate by omega);obtain⟨pr,h2⟩:=th (show 0<=p.aE by omega);obtain⟨qg,h3⟩:=th (show 0<=q.gate by omega);obtain⟨qr,h4⟩:=th (show 0<=q.aE by omega);have wr:=Hv (a:=qr) (by rw[h4] at pG;omega) aa;have iv:S.shared 159=true:=ah;have Eu:=fun h=>ajH gp gq xp (h:dC ls q=j+1) h1 h2 h3 h4;have V1:=fun h=>ajF gq (h:dC ls q=0) h3 h4
 rw[h1] at Gl jE hcg hg0;rw[h2] at jE uI;rw[h3] at A5 cP jX hcq;rw[h4] at pG jX;rw[h1,h2,h3];simp only[vZ] at jE hcg jX hcq ⊢;refine bh c130 ?_;by_cases au:j+1<(aB ls).length
 .have aL:(j:Int)<(((aB ls).length-1:Nat):Int):=aa;rw[dV au] at xq;obtain⟨n1,n2⟩:=Eu xq;simp only[aF au];simp only[go_sem,i130,Ew,Ba,hJ,Gx,Let.ps,w1,e1,w2,wr,aL,nT,h1,h2,h3,h4,iv];refine⟨aH,?_⟩;refine qK (P:=Iq pg pr qg [] [] 10176128192 10176256256 _) yj (Lw (g:=pg) (r:=pr) (T:=qg) (t:=qr-1) (c1:=.p .nils) (c2:=.p .nils) uk (uk _ rfl) (uk _ rfl) n1 n2 aa (bl _) (bl _) ae ae ae grown.nil grown.nil) ?_;rintro v ao ⟨c1,c2,j2,rfl,g1,g2,mM,dw⟩
  have mM:j2=10176256256:=by rcases mM with h|h<;>exact h
  subst mM;simp only[go_sem];exact PH ae g1 g2
 have aL:¬(j:Int)<(((aB ls).length-1:Nat):Int):=aa;have Gn:(j+1)%(aB ls).length=0:=by rw[show j+1=(aB ls).length by omega,rh]
 rw[Gn] at xq;have n2:=V1 xq;simp only[ay au];have MY:∃t:Nat,t=(if F=pg then pr else 0):=⟨_,rfl⟩;obtain⟨t,ht⟩:=MY;have fin:∀(ak:Env) (aj:aA) (c1 c2:C),True:=fun _ _ _ _=>trivial;have ini:(((pg:Int)==(F:Int))=true/\t=pr/\F=pg)\/(((pg:Int)==(F:Int))=false/\t=0):=by
  by_cases h:F=pg
  .subst h;rw[aF rfl] at ht;exact .inl ⟨af,ht,rfl⟩
  rw[ay h] at ht;exact .inr ⟨by simp;omega,ht⟩
 rcases ini with ⟨hb,JD,hFp⟩|⟨hb,JD⟩
 .subst hFp;simp only[go_sem,i130,Ew,Ba,hJ,Gx,Let.ps,w1,e1,w2,wr,aL,nT,h1,h2,h3,h4,iv,hb];refine⟨aH,?_⟩;refine⟨aH,?_⟩;refine qK (P:=Iq F pr F [] [] 10176128192 10176256256 _) yj (Lw (g:=F) (r:=pr) (T:=F) (t:=pr) (c1:=.p .nils) (c2:=.p .nils) uk (uk _ rfl) (uk _ rfl) aa (by rw[aF rfl]) aa (bl _) (bl _) ae ae ae grown.nil grown.nil) ?_;rintro v bQ ⟨c1,c2,j2,rfl,g1,g2,mM,dw⟩
  have mM:j2=10176256256:=by rcases mM with h|h<;>exact h
  subst mM;rw[fY] at g1 g2;have hA:=dw 8320256384 ae;simp only[go_sem] at hA;simp only[go_sem,hA,iv];refine qK (P:=Iq 0 0 qg (oE (rY F pr F)) (nP (ua F F)) 10176320192 10176256256 _) yj (Lw (g:=0) (r:=0) (T:=qg) (t:=qr-1) (c1:=c1) (c2:=c2) uk (uk _ rfl) (uk _ rfl) (bl _) (by rw[n2];split<;>rfl) aa (by simp only[cD,BG];omega) (by simp only[cD,Ry];omega) ae ae ae g1 g2) ?_;rintro v bj ⟨d1,d2,j3,rfl,k1,k2,A3,_⟩
  have A3:j3=10176256256:=by rcases A3 with h|h<;>exact h
  subst A3;simp only[go_sem];rw[Kn,JZ];exact PH ae k1 k2
 simp only[go_sem,i130,Ew,Ba,hJ,Gx,Let.ps,w1,e1,w2,wr,aL,nT,h1,h2,h3,h4,iv,hb];refine⟨aH,?_⟩;refine⟨aH,?_⟩;refine qK (P:=Iq pg pr F [] [] 10176128192 10176256256 _) yj (Lw (g:=pg) (r:=pr) (T:=F) (t:=0) (c1:=.p .nils) (c2:=.p .nils) uk (uk _ rfl) (uk _ rfl) aa (by rw[JD] at ht;exact ht) aa (bl _) (bl _) ae ae ae grown.nil grown.nil) ?_;rintro v bQ ⟨c1,c2,j2,rfl,g1,g2,mM,dw⟩
 have mM:j2=10176256256:=by rcases mM with h|h<;>exact h
 subst mM;rw[fY] at g1 g2;have hA:=dw 8320256384 ae;simp only[go_sem] at hA;simp only[go_sem,hA,iv];refine qK (P:=Iq 0 0 qg (oE (rY pg pr F)) (nP (ua pg F)) 10176320192 10176256256 _) yj (Lw (g:=0) (r:=0) (T:=qg) (t:=qr-1) (c1:=c1) (c2:=c2) uk (uk _ rfl) (uk _ rfl) (bl _) (by rw[n2];split<;>rfl) aa (by simp only[cD,BG];omega) (by simp only[cD,Ry];omega) ae ae ae g1 g2) ?_;rintro v bj ⟨d1,d2,j3,rfl,k1,k2,A3,_⟩
 have A3:j3=10176256256:=by rcases A3 with h|h<;>exact h
 subst A3;simp only[go_sem];rw[Kn,JZ];exact PH ae k1 k2
end
end Go.Abs
