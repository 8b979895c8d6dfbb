/- A part. -/
import Derived.Test.YtonblbhhnelniaaGreatDoorWa
set_option linter.all false
set_option maxRecDepth 100000
set_option maxHeartbeats 16000000
namespace Go.Abs
section
variable{ls:List Let}{F j n2 x:Nat}
abbrev mv(F:Nat)(ls:List Let):PV:=dgP F ls (.sl (bP (j5 ls))) (.sl (nP (aE ls))) (.sl (nP (jB ls ls.length))) (.mp true (pK ls ls.length)) (.sl (nP (counts ls F)))
structure eS (F:Nat) (ls:List Let):Prop where
 hl:ls.length<=1000000
 ax:BO F ls
 cr:kW ls=true
 kinds:∀l∈ls,l.aA=true\/l.aC=true
theorem yE{a:Nat}(h:a<=9223372036854775807):IntKind.i64.wrap ((a:Int)-1)=(a:Int)-1:=by
 cases a with
 |zero=>decide
 |succ a=>rw[Kj aa h];omega
theorem ahu{a n:Nat}(hn:1<=n)(h:a+n<=9223372036854775807):IntKind.i64.wrap (((a:Int)-1)+(n:Int))=((a+n-1:Nat):Int):=by have e:((a:Int)-1)+(n:Int)=((a+n-1:Nat):Int):=aa;rw[e];exact wrap_small aa
theorem US(F:Nat)(ls:List Let)(i:Nat)(hl:ls.length<=1000000)(hi:i<ls.length):aI S 104 [.one (.p (mv F ls)),vi i] (ri (dD ls.length i true)):=by refine aY c104 ?_;have e:=yF (a:=i) aa;simp only[go_sem,i104,e,dD]
theorem Si(F:Nat)(ls:List Let)(i:Nat)(hl:ls.length<=1000000)(hi:i<ls.length):aI S 103 [.one (.p (mv F ls)),vi i] (ri (dD ls.length i false)):=by refine aY c103 ?_;have e1:=yE (a:=i) aa;have e2:=ahu (a:=i) (n:=ls.length) aa aa;have e3:=yC (i+ls.length-1) ls.length;have hm:=dQ (i+ls.length-1) (show 0<ls.length by omega);have e4:=yF (a:=(i+ls.length-1)%ls.length) aa;have e5:=cK (n:=2*((i+ls.length-1)%ls.length)) aa;have hz:¬((ls.length:Int)=0):=aa;simp only[go_sem,i103,e1,e2,e3,e4,e5,hz,dD]
theorem Ow{v:Nat}{l:Let}(h:ls[v]?=some l)(hp:l.aA=true):(j5 ls)[v]?=some (dn ls v):=by have:=(aS.1 h).1;simp[j5,te this,im,h,hp]
theorem aqm{v:Nat}{l:Let}(h:ls[v]?=some l)(hp:l.aA=true):(jB ls ls.length)[v]?=some (dM ls l):=by have:=(aS.1 h).1;simp[jB,this,GN h hp]
theorem eS.PO(ok:eS F ls){v:Nat}{l:Let}(h:ls[v]?=some l)(h2:(l.kind==2)=false):l.aA=true:=by
 rcases ok.kinds l (aU h) with hp|hc
 .exact hp
 unfold Let.aC at hc;rw[h2] at hc;cases hc
theorem ZF(ok:eS F ls)(d:Nat)(hd:d<2*ls.length+2*(aE ls).length):aI S 88 [.one (.p (mv F ls)),vi d] (ri (nE ls (aE ls) d)):=by
 have hl:=ok.hl;have iK:(aE ls).length<=1000000:=ll (yP ls ls.length) hl;have nL:∀x∈aE ls,x<ls.length/\ ∃l,ls[x]?=some l/\l.aA=true:=fun x hx=>by obtain⟨l,h1,h2⟩:=uS.1 hx;exact⟨(aS.1 h1).1,l,h1,h2⟩
 have m1:IntKind.i64.wrap (2*(ls.length:Int))=((2*ls.length:Nat):Int):=yF aa;unfold nE;by_cases h:2*ls.length<=d
 .rw[if_pos h];refine aY c88 ?_;have h':((2*ls.length:Nat):Int)<=(d:Int):=aa;have m2:=XB (a:=d) (b:=2*ls.length) h aa;have m3:=wrap_small (n:=(d-2*ls.length)/2) aa;have hm:=dQ ((d-2*ls.length)/2+1) (show 0<(aE ls).length by omega);have rV:¬(((aE ls).length:Int)=0):=aa;obtain⟨u,hu⟩:=aK (ls:=aE ls) (k:=(d-2*ls.length)/2) aa;have Es:=kQ hu;by_cases h2:d%2=0
  .rw[if_pos h2];have m4:=cK (n:=(d-2*ls.length)/2) aa;have mz:(((d%2:Nat):Int)==0)=true:=by simp[h2]
   have m5:=yC ((d-2*ls.length)/2+1) (aE ls).length;obtain⟨v,hv⟩:=aK hm;have tR:(aE ls).getD (((d-2*ls.length)/2+1)%(aE ls).length) 0=v:=by rw[de,hv];rfl
   rw[tR];obtain⟨xZ,l,ql,CH⟩:=nL v (aU hv);have Et:=kQ hv;have fy:=uq (Ow ql CH);have pf:=US F ls v hl xZ;have pb:=Si F ls v hl xZ;cases hq:dn ls v with
   |true=>rw[hq] at fy;simp only[go_sem,i88,m1,m2,m3,m4,m5,h',mz,Es,Et,fy,rV,pQ,jC,iI,s103,eH pb];exact⟨aH,aH⟩
   |false=>rw[hq] at fy;simp only[go_sem,i88,m1,m2,m3,m4,m5,h',mz,Es,Et,fy,rV,pQ,jC,iI,s104,eH pf];exact⟨aH,aH⟩
  rw[if_neg h2];have mz:(((d%2:Nat):Int)==0)=false:=by simp;omega
  have tR:(aE ls).getD ((d-2*ls.length)/2) 0=u:=by rw[de,hu];rfl
  rw[tR];obtain⟨xZ,l,ql,CH⟩:=nL u (aU hu);have fy:=uq (Ow ql CH);have pf:=US F ls u hl xZ;have pb:=Si F ls u hl xZ;cases hq:dn ls u with
  |true=>rw[hq] at fy;simp only[go_sem,i88,m1,m2,m3,h',mz,Es,fy,pQ,jC,iI,s104,eH pf];exact aH
  |false=>rw[hq] at fy;simp only[go_sem,i88,m1,m2,m3,h',mz,Es,fy,pQ,jC,iI,s103,eH pb];exact aH
 rw[if_neg h];have h':¬(((2*ls.length:Nat):Int)<=(d:Int)):=aa;have m3:=wrap_small (n:=d/2) aa;have iZ:¬((ls.length:Int)=0):=aa;have rV:=dQ (d/2+1) (show 0<ls.length by omega);have m4:=cK (n:=d/2) aa;have m5:=yC (d/2+1) ls.length;have body:∀v:Nat,v<ls.length->∀fw:Bool,v=(if fw then (d/2+1)%ls.length else d/2)->(((d%2:Nat):Int)==0)=fw->aI S 88 [.one (.p (mv F ls)),vi d] (ri ((match ls[v]? with
   |none=>0
   |some l=>if l.kind==2 then dD ls.length (ib ls v) (fw==(l.over==(l.sign==1)))
    else if dn ls v==fw then 2*ls.length+2*(aE ls).idxOf v else 2*ls.length+2*(((aE ls).idxOf v+(aE ls).length-1)%(aE ls).length)+1:Nat):Int)):=by
  intro v hv fw iT xR;obtain⟨l,ql⟩:=aK hv;have jI:=mL ql;rw[ql];simp only;refine aY c88 ?_;cases hk:(l.kind==2) with
  |true=>
   have hc:l.aC=true:=hk;have dV:(l.kind==1)=false:=by simp only[beq_iff_eq] at hk;rw[hk];rfl
   obtain⟨EB,MB⟩:=Ql ok.cr ql hc;have hf:=abg ls ls.length l.id;rw[if_pos (PA (aU ql) hc)] at hf;have pf:=US F ls (ib ls v) hl MB;have pb:=Si F ls (ib ls v) hl MB;cases ho:l.over with
   |true=>
    rw[ho] at EB;have EB:fX ls ls.length l.id false=some (ib ls v):=EB;simp only[qK,EB] at hf;simp only[Bu] at hf;cases hs:(l.sign==1) with
    |true=>
     cases fw with
     |true=>have iT:v=(d/2+1)%ls.length:=iT;rw[iT] at jI hf pf pb ⊢;simp only[go_sem,i88,m1,m3,m4,m5,h',xR,jI,Let.ps,iZ,dV,ho,hs,pQ,jC,iI,mapOf,mapVal,iz,hf,s104,eH pf];exact⟨aH,aH⟩
     |false=>have iT:v=d/2:=iT;rw[iT] at jI hf pf pb ⊢;simp only[go_sem,i88,m1,m3,h',xR,jI,Let.ps,dV,ho,hs,pQ,jC,iI,mapOf,mapVal,iz,hf,s103,eH pb];exact⟨aH,aH⟩
    |false=>
     cases fw with
     |true=>have iT:v=(d/2+1)%ls.length:=iT;rw[iT] at jI hf pf pb ⊢;simp only[go_sem,i88,m1,m3,m4,m5,h',xR,jI,Let.ps,iZ,dV,ho,hs,pQ,jC,iI,mapOf,mapVal,iz,hf,s103,eH pb];exact⟨aH,aH⟩
     |false=>have iT:v=d/2:=iT;rw[iT] at jI hf pf pb ⊢;simp only[go_sem,i88,m1,m3,h',xR,jI,Let.ps,dV,ho,hs,pQ,jC,iI,mapOf,mapVal,iz,hf,s104,eH pf];exact⟨aH,aH⟩
   |false=>
    rw[ho] at EB;have EB:fX ls ls.length l.id true=some (ib ls v):=EB;simp only[qK,EB] at hf;simp only[Bu] at hf;cases hs:(l.sign==1) with
    |true=>
     cases fw with
     |true=>have iT:v=(d/2+1)%ls.length:=iT;rw[iT] at jI hf pf pb ⊢;simp only[go_sem,i88,m1,m3,m4,m5,h',xR,jI,Let.ps,iZ,dV,ho,hs,pQ,jC,iI,mapOf,mapVal,iz,hf,s103,eH pb];exact⟨aH,aH⟩
     |false=>have iT:v=d/2:=iT;rw[iT] at jI hf pf pb ⊢;simp only[go_sem,i88,m1,m3,h',xR,jI,Let.ps,dV,ho,hs,pQ,jC,iI,mapOf,mapVal,iz,hf,s104,eH pf];exact⟨aH,aH⟩
    |false=>
     cases fw with
     |true=>have iT:v=(d/2+1)%ls.length:=iT;rw[iT] at jI hf pf pb ⊢;simp only[go_sem,i88,m1,m3,m4,m5,h',xR,jI,Let.ps,iZ,dV,ho,hs,pQ,jC,iI,mapOf,mapVal,iz,hf,s104,eH pf];exact⟨aH,aH⟩
     |false=>have iT:v=d/2:=iT;rw[iT] at jI hf pf pb ⊢;simp only[go_sem,i88,m1,m3,h',xR,jI,Let.ps,dV,ho,hs,pQ,jC,iI,mapOf,mapVal,iz,hf,s103,eH pb];exact⟨aH,aH⟩
  |false=>
   have hp:=ok.PO ql hk;have dV:(l.kind==1)=true:=hp;have fy:=uq (Ow ql hp);have bK:=kQ (aqm ql hp);have IL:=HC ok.ax ql hp;have hpT:=WA (ok.ax.eU l (aU ql) hp);rw[Fs ok.ax.qe] at hpT;rw[IL];have acu:¬(((aE ls).length:Int)=0):=aa;have ni:=dQ (dM ls l+(aE ls).length-1) (show 0<(aE ls).length by omega);have n1:=yF (a:=dM ls l) aa;have n2:=wrap_add (a:=2*ls.length) (b:=2*dM ls l) aa;have n3:=yE (a:=dM ls l) aa;have n4:=ahu (a:=dM ls l) (n:=(aE ls).length) aa aa;have n5:=yC (dM ls l+(aE ls).length-1) (aE ls).length;have n6:=yF (a:=(dM ls l+(aE ls).length-1)%(aE ls).length) aa;have n7:=wrap_add (a:=2*ls.length) (b:=2*((dM ls l+(aE ls).length-1)%(aE ls).length)) aa
   have n8:=cK (n:=2*ls.length+2*((dM ls l+(aE ls).length-1)%(aE ls).length)) aa;cases fw with
   |true=>
    have iT:v=(d/2+1)%ls.length:=iT;cases LX:dn ls v with
    |true=>rw[LX] at fy;rw[iT] at jI fy bK;simp only[go_sem,i88,m1,m3,m4,m5,h',xR,jI,Let.ps,iZ,dV,pQ,jC,iI,fy,bK,n1,n2];exact aH
    |false=>rw[LX] at fy;rw[iT] at jI fy bK;simp only[go_sem,i88,m1,m3,m4,m5,h',xR,jI,Let.ps,iZ,dV,pQ,jC,iI,fy,bK,n3,n4,n5,n6,n7,n8,acu];exact aH
   |false=>
    have iT:v=d/2:=iT;cases LX:dn ls v with
    |true=>rw[LX] at fy;rw[iT] at jI fy bK;simp only[go_sem,i88,m1,m3,h',xR,jI,Let.ps,dV,pQ,jC,iI,fy,bK,n3,n4,n5,n6,n7,n8,acu];exact aH
    |false=>rw[LX] at fy;rw[iT] at jI fy bK;simp only[go_sem,i88,m1,m3,h',xR,jI,Let.ps,dV,pQ,jC,iI,fy,bK,n1,n2];exact aH
 have xZ:(if (d%2==0)=true then (d/2+1)%ls.length else d/2)<ls.length:=by
  split
  .exact rV
  omega
 have:=body _ xZ (d%2==0) rfl (by cases hq:(d%2==0)<;>simp at hq ⊢ <;>omega);exact this
abbrev aT(ls:List Let):Nat->Nat:=nE ls (aE ls)
theorem alx(ok:eS F ls){Q:dy}:
  ∀(fuel x:Nat) (sn:List Bool) (ak:Env) (aj:aq),ak 0=.one (.p (mv F ls))->ak 4=.one (.hsl 4160128064 1 1 0 sn.length)->aj 4160128064=(1,some (.arr 4 1 (bP sn)))->
   ak 7=vi x->x<sn.length->sn.length=2*ls.length+2*(aE ls).length->Bs sn<fuel->
   (∀aD ao,aD 0=ak 0->aD 4=ak 4->aD 5=ak 5->aD 24=ak 24->aD 25=ak 25->ao 4160128064=(1,some (.arr 4 1 (bP (fQ (aT ls) fuel x sn).2)))->Q .normal aD ao)->
   W S .all (.loop i65_l1) (nJ 2 Q) ak aj:=by
 have iK:(aE ls).length<=1000000:=ll (yP ls ls.length) ok.hl;have nL:∀x∈aE ls,x<ls.length:=fun x h=>Yk h;have hp:∀v l,ls[v]?=some l->(l.kind==2)=false->v∈aE ls:=fun v l hv h2=>uS.2 ⟨l,hv,ok.PO hv h2⟩;intro fuel
 induction fuel with
 |zero=>intro x sn ak aj _ _ _ _ _ _ h;omega
 |succ fuel ih=>
  intro x sn ak aj h0 h4 hS h7 hx hsl hu hq;obtain⟨b,hb⟩:=aK hx;have ng:=uq hb;have wx:sn.getD x true=b:=by rw[de,hb];rfl
  unfold fQ at hq;rw[wx] at hq;refine sA ?_;cases b with
  |true=>simp only[go_sem,i65_l1,h4,hS,h7,hx,ng];refine hq _ _ ?_ ?_ ?_ ?_ ?_ hS;all_goals simp only[go_sem,h4]
  |false=>
   have Gq:=Re hb;have pt:=ZF ok x aa;have jl:=Xm (d:=x) nL hp aa;have iH:=KH sn x true;simp only[go_sem,i65_l1,h0,h4,hS,h7,hx,ng,iH,s88,eH pt];refine ih (nE ls (aE ls) x) (sn.set x true) _ _ ?_ ?_ ?_ ?_ (by simpa [hsl] using jl) (by simpa using hsl) aa ?_
   .simp only[go_sem,h0]
   .simp only[go_sem,h4,th]
   .simp only[go_sem]
   .simp only[go_sem]
   intro aD ao q0 q4 q5 qA Be b1;refine hq aD ao ?_ ?_ ?_ ?_ ?_ b1
   .rw[q0];simp only[go_sem]
   .rw[q4];simp only[go_sem]
   .rw[q5];simp only[go_sem]
   .rw[qA];simp only[go_sem]
   rw[Be];simp only[go_sem]
theorem alA(ok:eS F ls):aI S 65 [.one (.p (mv F ls))] (rb (mh ls==ay Let.aA ls+ay Let.aC ls/2+2)):=by
 have hl:=ok.hl;have iK:(aE ls).length<=ls.length:=yP ls ls.length;have m1:=yF (a:=ls.length) aa;have m2:=yF (a:=(aE ls).length) aa;have m3:=wrap_add (a:=2*ls.length) (b:=2*(aE ls).length) aa;have qt:2*ls.length+2*(aE ls).length<=140737488355328:=aa;have ve:List.replicate (2*ls.length+2*(aE ls).length) [PV.bool false]=bP (List.replicate (2*ls.length+2*(aE ls).length) false):=af;have ni:(pK ls ls.length).length=ay Let.aC ls/2:=by have:=ok.cr;unfold kW at this;simp only[cH,beq_iff_eq] at this;simp[pK,this.2]
 have tH:ay Let.aC ls<=ls.length:=xx _ _;refine aY c65 ?_;simp only[go_sem,i65,m1,m2,m3,qt,ve];refine⟨aH,?_⟩;generalize hN:2*ls.length+2*(aE ls).length=N at qt;refine cV (fun k ak aj=>ak 0=.one (.p (mv F ls))/\ak 4=.one (.hsl 4160128064 1 1 0 N)/\aj 4160128064=(1,some (.arr 4 1 (bP (dR (aT ls) N k).2)))/\
   ak 5=vi (dR (aT ls) N k).1.length/\ak 24=vi N/\ak 25=vi k) 0 N (bd _) ?_ ?_
 .simp only[go_sem];exact⟨rfl,rfl,rfl⟩
 rintro k ak aj hk ⟨h0,h4,hS,h5,lZ,l5⟩
 have hlen:=Kg (aT ls) N k;have MC:=Xv (aT ls) N k;by_cases aw:k<N
 .have aL:((k:Int)<(N:Int)):=aa;have w1:=cK (n:=k) aa;have hs:=Bv (aT ls) N k;generalize cE:dR (aT ls) N k=st at hlen hs hS h5 MC;obtain⟨out,sn⟩:=st;simp only at hlen hS h5 MC;obtain⟨b,hb⟩:=aK (ls:=sn) (k:=k) aa;have ng:=uq hb;unfold yD at hs;have wx:sn.getD k true=b:=by rw[de,hb];rfl
  simp only[wx] at hs;cases b with
  |true=>have hs:dR (aT ls) N (k+1)=(out,sn):=hs;simp only[go_sem,i65_l3,i65_r2,h0,h4,hS,h5,lZ,l5,aw,aL,ng,w1,hs]
  |false=>
   have hs:dR (aT ls) N (k+1)=(out++[(fQ (aT ls) (N+1) k sn).1],(fQ (aT ls) (N+1) k sn).2):=by rw[hs,hlen];rfl
   have Gp:=NK sn;have w2:=cK (n:=out.length) aa;simp only[go_sem,i65_l3,h4,hS,h5,lZ,l5,aw,aL,ng,w2];refine alx ok (N+1) k sn _ _ ?_ ?_ ?_ ?_ aa aa aa ?_
   .simp only[go_sem,h0]
   .simp only[go_sem,h4,hlen]
   .simp only[go_sem,hS]
   .simp only[go_sem]
   intro aD ao q0 q4 q5 qA Be b1;simp only[go_sem,h0,h4,h5,lZ,l5] at q0 q4 q5 qA Be;simp only[go_sem,i65_r2,q0,q4,q5,qA,Be,b1,w1,hs,aw];simp
 have:k=N:=aa;subst this;have he:mh ls=(dR (aT ls) k k).1.length:=by unfold mh js aT;rw[hN]
 rw[<- he] at h5;have w3:=wrap_add (a:=(aE ls).length) (b:=ay Let.aC ls/2) aa;have w4:IntKind.i64.wrap ((((aE ls).length+ay Let.aC ls/2:Nat):Int)+2)=(((aE ls).length+ay Let.aC ls/2+2:Nat):Int):=wrap_add (a:=(aE ls).length+ay Let.aC ls/2) (b:=2) aa;have hb:(((mh ls:Nat):Int)==(((aE ls).length+ay Let.aC ls/2+2:Nat):Int))=(mh ls==ay Let.aA ls+ay Let.aC ls/2+2):=by
  rw[HB];cases h:(mh ls==ay Let.aA ls+ay Let.aC ls/2+2) with
  |true=>simp at h ⊢;omega
  |false=>simp at h ⊢;omega
 simp only[go_sem,i65_l3,i65_r4,h0,h5,lZ,l5,eK,zN,ni,w3,w4,hb];exact aH
abbrev Kv(id:Nat):Prop:=id=1344320128\/(je id=39\/je id=63\/je id=64)
def akm(F:Nat)(ls:List Let)(g:Nat)(aj:aq):Prop:= ∃g1 g2 g3 g4 g5,
 aj 1344320128=(g,some (.var (uW F ls (hs 4032128448 g2 ls.length) (hs 4033344128 g5 (aE ls).length) (hs 4032192448 g3 ls.length) (.jV 4096256064 g4) (hs 4032064448 g1 (F+1)))))/\
 aj 4032064448=(g1,some (.arr 3 1 (nP (counts ls F))))/\aj 4032128448=(g2,some (.arr 4 1 (bP (j5 ls))))/\aj 4032192448=(g3,some (.arr 3 1 (nP (jB ls ls.length))))/\
 aj 4033344128=(g5,some (.arr 3 1 (nP (aE ls))))/\aj 4096256064=(g4,some (.map true (pK ls ls.length)))
def Rf(F:Nat)(ls:List Let):Bool:=decide (ls=[])||uh F ls
def Xp(F:Nat)(ls:List Let)(g:Nat)(kI:aq)(v:V)(ao:aq):Prop:=v=vb (Rf F ls)/\Kept Kv kI ao/\(ls≠[]->uh F ls=true->akm F ls g ao)/\(ls=[]->ao 1344320128=kI 1344320128)
theorem W1:S.sites 39=[39,63,64]:=ah
theorem agn:S.sites 63=[63]:=ah
theorem ago:S.sites 64=[64]:=ah
theorem Kept.Rm{K K':Nat->Prop}{a b:aq}(h:Kept K a b)(hk:∀id,K id->K' id):Kept K' a b:=fun id hn=>h id fun hh=>hn (hk id hh)
abbrev Dn(g:Nat):List (List C):=[[.hfn 61 [.bk 1344320128 g 0] []],[.hfn 62 [.bk 1344320128 g 0] []],[.hfn 63 [.bk 1344320128 g 0] []],[.hfn 64 [.bk 1344320128 g 0] []],[.hfn 65 [.bk 1344320128 g 0] []]]
section
variable {al:Al} {Q:dy} {ak:Env} {aj:aq} {g g0:Nat}
theorem Xt(k:Nat){f:Nat}{dv:PV}{r:List Nat}{b:Bool}(hk:k<5)(hf:(Dn g)[k]?=some [.hfn f [.bk 1344320128 g 0] []])(IY:S.shared f=false)(oV:al.ok 2496192640=true)
  (kY:ak 22=.one (hs 2496192640 g0 5)) (jk:ak 23=vi 5) (lZ:ak 24=vi k) (bV:aj 2496192640=(g0,some (.iQ 25 1 (Dn g))))
  (l6:nA aj (.one (.bk 1344320128 g 0))=some (.one (.p dv),r)) (hr:al.ff r=true) (hp:aI S f [.one (.p dv)] (rb b))
  (Vk:b=false->∀aD,aD 2=vb false->Q .ret aD aj)
  (VR:b=true->∀aD,aD 22=.one (hs 2496192640 g0 5)->aD 23=vi 5->aD 24=vi ((k+1:Nat):Int)->W S al (.loop i39_l1) Q aD aj):W S al (.loop i39_l1) Q ak aj:=by
 refine sA ?_;have aw:((k:Int)<5):=aa;have w1:=cK (n:=k) aa;cases b with
 |false=>simp only[go_sem,i39_l1,kY,jk,lZ,bV,aw,hk,hf,IY,oV,↓l6,abC hp,hr];exact Vk rfl _ (by simp only[go_sem])
 |true=>
  simp only[go_sem,i39_l1,kY,jk,lZ,bV,aw,hk,hf,IY,oV,↓l6,abC hp,hr,w1];refine VR rfl _ ?_ ?_ ?_
  .simp only[go_sem,kY]
  .simp only[go_sem,jk]
  simp only[go_sem]
theorem ag9(k:Nat){f:Nat}{P:V->aq->Prop}{b:Bool}(hk:k<5)(hf:(Dn g)[k]?=some [.hfn f [.bk 1344320128 g 0] []])(IY:S.shared f=true)(oV:al.ok 2496192640=true)
  (kY:ak 22=.one (hs 2496192640 g0 5)) (jk:ak 23=vi 5) (lZ:ak 24=vi k) (bV:aj 2496192640=(g0,some (.iQ 25 1 (Dn g))))
  (hh:al.holds (allow (S.ctx al) f [.one (.bk 1344320128 g 0)] aj)=true) (h:∃v ao,iJ S f [.one (.bk 1344320128 g 0)] (allow (S.ctx al) f [.one (.bk 1344320128 g 0)] aj) aj v ao/\P v ao)
  (hP:∀v ao,P v ao->v=vb b)
  (Vk:b=false->∀v aD ao,P v ao->aD 2=vb false->Q .ret aD ao)
  (VR:b=true->∀v aD ao,P v ao->aD 22=.one (hs 2496192640 g0 5)->aD 23=vi 5->aD 24=vi ((k+1:Nat):Int)->W S al (.loop i39_l1) Q aD ao):W S al (.loop i39_l1) Q ak aj:=by
 refine sA ?_;have aw:((k:Int)<5):=aa;have w1:=cK (n:=k) aa;simp only[go_sem,i39_l1,kY,jk,lZ,bV,aw,hk,hf,IY,oV];refine rM hh h fun v ao hp=>?_;have hv:=hP v ao hp;subst hv;cases b with
 |false=>simp only[go_sem];exact Vk rfl _ _ _ hp (by simp only[go_sem])
 |true=>
  simp only[go_sem,lZ,w1];refine VR rfl _ _ _ hp ?_ ?_ ?_
  .simp only[go_sem,kY]
  .simp only[go_sem,jk]
  simp only[go_sem]
end
theorem auk{al:Al}(okD:al.ok 1344320128=true)(okf:∀id,(je id=39\/je id=63\/je id=64)->al.ok id=true)(f1:al.fs.contains 63=true)(f2:al.fs.contains 64=true)
  {aj:aq} {g F:Nat} {ls:List Let} (hl:ls.length<=1000000) (hF:F<=1000000)
  (bD:aj 1344320128=(g,some (.var (uW F ls (.p .nils) (.p .nils) (.p .nils) (.p .rj) (.p .nils))))):∃v ao,iJ S 39 [.one (.bk 1344320128 g 0)] al aj v ao/\Xp F ls g aj v ao:=by
 have oV:=okf 2496192640 (.inl rfl);refine mr c39 (gY rfl) ?_;by_cases he:ls=[]
 .subst he;have hz:(((0:Nat):Int)==0)=true:=ae;simp only[go_sem,i39,bD,hz,okD];exact⟨rfl,Kept.refl _ _,fun h=>absurd rfl h,fun _=>rfl⟩
 have fA:=gV.2 he;have hnz:(((ls.length:Nat):Int)==0)=false:=by simp;omega
 obtain⟨l0,h0⟩:=aK fA;have uZ:decide (ls=[])=false:=by simp[he]
 have pl:=akn F ls (.sl []) (.sl []) (.sl []) .rj (.sl []) hl ⟨rfl,rfl,rfl,rfl,rfl⟩;have pb:=akh F ls l0 (.sl []) (.sl []) (.sl []) .rj (.sl []) hl h0;have acn:=M7 (F:=F) (ls:=ls);have fail:∀aD ao,Kept Kv aj ao->uh F ls=false->aD 2=vb false->nJ 0 (zU S al i39_r2 (lE al [(2,none)] (Xp F ls g aj))) .ret aD ao:=fun aD ao hk hv h2=>by simp only[go_sem,h2];exact⟨by rw[Rf,uZ,hv];rfl,hk,fun _ h=>(by rw[hv] at h;cases h),fun h=>absurd h he⟩
 have noL:EL F ls=false->uh F ls=false:=fun h=>by simp[uh,h]
 have Wp:¬(ls.any (dj F)=false/\yv ls=true/\kW ls=true)->uh F ls=false:=fun h=>noL (by
  cases hq:EL F ls with
  |false=>rfl
  |true=>exact absurd (acn.1 hq) h)
 simp only[go_sem,i39,bD,hnz,okD,oV];have dV:Kept Kv aj (dB aj 2496192640 ((aj 2496192640).1+1,some (.iQ 25 1 (Dn g)))):=Kept.dB (Kept.refl _ _) (.inr (.inl rfl)) _;generalize cU:dB aj 2496192640 ((aj 2496192640).1+1,some (.iQ 25 1 (Dn g)))=bG;rw[cU] at dV;have bV:bG 2496192640=((aj 2496192640).1+1,some (.iQ 25 1 (Dn g))):=by rw[<- cU];simp only[go_sem]
 have bD:bG 1344320128=(g,some (.var (uW F ls (.p .nils) (.p .nils) (.p .nils) (.p .rj) (.p .nils)))):=by rw[<- cU];simp only[go_sem,bD]
 clear cU;have l6:nA bG (.one (.bk 1344320128 g 0))=some (.one (.p (dgP F ls (.sl []) (.sl []) (.sl []) .rj (.sl []))),[1344320128]):=by simp only[go_sem,bD]
 have qq:al.ff [1344320128]=true:=by simp only[go_sem,okD]
 refine Xt 0 aa rfl s61 oV (by simp only[go_sem]) (by simp only[go_sem];rfl) (by simp only[go_sem];rfl) bV l6 qq pl (fun hb aD h2=>fail aD bG dV (Wp fun h=>by simp[h.1] at hb) h2) (fun hb aD zQ ub qA=>?_);have cU:ls.any (dj F)=false:=by simpa using hb
 have nM:∀l∈ls,dj F l=false:=fun l hl=>by simpa using Dt.1 cU l hl
 have hg:qe F ls:=fun l hl hp=>((r4 hp).1 (nM l hl)).1.1.1;refine Xt 1 aa rfl s62 oV zQ ub qA bV l6 qq pb (fun hb aD h2=>fail aD bG dV (by simp only[uh,h0,hb];rfl) h2) (fun hbg aD zQ ub qA=>?_);clear hb;have MJ:jd bG (.one (.bk 1344320128 g 0))=[1344320128]:=by rw[JG bD];simp[JF]
 refine ag9 (b:=yv ls) 2 aa rfl ah oV zQ ub qA bV ?_ (ark (sB (by simp[MJ])) (fun id h=>uQ (by rw[agn,h];rfl)) hl hF hg bD) (fun v ao h=>h.1) ?_ ?_
 .refine holds_of ?_ ?_
  .show al.ff ([V.one (.bk 1344320128 g 0)].map (jd bG)).flatten=true;simp only[dG,kE,MJ,lR,Hi,jR];exact qq
  show(S.sites 63).all al.fs.contains=true;rw[agn];simp only[lk,oG,f1];rfl
 .intro hb v aD ao hp h2;exact fail aD ao (dV.trans (hp.2.1.Rm fun id h=>h.elim .inl fun h=>.inr (.inr (.inl h)))) (Wp fun h=>by rw[h.2.1] at hb;cases hb) h2
 intro kz v aD aZ hp zQ ub qA;obtain⟨_,jH,sN⟩:=hp;obtain⟨g1,g2,g3,g5,bD,bC,bW,oO,bA⟩:=sN kz;have nL:BO F ls:=by obtain⟨a,b⟩:=(GQ hg).1 kz;exact⟨a,b⟩
 rw[aiO nL] at bA;rw[Fs hg] at bD;have bV:aZ 2496192640=((aj 2496192640).1+1,some (.iQ 25 1 (Dn g))):=by rw[<- bV];exact jH _ ae
 have aci:Kept Kv aj aZ:=dV.trans (jH.Rm fun id h=>h.elim .inl fun h=>.inr (.inr (.inl h)));have oC:=okf 4032064448 (.inr (.inl rfl));have oW:=okf 4032128448 (.inr (.inl rfl));have oP:=okf 4032192448 (.inr (.inl rfl));have oA:=okf 4033344128 (.inr (.inl rfl));have oM:=okf 4096256064 (.inr (.inr rfl));have MK:jd aZ (.one (.bk 1344320128 g 0))=[1344320128,4032128448,4033344128,4032192448,4032064448]:=by rw[JG bD];simp only[dG,kE,JF,De bW,De bA,De oO,De bC,lR,Hi,fp,jR,jg]
 refine ag9 (b:=kW ls) 3 aa rfl ah oV zQ ub qA bV ?_ (aki (sB (by simp[MK])) (fun id h=>uQ (by rw[ago,h];rfl)) hl bD) (fun v ao h=>h.1) ?_ ?_
 .refine holds_of ?_ ?_
  .show al.ff ([V.one (.bk 1344320128 g 0)].map (jd aZ)).flatten=true;simp only[dG,kE,MK,lR,Hi,jR,Jv,GJ,okD,oC,oW,oP,oA,wY]
  show(S.sites 64).all al.fs.contains=true;rw[ago];simp only[lk,oG,f2];rfl
 .intro hb v aD ao hp h2;exact fail aD ao (aci.trans (hp.2.1.Rm fun id h=>h.elim .inl fun h=>.inr (.inr (.inr h)))) (Wp fun h=>by rw[h.2.2] at hb;cases hb) h2
 intro eV v aD fG hp zQ ub qA;obtain⟨_,hk3,hr3⟩:=hp;obtain⟨g4,bD,bM⟩:=hr3 eV;have kp:∀id,je id=63->fG id=aZ id:=fun id h=>hk3 id (by
  rintro (e|e)
  .rw[e] at h;revert h;decide
  rw[e] at h;revert h;decide)
 rw[<- kp _ rfl] at bC bW oO bA;have bV:fG 2496192640=((aj 2496192640).1+1,some (.iQ 25 1 (Dn g))):=by rw[<- bV];exact hk3 _ ae
 have acj:Kept Kv aj fG:=aci.trans (hk3.Rm fun id h=>h.elim .inl fun h=>.inr (.inr (.inr h)));have ok:eS F ls:=⟨hl,nL,eV,fun l hl=>vQ (nM l hl)⟩;have pf:=alA ok;have hlR:EL F ls=true:=acn.2 ⟨cU,kz,eV⟩;have hvr:uh F ls=(mh ls==ay Let.aA ls+ay Let.aC ls/2+2):=by
  have ab3:(l0.kind==1)=true/\(ay Let.aA ls%2==0)=true:=by simpa using hbg
  simp only[uh,h0,ab3.1,ab3.2,hlR,Ds]
 have t1:List.take ls.length (bP (j5 ls))=bP (j5 ls):=fS (by simp[j5]);have t2:List.take (aE ls).length (nP (aE ls))=nP (aE ls):=fS af;have t3:List.take ls.length (nP (jB ls ls.length))=nP (jB ls ls.length):=fS (by simp[jB]);have t4:List.take (F+1) (nP (counts ls F))=nP (counts ls F):=fS (by simp[counts]);have n1:ls.length<=(j5 ls).length:=by simp[j5]
 have n3:ls.length<=(jB ls ls.length).length:=by simp[jB]
 have n4:F+1<=(counts ls F).length:=by simp[counts]
 have l6:nA fG (.one (.bk 1344320128 g 0))=some (.one (.p (mv F ls)),[1344320128,4032128448,4033344128,4032192448,4096256064,4032064448]):=by simp only[go_sem,agy,bD,bW,bA,oO,bC,bM,W7,t1,t2,t3,t4,n1,n3,n4]
 have qq:al.ff [1344320128,4032128448,4033344128,4032192448,4096256064,4032064448]=true:=by simp only[Jv,GJ,okD,oC,oW,oP,oA,oM,wY]
 refine Xt 4 aa rfl s65 oV zQ ub qA bV l6 qq pf (fun hb aD h2=>fail aD fG acj (by rw[hvr];exact hb) h2) (fun rR aD zQ ub qA=>?_);have hv:uh F ls=true:=by rw[hvr];exact rR
 refine sA ?_;have n5:¬((((4+1:Nat)):Int)<5):=ae;simp only[go_sem,i39_l1,i39_r2,ub,qA,n5];exact⟨by rw[Rf,uZ,hv];rfl,acj,fun _ _=>⟨g1,g2,g3,g4,g5,bD,bC,bW,oO,bA,bM⟩,fun h=>absurd h he⟩
abbrev y8(f:Int):PV:=dgP f [] (.sl []) (.sl []) (.sl []) .rj (.sl [])
abbrev vu(a b:PV):RV:=.tup [.one (.p a),.one (.p b)]
def GR(f:Int)(ls:List Let):RV:=if cN f ls=0 then vu (if ls=[] then y8 f else mv f.toNat ls) (.int .i64 0) else vu .uG (.int .i64 (cN f ls))
theorem ia{aj:aq}{s:Nat}{a b:PV}{l:Bool}:land aj [] s ((vu a b).ig l)=some (.tup [.one (.p a),.one (.p b)],[]):=by cases l<;>rfl
theorem Nv{f:Int}{e:Int}(h:cN f ls=e)(he:e≠0):GR f ls=vu .uG (.int .i64 e):=by unfold GR;rw[h,if_neg he]
theorem JH{f:Int}(h:cN f ls=0):GR f ls=vu (if ls=[] then y8 f else mv f.toNat ls) (.int .i64 0):=by unfold GR;rw[if_pos h]
theorem Nw(f:Int)(ls:List Let)(hl:ls.length<=1000000):aI S 21 [eY f ls] (GR f ls):=by
 have pc:=SR f ls hl;refine aY c21 ?_;by_cases h1:400<ls.length
 .have sF:(400:Int)<(ls.length:Int):=aa;rw[Nv (e:=7) (by unfold cN;rw[if_pos (Or.inl h1)]) ae];simp only[go_sem,i21,sF];rfl
 have sF:¬(400:Int)<(ls.length:Int):=aa;by_cases h2:200<ay Let.aC ls
 .have mz:(200:Int)<(ay Let.aC ls:Int):=aa;rw[Nv (e:=7) (by unfold cN;rw[if_pos (Or.inr h2)]) ae];simp only[go_sem,i21,sF,mz,s38,eH pc];rfl
 have mz:¬(200:Int)<(ay Let.aC ls:Int):=aa;have n1:¬(400<ls.length\/200<ay Let.aC ls):=aa;by_cases h3:f<0
 .rw[Nv (e:=2) (by unfold cN;rw[if_neg n1,if_pos (Or.inl h3)]) ae];simp only[go_sem,i21,sF,mz,h3,s38,eH pc];rfl
 by_cases h4:40<f
 .rw[Nv (e:=2) (by unfold cN;rw[if_neg n1,if_pos (Or.inr h4)]) ae];simp only[go_sem,i21,sF,mz,h3,h4,s38,eH pc];rfl
 have n2:¬(f<0\/40<f):=aa;obtain⟨F,rfl⟩:=r8 (show 0<=f by omega);have iw:S.shared 39=true:=ah;simp only[go_sem,i21,sF,mz,h3,h4,s38,eH pc,iw];refine rM (P:=Xp F ls 1 _) zH (auk (F:=F) (ls:=ls) ?_ ?_ ?_ ?_ hl aa ?_) ?_
 .refine sB ?_;rw[dG,kE,JG (g0:=1) (cs:=uW F ls (.p .nils) (.p .nils) (.p .nils) (.p .rj) (.p .nils)) (by simp only[go_sem])];simp
 .intro id h;refine uQ ?_;rw[W1];rcases h with h|h|h<;>rw[h]<;>rfl
 .show(S.sites 39).contains _=true;rw[W1];rfl
 .show(S.sites 39).contains _=true;rw[W1];rfl
 .simp only[go_sem]
 rintro v ao ⟨rfl,hk,hr,hz⟩
 unfold Rf;by_cases he:ls=[]
 .have hc:cN F ls=0:=by unfold cN;rw[if_neg n1,if_neg n2,if_pos he]
  have bD:=hz he;rw[JH hc,if_pos he];have uZ:(decide (ls=[])||uh F ls)=true:=by simp[he]
  rw[uZ];subst he;simp only[go_sem] at bD;simp only[go_sem];simp only[go_sem,iA,rK,tD,my,lM,jc,bD];rfl
 have uZ:decide (ls=[])=false:=by simp[he]
 cases hv:uh F ls with
 |false=>rw[Nv (e:=3) (by unfold cN;rw[if_neg n1,if_neg n2,if_neg he,hv];rfl) ae];rw[uZ,Bw];simp only[go_sem];rfl
 |true=>
  have hc:cN F ls=0:=by unfold cN;rw[if_neg n1,if_neg n2,if_neg he,hv];rfl
  rw[JH hc,if_neg he];obtain⟨g1,g2,g3,g4,g5,bD,bC,bW,oO,bA,bM⟩:=hr he hv;have hFn:(F:Int).toNat=F:=rfl;rw[hFn];have t1:List.take ls.length (bP (j5 ls))=bP (j5 ls):=fS (by simp[j5]);have t2:List.take (aE ls).length (nP (aE ls))=nP (aE ls):=fS af;have t3:List.take ls.length (nP (jB ls ls.length))=nP (jB ls ls.length):=fS (by simp[jB]);have t4:List.take (F+1) (nP (counts ls F))=nP (counts ls F):=fS (by simp[counts]);have n1:ls.length<=(j5 ls).length:=by simp[j5]
  have n3:ls.length<=(jB ls ls.length).length:=by simp[jB]
  have n4:F+1<=(counts ls F).length:=by simp[counts]
  rw[uZ,Bw];simp only[go_sem];simp only[go_sem,iA,rK,tD,my,lM,jc,agy,bD,bW,bA,oO,bC,bM,W7,t1,t2,t3,t4,n1,n3,n4];rfl
theorem Ss(f:Int)(ls:List Let)(hl:ls.length<=1000000):aI S 18 [eY f ls] (ri (cN f ls)):=by
 have pr:=Nw f ls hl;refine aY c18 ?_;unfold GR at pr;by_cases h:cN f ls=0
 .rw[if_pos h] at pr;simp only[go_sem,i18,s21,cX pr ia,h]
 rw[if_neg h] at pr;simp only[go_sem,i18,s21,cX pr ia]
abbrev lL(k a b c:Int)(l o:Bool)(s:Int):V:=.agg [.p (.int .i64 k),.p (.int .i64 a),.p (.int .i64 b),.p (.int .i64 c),.p (.bool l),.p (.bool o),.p (.int .i64 s)]
abbrev sX(e:Int):RV:=.tup [.agg [.p (.int .i64 0),.p .nils],.one (.p (.int .i64 e))]
theorem aoj{aj:aq}{s:Nat}{e:Int}{l:Bool}:land aj [] s ((sX e).ig l)=some (.tup [.agg [.p (.int .i64 0),.p .nils],.one (.p (.int .i64 e))],[]):=by cases l<;>rfl
section
variable {f:Int} {ls:List Let} {e:Int}
abbrev kinds(k:Nat):List Nat:=(List.range k).map (· +1)
end
def iX(n v:Nat)(fw:Bool):Nat:=if fw then 2*((v+n-1)%n) else 2*v+1
def lvV(n e:Nat):Nat:=if e%2=0 then e/2 else (e/2+1)%n
theorem wP{n v:Nat}(hv:v<n):((v+n-1)%n+1)%n=v:=by
 by_cases h:v=0
 .subst h;rw[iD,gD (show n-1<n by omega),show n-1+1=n by omega,yH]
 rw[show v+n-1=(v-1)+n by omega,w9,gD (show v-1<n by omega),show v-1+1=v by omega,gD hv]
theorem EO{n v:Nat}(hv:v<n):((v+1)%n+n-1)%n=v:=by
 by_cases h:v+1=n
 .rw[h,yH,iD,gD (show n-1<n by omega)];omega
 rw[gD (show v+1<n by omega),show v+1+n-1=v+n by omega,w9,gD hv]
theorem aen{n v:Nat}(hv:v<n)(g:Bool):lvV n (dD n v g)=v/\(dD n v g%2==0)=g:=by
 unfold lvV dD;cases g with
 |true=>have h1:(2*v)%2=0:=aa;simp only[if_true,h1];exact⟨aa,rfl⟩
 |false=>have h1:(2*((v+n-1)%n)+1)%2=1:=aa;have h2:(2*((v+n-1)%n)+1)/2=(v+n-1)%n:=aa;simp only[dx,if_false,h1,h2,Nat.one_ne_zero,wP hv];exact⟨trivial,rfl⟩
def JC(ls:List Let)(ax:List Nat)(e:Nat):Nat:=
 if 2*ls.length<=e then
  if e%2=0 then iX ls.length (ax.getD ((e-2*ls.length)/2) 0) (dn ls (ax.getD ((e-2*ls.length)/2) 0))
  else iX ls.length (ax.getD (((e-2*ls.length)/2+1)%ax.length) 0) (!dn ls (ax.getD (((e-2*ls.length)/2+1)%ax.length) 0))
 else
  let v:=lvV ls.length e
  let g:=e%2==0
  match ls[v]? with
  |none=>0
  |some l=>if l.kind==2 then
    match ls[ib ls v]? with
    |some u=>iX ls.length (ib ls v) (g==(u.over==(u.sign==1)))
    |none=>0
   else if g==dn ls v then 2*ls.length+2*ax.idxOf v+1 else 2*ls.length+2*((ax.idxOf v+ax.length-1)%ax.length)
theorem rl(hr:kW ls=true){i:Nat}{l:Let}(hl:ls[i]?=some l)(hc:l.aC=true):ib ls (ib ls i)=i/\ ∃m,ls[ib ls i]?=some m/\m.aC=true/\m.id=l.id/\m.over= !l.over/\m.sign=l.sign:=by
 obtain⟨h1,h2⟩:=Ql hr hl hc;obtain⟨_,h3⟩:=G9 h1;obtain⟨m,hm,mc,mi,mo⟩:=Ay h3;have hp:GK ls:=by have:=hr;unfold kW at this;simp only[cH,beq_iff_eq,jf,fm] at this;exact(Hc.1 this.1.2).2
 have aF:i≠ib ls i:=by intro e;rw[<- e,hl] at hm;cases hm;revert mo;cases l.over<;>simp
 obtain⟨h4,h5⟩:=Ql hr hm mc;obtain⟨_,h6⟩:=G9 h4;obtain⟨x,hx,xc,xi,xo⟩:=Ay h6;refine⟨?_,m,hm,mc,mi,mo,((hp i _ l m hl hm hc mc mi.symm aF).2).symm⟩;refine Decidable.byContradiction fun hn=>?_;have:=(hp _ i x l hx hl xc hc (by rw[xi,mi]) hn).1;rw[xo,mo] at this;revert this;cases l.over<;>simp
theorem ag3{ax:List Nat}{d v:Nat}{fw:Bool}{l:Let}(h:¬2*ls.length<=d)(zx:(d%2==0)=fw)(hv:v=if fw then (d/2+1)%ls.length else d/2)(hl:ls[v]?=some l):
  nE ls ax d=if l.kind==2 then dD ls.length (ib ls v) (fw==(l.over==(l.sign==1)))
   else if dn ls v==fw then 2*ls.length+2*ax.idxOf v else 2*ls.length+2*((ax.idxOf v+ax.length-1)%ax.length)+1:=by
 subst zx;subst hv;unfold nE;rw[if_neg h];simp only[hl]
theorem afy(ok:eS F ls){d:Nat}(hd:d<2*ls.length+2*(aE ls).length):JC ls (aE ls) (nE ls (aE ls) d)=d:=by
 have nL:∀x∈aE ls,x<ls.length/\ ∃l,ls[x]?=some l/\l.aA=true:=fun x hx=>by obtain⟨l,h1,h2⟩:=uS.1 hx;exact⟨(aS.1 h1).1,l,h1,h2⟩
 have Vo:∀ {p v:Nat},(aE ls)[p]?=some v->(aE ls).idxOf v=p:=fun {p v} hp=>by obtain⟨l,hl,CH,he⟩:=BQ ok.ax hp;rw[HC ok.ax hl CH,he]
 have along_small:∀ {v:Nat} (g:Bool),v<ls.length-> ¬2*ls.length<=dD ls.length v g:=fun {v} g hv=>by have:=Hy (n:=ls.length) (fw:=g) hv;omega
 have notC:∀ {l:Let},l.aA=true->(l.kind==2)=false:=fun {l} h=>n9 h;have fromAxis:∀ {p v:Nat} (g:Bool),(aE ls)[p]?=some v->JC ls (aE ls) (dD ls.length v g)=if g==dn ls v then 2*ls.length+2*p+1 else 2*ls.length+2*((p+(aE ls).length-1)%(aE ls).length):=by intro p v g hp;obtain⟨hv,l,hl,CH⟩:=nL v (aU hp);obtain⟨e1,e2⟩:=aen hv g;unfold JC;rw[if_neg (along_small g hv)];simp only[e1,e2,hl,notC CH,Vo hp];rfl
 by_cases h:2*ls.length<=d
 .unfold nE;rw[if_pos h];have hm:=dQ ((d-2*ls.length)/2+1) (show 0<(aE ls).length by omega);by_cases h2:d%2=0
  .rw[if_pos h2];obtain⟨v,hv⟩:=aK hm;have tR:(aE ls).getD (((d-2*ls.length)/2+1)%(aE ls).length) 0=v:=by rw[de,hv];rfl
   rw[tR,fromAxis _ hv];have hb:((!dn ls v)==dn ls v)=false:=by cases dn ls v<;>rfl
   rw[hb,EO (show(d-2*ls.length)/2<(aE ls).length by omega)];simp only[dx,if_false];omega
  rw[if_neg h2];obtain⟨v,hv⟩:=aK (ls:=aE ls) (k:=(d-2*ls.length)/2) aa;have tR:(aE ls).getD ((d-2*ls.length)/2) 0=v:=by rw[de,hv];rfl
  rw[tR,fromAxis _ hv];simp only[beq_self_eq_true,if_true];omega
 have hn:0<ls.length:=aa;have rV:=dQ (d/2+1) hn;have key:∀(v:Nat) (fw:Bool),v<ls.length->(d%2==0)=fw->v=(if fw then (d/2+1)%ls.length else d/2)->iX ls.length v fw=d:=by
  intro v fw hv zx iT;unfold iX;cases fw with
  |true=>
   have zx:d%2=0:=by simpa using zx
   simp only[if_true] at iT ⊢;rw[iT,EO (show d/2<ls.length by omega)];omega
  |false=>
   have zx:d%2≠0:=by simpa using zx
   simp only[dx,if_false] at iT ⊢;omega
 generalize hv:(if (d%2==0)=true then (d/2+1)%ls.length else d/2)=v;generalize zx:(d%2==0)=fw at hv;have xZ:v<ls.length:=by rw[<- hv];split<;>omega
 have Vq:=key v fw xZ zx hv.symm;obtain⟨l,hl⟩:=aK xZ;rw[ag3 h zx hv.symm hl];cases hk:(l.kind==2) with
 |true=>
  have hc:l.aC=true:=hk;obtain⟨hb,m,hm,mc,mi,mo,ms⟩:=rl ok.cr hl hc;have MB:=(Ql ok.cr hl hc).2;rw[if_pos rfl];obtain⟨e1,e2⟩:=aen MB (fw==(l.over==(l.sign==1)));unfold JC;rw[if_neg (along_small _ MB)];have mk:(m.kind==2)=true:=mc;simp only[e1,e2,hm,mk,if_true,hb,hl];have Cr:((fw==(l.over==(l.sign==1)))==(l.over==(l.sign==1)))=fw:=by cases fw<;>cases (l.over==(l.sign==1))<;>rfl
  rw[Cr];exact Vq
 |false=>
  have hp:=ok.PO hl hk;have IL:=HC ok.ax hl hp;have bK:=Oh ok.ax hl hp;have hpT:=(aS.1 bK).1;rw[if_neg af,IL];cases hq:(dn ls v==fw) with
  |true=>
   simp only[if_true];unfold JC;rw[if_pos aa,if_pos aa];have e1:(2*ls.length+2*dM ls l-2*ls.length)/2=dM ls l:=aa;have e2:(aE ls).getD (dM ls l) 0=v:=by rw[de,bK];rfl
   rw[e1,e2,show dn ls v=fw by simpa using hq];exact Vq
  |false=>
   have ni:=dQ (dM ls l+(aE ls).length-1) (show 0<(aE ls).length by omega);simp only[dx,if_false];unfold JC;rw[if_pos aa,if_neg aa];have e1:(2*ls.length+2*((dM ls l+(aE ls).length-1)%(aE ls).length)+1-2*ls.length)/2=(dM ls l+(aE ls).length-1)%(aE ls).length:=aa;have e2:(aE ls).getD (dM ls l) 0=v:=by rw[de,bK];rfl
   rw[e1,wP hpT,e2,show(!dn ls v)=fw by revert hq;cases dn ls v<;>cases fw<;>simp];exact Vq
theorem auh(ok:eS F ls){d e:Nat}(hd:d<2*ls.length+2*(aE ls).length)(he:e<2*ls.length+2*(aE ls).length)(h:aT ls d=aT ls e):d=e:=by have h1:=afy ok hd;have h2:=afy ok he;rw[<- h1,<- h2];exact congrArg _ h
def pwF(next:Nat->Nat)(n2:Nat):Nat->Nat->List Bool->List Nat×List Bool
 |0,_,sp=>([],sp)
 |k+1,x,sp=>if x<n2 then
   if sp.getD x true then ([],sp) else (x::(pwF next n2 k (next x) (sp.set x true)).1,(pwF next n2 k (next x) (sp.set x true)).2)
  else (x::(pwF next n2 k (next x) sp).1,(pwF next n2 k (next x) sp).2)
abbrev sn(S:List Bool)(x:Nat):Bool:=S.getD x true
theorem NF{S:List Bool}{y:Nat}(hx:x<S.length):sn (S.set x true) y=if y=x then true else sn S y:=by
 unfold sn;rw[de,de,oI];by_cases h:x=y
 .subst h;simp[hx]
 rw[if_neg h,if_neg (fun e=>h e.symm)]
structure yJ (next:Nat->Nat) (n2 N:Nat):Prop where
 le:n2<=N
 lt:∀x,x<N->next x<N
 inj:∀x y,x<N->y<N->next x=next y->x=y
 ax:∀x,x<N->n2<=x->next x<n2
def Ku(next:Nat->Nat)(N:Nat)(S:List Bool):Prop:=∀y,y<N->sn S y=sn S (next y)
structure Inv (next:Nat->Nat) (N d:Nat) (S:List Bool) (x:Nat):Prop where
 i1:∀y,y<N->sn S (next y)=true->sn S y=true\/next y=d
 i2:∀y,y<N->sn S y=true->sn S (next y)=true\/next y=x
 i4:sn S x=true->x=d
 pr:(x=d/\sn S x=false)\/ ∃p,p<N/\next p=x/\sn S p=true
theorem Inv.start{next:Nat->Nat}{N d:Nat}{S:List Bool}(h:Ku next N S)(hd:sn S d=false):Inv next N d S d:=
 ⟨fun y hy hs=>.inl (by rw[h y hy];exact hs),fun y hy hs=>.inl (by rw[<- h y hy];exact hs),fun _=>rfl,.inl ⟨rfl,hd⟩⟩
theorem Inv.stop{next:Nat->Nat}{N d:Nat}{S:List Bool}(m:yJ next n2 N)(h:Inv next N d S x)(hx:sn S x=true):Ku next N S:=by
 have hxd:=h.i4 hx;subst hxd;intro y hy;cases h1:sn S y with
 |true=>
  rcases h.i2 y hy h1 with h2|h2
  .rw[h2]
  rw[h2,hx]
 |false=>
  cases h2:sn S (next y) with
  |false=>rfl
  |true=>
   rcases h.i1 y hy h2 with h3|h3
   .rw[h3] at h1;cases h1
   rcases h.pr with ⟨_,h4⟩|⟨p,hp,j7,dp⟩
   .rw[hx] at h4;cases h4
   have:=m.inj y p hy hp (by rw[h3,j7]);rw[this,dp] at h1;cases h1
theorem Inv.step{next:Nat->Nat}{N d:Nat}{S:List Bool}(m:yJ next n2 N)(hl:S.length=N)(AW:x<N)(h:Inv next N d S x)(hx:sn S x=false):Inv next N d (S.set x true) (next x):=by
 have vk:x<S.length:=aa;refine⟨fun y hy hs=>?_,fun y hy hs=>?_,fun hs=>?_,.inr ⟨x,AW,rfl,by rw[NF vk,if_pos rfl]⟩⟩
 .rw[NF vk] at hs ⊢;by_cases e:next y=x
  .rcases h.pr with ⟨h1,_⟩|⟨p,hp,j7,dp⟩
   .exact .inr (by rw[e,h1])
   have:=m.inj y p hy hp (by rw[e,j7]);left;rw[this];split
   .rfl
   exact dp
  rw[if_neg e] at hs;rcases h.i1 y hy hs with h2|h2
  .left;split
   .rfl
   exact h2
  exact .inr h2
 .rw[NF vk] at hs ⊢;by_cases e:y=x
  .subst e;exact .inr rfl
  rw[if_neg e] at hs;rcases h.i2 y hy hs with h2|h2
  .left;split
   .rfl
   exact h2
  left;rw[if_pos h2]
 rw[NF vk] at hs;by_cases e:next x=x
 .rcases h.pr with ⟨h1,_⟩|⟨p,hp,j7,dp⟩
  .rw[e,h1]
  have:=m.inj p x hp AW (by rw[j7,e]);rw[this,hx] at dp;cases dp
 rw[if_neg e] at hs;rcases h.i1 x AW hs with h2|h2
 .rw[hx] at h2;cases h2
 exact h2
theorem W3{S:List Bool}(hx:x<n2)(hl:n2<=S.length):(S.take n2).getD x true=sn S x:=by unfold sn;rw[de,de,jt,if_pos hx]
theorem agW{S:List Bool}:(S.take n2).set x true=(S.set x true).take n2:=by rw[<- List.take_set]
theorem agV{S:List Bool}(hx:n2<=x):(S.set x true).take n2=S.take n2:=by rw[List.take_set];exact Rs (by rw[eQ];omega)
theorem auB{next:Nat->Nat}{N d:Nat}(m:yJ next n2 N)(hd:d<n2):∀(fuel x:Nat) (S:List Bool),S.length=N->x<N->Inv next N d S x->Bs S<fuel->
  Ku next N (fQ next fuel x S).2/\pwF next n2 fuel x (S.take n2)=((fQ next fuel x S).1,(fQ next fuel x S).2.take n2):=by
 intro fuel
 induction fuel with
 |zero=>intro x S _ _ _ h;omega
 |succ fuel ih=>
  intro x S hl hx hi hu;have hle:=m.le;unfold fQ pwF;cases hs:S.getD x true with
  |true=>have hxd:=hi.i4 hs;have aw:x<n2:=aa;rw[if_pos aw,W3 aw aa,show sn S x=true from hs];exact⟨hi.stop m hs,rfl⟩
  |false=>
   have I0:S[x]?=some false:=by
    rw[de] at hs;cases h1:S[x]? with
    |none=>rw[h1] at hs;cases hs
    |some b=>rw[h1] at hs;exact congrArg some hs
   have Gq:=Re I0;obtain⟨c1,c2⟩:=ih (next x) (S.set x true) (by rw[th,hl]) (m.lt x hx) (hi.step m hl hx hs) aa;simp only[dx,if_false];refine⟨c1,?_⟩;by_cases aw:x<n2
   .rw[if_pos aw,W3 aw aa,show sn S x=false from hs];simp only[dx,if_false];rw[agW,c2]
   rw[if_neg aw];rw[agV aa] at c2;rw[c2]
theorem eS.nL(_:eS F ls):∀x∈aE ls,x<ls.length:=fun _ h=>Yk h
theorem eS.hp(ok:eS F ls):∀v l,ls[v]?=some l->(l.kind==2)=false->v∈aE ls:=fun _ l hv h2=>uS.2 ⟨l,hv,ok.PO hv h2⟩
abbrev nD(ls:List Let):Nat:=2*ls.length+2*(aE ls).length
theorem maps(ok:eS F ls):yJ (aT ls) (2*ls.length) (nD ls):=by
 refine⟨by unfold nD;omega,fun x hx=>Xm ok.nL ok.hp hx,fun x y hx hy h=>auh ok hx hy h,fun x hx hn=>?_⟩;have hx:x<2*ls.length+2*(aE ls).length:=hx;have Cy:∀k,k<(aE ls).length->(aE ls).getD k 0<ls.length:=fun k hk=>by obtain⟨v,hv⟩:=aK hk;rw[de,hv];exact ok.nL v (aU hv)
 have hm:=dQ ((x-2*ls.length)/2+1) (show 0<(aE ls).length by omega);show nE ls (aE ls) x<_;unfold nE;rw[if_pos hn];split
 .exact Hy (Cy _ hm)
 exact Hy (Cy _ aa)
theorem ahf(next:Nat->Nat):∀(k x:Nat) (S:List Bool) (y:Nat),sn S y=true->sn (fQ next k x S).2 y=true:=by
 intro k
 induction k with
 |zero=>intro x S y h;exact h
 |succ k ih=>
  intro x S y h;unfold fQ;split
  .exact h
  refine ih _ _ _ ?_;unfold sn;rw[de,oI];split
  .split<;>rfl
  rw[<- de];exact h
theorem ahd(next:Nat->Nat)(k x:Nat)(S:List Bool)(hk:Bs S<k):sn (fQ next k x S).2 x=true:=by
 cases k with
 |zero=>omega
 |succ k=>
  unfold fQ;cases hs:S.getD x true with
  |true=>simpa using hs
  |false=>
   simp only[dx,if_false];refine ahf _ _ _ _ _ ?_;unfold sn;rw[de,oI];split
   .split<;>rfl
   rename_i h;exact absurd rfl h
section
variable {next:Nat->Nat} {n2 N:Nat}
theorem W2(h:x<N):sn (List.replicate N false) x=false:=by unfold sn;rw[de,List.getElem?_replicate,if_pos h];rfl
theorem Ri(m:yJ next n2 N):∀k,k<=n2->Ku next N (dR next N k).2/\ ∀x,x<k->sn (dR next N k).2 x=true:=by
 intro k
 induction k with
 |zero=>intro _;refine⟨fun y hy=>?_,fun x h=>absurd h (qE x)⟩;show sn (List.replicate N false) y=sn (List.replicate N false) (next y);rw[W2 hy,W2 (m.lt y hy)]
 |succ k ih=>
  intro hk;obtain⟨c,s⟩:=ih aa;have hlen:=Kg next N k;have hle:=m.le;rw[Bv];unfold yD;cases hs:(dR next N k).2.getD k true with
  |true=>
   simp only[if_true];refine⟨c,fun x hx=>?_⟩;rcases pV.1 hx with h|rfl
   .exact s x h
   exact hs
  |false=>
   simp only[dx,if_false];have Gp:=NK (dR next N k).2;obtain⟨c1,_⟩:=auB m (show k<n2 by omega) ((dR next N k).2.length+1) k (dR next N k).2 hlen aa (Inv.start c hs) aa;refine⟨c1,fun x hx=>?_⟩;rcases pV.1 hx with h|rfl
   .exact ahf _ _ _ _ _ (s x h)
   exact ahd _ _ _ _ aa
theorem Xu(m:yJ next n2 N):∀k,n2<=k->k<=N->dR next N k=dR next N n2:=by
 intro k
 induction k with
 |zero=>intro h _;rw[show n2=0 by omega]
 |succ k ih=>
  intro h1 h2;by_cases e:n2=k+1
  .rw[e]
  rw[Bv,ih aa aa];obtain⟨c,s⟩:=Ri m n2 (aX _);unfold yD;have:(dR next N n2).2.getD k true=true:=by have h3:=c k aa;have h4:=s (next k) (m.ax k aa aa);show sn (dR next N n2).2 k=true;rw[h3,h4]
  rw[this];rfl
end

abbrev ow(o:List (Nat×Nat)):List (List PV):=o.map fun p=>[PV.int .i64 (p.1:Int),PV.int .i64 (p.2:Int)]
def r7(g r to:Nat):List (Nat×Nat):=(g,r)::(List.range (to-g)).map fun i=>(g+1+i,0)
def uf(g to:Nat):List Nat:=(List.range (to-g)).map fun i=>g+1+i
abbrev Db:Nat:=178
def gN (ls:List Let)(i:Nat):Nat:=match ls[i]? with|some l=>l.gate.toNat|none=>0
def rN (ls:List Let)(i:Nat):Nat:=match ls[i]? with|some l=>l.aB.toNat|none=>0
theorem FU{i:Nat}{l:Let}(h:ls[i]?=some l):gN ls i=l.gate.toNat:=by simp[gN,h]
theorem ari{i:Nat}{l:Let}(h:ls[i]?=some l):rN ls i=l.aB.toNat:=by simp[rN,h]
def tY(F:Nat)(ls:List Let)(j:Nat):List (Nat×Nat):=
 let u:=(aE ls).getD j 0
 let v:=(aE ls).getD ((j+1)%(aE ls).length) 0
 if j+1<(aE ls).length then r7 (gN ls u) (rN ls u) (gN ls v) else r7 (gN ls u) (rN ls u) F++r7 0 0 (gN ls v)
def Da(F:Nat)(ls:List Let)(j:Nat):List Nat:=
 let u:=(aE ls).getD j 0
 let v:=(aE ls).getD ((j+1)%(aE ls).length) 0
 if j+1<(aE ls).length then uf (gN ls u) (gN ls v) else uf (gN ls u) F++uf 0 (gN ls v)
theorem Jz(a b:List (Nat×Nat)):ow (a++b)=ow a++ow b:=af
theorem Jk(a b:List Nat):nP (a++b)=nP a++nP b:=af
theorem Bm(g r to:Nat):(r7 g r to).length=to-g+1:=by simp[r7]
theorem Q1(g to:Nat):(uf g to).length=to-g:=by simp[uf]
theorem Yn(ok:eS F ls)(hj:j<(aE ls).length):∃u l,(aE ls)[j]?=some u/\(aE ls).getD j 0=u/\ls[u]?=some l/\l.aA=true/\uw F ls l:=by obtain⟨u,hu⟩:=aK hj;obtain⟨l,h1,h2⟩:=uS.1 (aU hu);exact⟨u,l,hu,by rw[de,hu];rfl,h1,h2,ok.ax.eU l (aU h1) h2⟩
structure Fc where
 fZ:Bool
 dh:List Nat
 places:List (Nat×Nat)
 xB:List Nat
 outer:Bool
def Fc.ps(f:Fc):List PV:=[.bool f.fZ,.sl (nP f.dh),.sl (ow f.places),.sl (nP f.xB),.bool f.outer]
def Fc.add(F:Nat)(ls:List Let)(f:Fc)(x:Nat):Fc:=
 if x<2*ls.length then {f with dh:=f.dh++[x]}
 else {f with places:=f.places++(if x%2=0 then tY F ls ((x-2*ls.length)/2) else (tY F ls ((x-2*ls.length)/2)).reverse),xB:=f.xB++(if x%2=0 then Da F ls ((x-2*ls.length)/2) else (Da F ls ((x-2*ls.length)/2)).reverse),outer:=f.outer||decide ((x-2*ls.length)/2+1=(aE ls).length)}
def Fc.new(ls:List Let)(d:Nat):Fc:=⟨dn ls (d/2+1),[],[],[],false⟩
def mY(F:Nat)(ls:List Let)(w:List Nat):Fc:=w.foldl (Fc.add F ls) (Fc.new ls (w.headD 0))
def eI(F:Nat)(ls:List Let):List Fc:=(js (aT ls) (nD ls)).map (mY F ls)
theorem OZ(ok:eS F ls)(hj:j<(aE ls).length):gN ls ((aE ls).getD j 0)<=F:=by obtain⟨u,l,_,du,hl,_,hg⟩:=Yn ok hj;rw[du,FU hl];have:=hg.g1;have:=hg.g0;omega
theorem afn(ok:eS F ls)(hj:j<(aE ls).length):(tY F ls j).length<=2*F+2:=by have h1:=OZ ok hj;have h2:=OZ ok (dQ (j+1) (show 0<(aE ls).length by omega));unfold tY;simp only;split<;>simp only[dX,Bm]<;>omega
theorem afm(ok:eS F ls)(hj:j<(aE ls).length):(Da F ls j).length<=2*F+2:=by have h1:=OZ ok hj;have h2:=OZ ok (dQ (j+1) (show 0<(aE ls).length by omega));unfold Da;simp only;split<;>simp only[dX,Q1]<;>omega
theorem auy(next:Nat->Nat):∀(k x:Nat) (S:List Bool),∀y∈(fQ next k x S).1,y<S.length:=by
 intro k
 induction k with
 |zero=>intro x S y h;simp[fQ] at h
 |succ k ih=>
  intro x S y h;unfold fQ at h;cases hs:S.getD x true with
  |true=>rw[hs] at h;simp at h
  |false=>
   rw[hs] at h;have hx:x<S.length:=by
    rcases Nat.lt_or_ge x S.length with h1|h1
    .exact h1
    rw[de,lS h1] at hs;cases hs
   simp only[dx,if_false,cM] at h;rcases h with rfl|h
   .exact hx
   have:=ih _ _ y h
   simpa using this
theorem auz(next:Nat->Nat):∀(k x:Nat) (S:List Bool),(fQ next k x S).1.length<=Bs S:=by
 intro k
 induction k with
 |zero=>intro x S;simp[fQ]
 |succ k ih=>
  intro x S;unfold fQ;cases hs:S.getD x true with
  |true=>simp
  |false=>
   have I0:S[x]?=some false:=by
    rw[de] at hs;cases h1:S[x]? with
    |none=>rw[h1] at hs;cases hs
    |some b=>rw[h1] at hs;exact congrArg some hs
   have Gq:=Re I0;have:=ih (next x) (S.set x true);simp only[dx,if_false,cq];omega
theorem ahc(next:Nat->Nat){k:Nat}{S:List Bool}(h:S.getD x true=false):∃t,(fQ next (k+1) x S).1=x::t:=by unfold fQ;rw[h];exact⟨_,rfl⟩
theorem auC(next:Nat->Nat)(N:Nat):∀k,∀w∈(dR next N k).1,(∃d t,w=d::t/\d<k)/\w.length<=N/\ ∀y∈w,y<N:=by
 intro k
 induction k with
 |zero=>intro w h;simp[dR] at h
 |succ k ih=>
  intro w h;rw[Bv] at h;unfold yD at h;have hlen:=Kg next N k;have old:w∈(dR next N k).1->(∃d t,w=d::t/\d<k+1)/\w.length<=N/\ ∀y∈w,y<N:=fun h=>by obtain⟨⟨d,t,h1,h2⟩,h3⟩:=ih w h;exact⟨⟨d,t,h1,aa⟩,h3⟩
  cases hs:(dR next N k).2.getD k true with
  |true=>simp only[hs,if_true] at h;exact old h
  |false=>
   simp only[hs,dx,if_false,eF,mR] at h;rcases h with h|rfl
   .exact old h
   obtain⟨t,ht⟩:=ahc next (k:=(dR next N k).2.length) hs;refine⟨⟨k,t,ht,aa⟩,?_,fun y hy=>?_⟩
   .have h1:=auz next ((dR next N k).2.length+1) k (dR next N k).2;have h2:=NK (dR next N k).2;omega
   have:=auy next _ _ _ y hy;omega
theorem NN(ok:eS F ls):∀w∈js (aT ls) (nD ls),(∃d t,w=d::t/\d<2*ls.length)/\w.length<=nD ls/\ ∀y∈w,y<nD ls:=by intro w h;unfold js at h;rw[Xu (maps ok) (nD ls) (by unfold nD;omega) (aX _)] at h;exact auC (aT ls) (nD ls) _ w h
abbrev Ai:Nat:=155
theorem au4{a b:PV}{id g z o l:Nat}{cp cf:C}:Bq [[.p a,.hsl id g z o l,cp,cf,.p b]]=none:=rfl
theorem akE{aj:aq}{s g ty sd td zd sp tp zp sf tf zf:Nat}{a o:Bool}{cd cp cf:C}{D P G:List (List PV)}(hb:aj s=(g,some (.iQ ty 5 [[.p (.bool a),cd,cp,cf,.p (.bool o)]])))(gd:grown sd td zd D (.one cd) aj)(gp:grown sp tp zp P (.one cp) aj)(gf:grown sf tf zf G (.one cf) aj):
  ∃fr,ez aj (.one (.hsl s g 5 0 1))=some ([[.bool a,.sl D,.sl P,.sl G,.bool o]],[s],fr)/\pY aj fr/\ ∀i∈fr,i=sd\/i=sp\/i=sf:=by
 obtain⟨r1,n1,a1,q1⟩:=gd.QX;obtain⟨r2,n2,a2,q2⟩:=gp.QX;obtain⟨r3,n3,a3,q3⟩:=gf.QX;refine⟨r1++(r2++r3),?_,a1.app (a2.app a3),fun i hi=>?_⟩
 .simp only[ez,hb];simp[collect,n1,n2,n3,Q0,PV.norm]
 simp only[eF] at hi;rcases hi with hi|hi|hi
 .rcases q1 with rfl|rfl<;>simp at hi;exact .inl hi
 .rcases q2 with rfl|rfl<;>simp at hi;exact .inr (.inl hi)
 rcases q3 with rfl|rfl<;>simp at hi;exact .inr (.inr hi)
abbrev tB(l:List Fc):List (List PV):=l.map Fc.ps
theorem ah3(F:Nat)(ls:List Let):∀(w:List Nat) (f:Fc),f.dh≠[]->(w.foldl (Fc.add F ls) f).dh≠[]:=by
 intro w
 induction w with
 |nil=>intro f h;exact h
 |cons x w ih=>
  intro f h;refine ih _ ?_;unfold Fc.add;split
  .simp
  exact h
theorem ald{d:Nat}{t:List Nat}(h:d<2*ls.length):(mY F ls (d::t)).dh≠[]:=by unfold mY;refine ah3 F ls t _ ?_;unfold Fc.add;rw[show(d::t).headD 0=d from rfl,if_pos h];simp
def ur(ls:List Let)(k:Nat):List Bool:=(List.range ls.length).map fun i=>decide (i<k)&& !dn ls (i+1)
theorem Yu(ls:List Let)(k:Nat):(ur ls k).length=ls.length:=by simp[ur]
theorem ai2(ls:List Let):ur ls 0=List.replicate ls.length false:=by
 refine vF fun i=>?_;simp only[ur,fR,List.getElem?_replicate];by_cases h:i<ls.length
 .simp[h]
 rw[lS (by simpa using h),if_neg h];rfl
theorem ai1(ls:List Let)(k:Nat):ur ls (k+1)=(ur ls k).set k (!dn ls (k+1)):=by
 refine vF fun i=>?_;rw[oI,Yu];simp only[ur,fR];by_cases h:i<ls.length
 .rw[te h];by_cases e:k=i
  .subst e;simp[h]
  simp only[jZ,e,if_false];congr 2;exact decide_eq_decide.2 aa
 rw[lS (by simpa using h)];by_cases e:k=i
 .subst e;rw[if_pos rfl,if_neg h];rfl
 rw[if_neg e];rfl
abbrev BT(ls:List Let):List Bool:=ur ls ls.length
theorem ai3{i:Nat}(h:i<ls.length):(BT ls)[i]?=some (!dn ls (i+1)):=by simp[ur,h]
theorem ai5(ok:eS F ls):aI S 105 [.one (.p (mv F ls))] (.one (.own 4 1 (bP (BT ls)))):=by
 have hl:=ok.hl;have qt:ls.length<=140737488355328:=aa;have ve:List.replicate ls.length [PV.bool false]=bP (ur ls 0):=by rw[ai2];simp
 refine aY c105 ?_;simp only[go_sem,i105,qt,ve];refine cV (fun k ak aj=>ak 0=.one (.p (mv F ls))/\ak 3=.one (.hsl 6720064384 1 1 0 ls.length)/\aj 6720064384=(1,some (.arr 4 1 (bP (ur ls k))))/\
   ak 4=vb (!dn ls k)/\ak 18=.one (.p (cP ls))/\ak 19=vi ls.length/\ak 20=vi k) 0 ls.length (bd _) ?_ ?_
 .simp only[go_sem];first|exact⟨rfl,rfl⟩|exact⟨rfl,rfl,rfl⟩|exact⟨rfl,rfl,rfl,rfl⟩|exact rfl
 rintro k ak aj hk ⟨h0,h3,hA,h4,gK,gG,lY⟩
 by_cases aw:k<ls.length
 .obtain⟨l,dV⟩:=aK aw;have hi:=mL dV;have aL:((k:Int)<(ls.length:Int)):=aa;have w1:=cK (n:=k) aa;have hlen:k<(ur ls k).length:=by rw[Yu];exact aw
  obtain⟨b0,mA⟩:=aK hlen;have ng:=uq mA;have iH:=KH (ur ls k) k (!dn ls (k+1));rw[<- ai1] at iH;cases hp:(l.kind==1) with
  |true=>have hd:=KV dV hp;have amC:=uq (Ow dV hp);rw[hd] at iH;rw[Bool.not_not] at iH;simp only[go_sem,i105_l1,h0,h3,hA,h4,gK,gG,lY,hi,Let.ps,aw,aL,w1,hp,amC,ng,iH,hd]
  |false=>have hd:=KW dV hp;rw[hd] at iH;simp only[go_sem,i105_l1,h0,h3,hA,h4,gK,gG,lY,hi,Let.ps,aw,aL,w1,hp,ng,iH,hd]
 have:k=ls.length:=aa;subst this;simp only[go_sem,i105_l1,i105_r2,h3,gG,lY,eK];exact Nl hA (by simp[ur])
abbrev EH(id:Nat):Prop:=je id=152
theorem agC{g r T k:Nat}(h:k<=T-g):(r7 g r T)[k]?=some (g+k,if k=0 then r else 0):=by
 cases k with
 |zero=>rfl
 |succ k=>unfold r7;rw[List.getElem?_cons_succ,fR,te aa];simp;omega
theorem atl{g T k:Nat}(h:k<T-g):(uf g T)[k]?=some (g+1+k):=by unfold uf;rw[fR,te h];rfl
def HJ(g r T:Nat)(ps fs:List (List PV))(i1 i2:Nat)(aj:aq)(v:V)(ao:aq):Prop:=
 ∃c1 c2 j2,v=.tup [.one c1,.one c2]/\grown 9728320192 Db 2 (ps++ow (r7 g r T)) (.one c1) ao/\grown j2 3 1 (fs++nP (uf g T)) (.one c2) ao/\(j2=i2\/j2=9728256256)/\
  Kept (fun id=>EH id\/id=i1\/id=i2) aj ao
def bt1:List Nat:=[9728000000,9728000064,9728128128,9728256192,9728256256,9728320128]
def bt2:List Nat:=[9728000000,9728000064,9728128128,9728128192,9728256192,9728320128,9728320192]
theorem KI{al:Al}{aj:aq}{g r T t i1 i2:Nat}{ps fs:List (List PV)}{c1 c2:C}(okf:∀id,EH id->al.ok id=true)(o1:al.ok i1=true)(o2:al.ok i2=true)(hT:g<=T)(ht:t=if T=g then r else 0)(hb:T<=1000)(dp:ps.length<=1000000)(rS:fs.length<=1000000)
  (n12:i1≠i2) (nb1:i1∉bt1) (nb2:i2∉bt2) (h1:grown i1 Db 2 ps (.one c1) aj) (h2:grown i2 3 1 fs (.one c2) aj):
  ∃v ao,iJ S 152 [.agg [.p (.int .i64 g),.p (.int .i64 r)],.agg [.p (.int .i64 T),.p (.int .i64 t)],.one c1,.one c2] al aj v ao/\HJ g r T ps fs i1 i2 aj v ao:=by
 have k0:al.ok 9728000000=true:=okf _ rfl;have k64:al.ok 9728000064=true:=okf _ rfl;have kb1:al.ok 9728128128=true:=okf _ rfl;have ka1:al.ok 9728128192=true:=okf _ rfl;have M1:al.ok 9728256192=true:=okf _ rfl;have ka2:al.ok 9728256256=true:=okf _ rfl;have kb3:al.ok 9728320128=true:=okf _ rfl;have ka3:al.ok 9728320192=true:=okf _ rfl;refine mr c152 (gY rfl) ?_;simp only[go_sem,i152,k0,k64];have lenP:=Bm g r T;have lenF:=Q1 g T;refine cV (fun k ak ao=>ak 4=.one (.bk 9728000000 ((aj 9728000000).1+1) 0)/\ak 5=.one (.bk 9728000064 ((aj 9728000064).1+1) 0)/\
   ao 9728000000=((aj 9728000000).1+1,some (.var [.p (.int .i64 ((g+k:Nat):Int)),.p (.int .i64 ((if k=0 then r else 0:Nat):Int))]))/\ao 9728000064=((aj 9728000064).1+1,some (.var [.p (.int .i64 T),.p (.int .i64 t)]))/\
   ∃d1 d2 j1 j2,ak 2=.one d1/\ak 3=.one d2/\(j1=i1\/j1=9728128192)/\(j2=i2\/j2=9728256256)/\grown j1 Db 2 (ps++ow ((r7 g r T).take k)) (.one d1) ao/\grown j2 3 1 (fs++nP ((uf g T).take k)) (.one d2) ao/\Kept (fun id=>EH id\/id=i1\/id=i2) aj ao) 0 (T-g) (bd _) ?_ ?_
 .simp only[go_sem];refine⟨rfl,c1,c2,i1,i2,rfl,rfl,.inl rfl,.inl rfl,?_,?_,?_⟩
  .exact(h1.of_eq (aP (Qd nb1 (by simp[bt1])))).of_eq (aP (Qd nb1 (by simp[bt1])))
  .exact(h2.of_eq (aP (Qd nb2 (by simp[bt2])))).of_eq (aP (Qd nb2 (by simp[bt2])))
  exact((Kept.refl _ _).dB (.inl rfl) _).dB (.inl rfl) _
 rintro k ak ao hk ⟨h4,h5,hA,hB,d1,d2,j1,j2,e2,e3,q1,q2,g1,g2,dd⟩
 have oj1:al.ok j1=true:=by rcases q1 with rfl|rfl<;>assumption
 have oj2:al.ok j2=true:=by rcases q2 with rfl|rfl<;>assumption
 have n1:∀a,a∈bt1->j1≠a:=fun a ha e=>by
  rcases q1 with rfl|rfl
  .exact nb1 (e▸ha)
  exact absurd (e▸ha) ae
 have n2:∀a,a∈bt2->j2≠a:=fun a ha e=>by
  rcases q2 with rfl|rfl
  .exact nb2 (e▸ha)
  exact absurd (e▸ha) ae
 have n3:j1≠j2:=fun e=>by
  rcases q1 with rfl|rfl
  .rcases q2 with rfl|rfl
   .exact n12 e
   exact n1 _ ae e
  exact n2 _ ae e.symm
 have kj1:EH j1\/j1=i1\/j1=i2:=by
  rcases q1 with rfl|rfl
  .exact .inr (.inl rfl)
  exact .inl rfl
 have kj2:EH j2\/j2=i1\/j2=i2:=by
  rcases q2 with rfl|rfl
  .exact .inr (.inr rfl)
  exact .inl rfl
 have ltk:((r7 g r T).take k).length=k:=by rw[eQ];omega
 have ltf:((uf g T).take k).length=k:=by rw[eQ];omega
 by_cases aw:k<T-g
 .have aL:(((g+k:Nat):Int)<(T:Int)):=aa;have w1:IntKind.i64.wrap (((g+k:Nat):Int)+1)=((g+(k+1):Nat):Int):=cK (n:=g+k) aa;have hp:ow ((r7 g r T).take (k+1))=ow ((r7 g r T).take k)++[[.int .i64 ((g+k:Nat):Int),.int .i64 ((if k=0 then r else 0:Nat):Int)]]:=by
   rw[kn,agC aa,Jz];rfl
  have hf:nP ((uf g T).take (k+1))=nP ((uf g T).take k)++[[.int .i64 ((g+(k+1):Nat):Int)]]:=by rw[kn,atl aw,Jk,show g+1+k=g+(k+1) by omega];rfl
  simp only[go_sem,i152_l1,h4,h5,hA,hB,e2,aL,k0,k64,kb1];refine O0 (id:=j1) (site:=9728128192) (bytes:=16) (xs:=[[.int .i64 ((g+k:Nat):Int),.int .i64 ((if k=0 then r else 0:Nat):Int)]]) (rd:=[9728128128]) (by simp[ka1,oj1,kb1]) (g1.of_eq (aP (n1 _ ae))) (by simp[ez,aM]) (.inl rfl) (by simp only[dX,cF,ltk,cq,dN];omega) fun c aZ hc aV=>?_;have hA2:=(aV 9728000000 ae (n1 _ ae).symm).trans ((aP ae).trans hA);have ux:=(aV 9728000064 ae (n1 _ ae).symm).trans ((aP ae).trans hB);simp only[go_sem,h4,hA2,e3,w1,k0,M1]
  refine O0 (id:=j2) (site:=9728256256) (bytes:=8) (xs:=[[.int .i64 ((g+(k+1):Nat):Int)]]) (rd:=[9728256192]) (by simp[ka2,oj2,M1]) (g2.of_eq ((aP (n2 _ ae)).trans ((aP (n2 _ ae)).trans ((aV _ (n2 _ ae) n3.symm).trans (aP (n2 _ ae)))))) (by simp[ez,aM]) (.inl rfl) (by simp only[dX,cF,ltf,cq,dN];omega) fun c' fG jU eW=>?_;have hA3:=(eW 9728000000 ae (n2 _ ae).symm).trans ((aP ae).trans sZ);have hB3:=(eW 9728000064 ae (n2 _ ae).symm).trans ((aP ae).trans ((aP ae).trans ux));simp only[go_sem,h4,h5,hA3,hB3,e2,e3,aw];refine⟨rfl,c,c',9728128192,9728256256,rfl,rfl,.inr rfl,.inr rfl,?_,?_,fun id hn=>?_⟩
  .rw[hp,<- tc];exact hc.of_eq ((eW _ ae (n2 _ ae).symm).trans ((aP ae).trans (aP ae)))
  .rw[hf,<- tc];exact jU
  have a:∀x,EH x->id≠x:=fun x hx e=>hn (.inl (e▸hx));have b1:id≠j1:=fun e=>hn (e▸kj1);have b2:id≠j2:=fun e=>hn (e▸kj2);exact(eW id (a _ rfl) b2).trans ((aP (a _ rfl)).trans ((aP (a _ rfl)).trans ((aV id (a _ rfl) b1).trans ((aP (a _ rfl)).trans (dd id hn)))))
 have:k=T-g:=aa;subst this;have aL:¬(((g+(T-g):Nat):Int)<(T:Int)):=aa;simp only[go_sem,i152_l1,i152_r2,h4,h5,hA,hB,e2,aL,k0,k64,kb3];have Mo:ow (r7 g r T)=ow ((r7 g r T).take (T-g))++[[.int .i64 (T:Int),.int .i64 (t:Int)]]:=by
  have h1:=kn (l:=r7 g r T) (i:=T-g);rw[agC (aX _),fS (show(r7 g r T).length<=T-g+1 by omega)] at h1;have e1:g+(T-g)=T:=aa;have e2:(if T-g=0 then r else 0)=t:=by
   rw[ht];by_cases h:T=g
   .rw[if_pos h,if_pos aa]
   rw[if_neg h,if_neg aa]
  rw[e1,e2] at h1;exact(congrArg (fun l:List (Nat×Nat)=>ow l) h1).trans (Jz _ _)
 have dk:(uf g T).take (T-g)=uf g T:=fS aa;refine O0 (id:=j1) (site:=9728320192) (bytes:=16) (xs:=[[.int .i64 (T:Int),.int .i64 (t:Int)]]) (rd:=[9728320128]) (by simp[ka3,oj1,kb3]) (g1.of_eq (aP (n1 _ ae))) (by simp[ez,aM]) (.inl rfl) (by simp only[dX,cF,ltk,cq,dN];omega) fun c aZ hc aV=>?_;simp only[go_sem,e3];refine⟨c,d2,j2,rfl,?_,?_,q2,fun id hn=>?_⟩
 .rw[Mo,<- tc];exact hc
 .rw[dk] at g2;exact g2.of_eq ((aV _ (n2 _ ae) n3.symm).trans (aP (n2 _ ae)))
 have a:∀x,EH x->id≠x:=fun x hx e=>hn (.inl (e▸hx));have b1:id≠j1:=fun e=>hn (e▸kj1);exact(aV id (a _ rfl) b1).trans ((aP (a _ rfl)).trans (dd id hn))
theorem Yo(ok:eS F ls)(hj:j<(aE ls).length):∃u l,(aE ls)[j]?=some u/\(aE ls).getD j 0=u/\ls[u]?=some l/\l.aA=true/\uw F ls l/\dM ls l=j:=by obtain⟨u,l,h1,h2,h3,h4,h5⟩:=Yn ok hj;obtain⟨l',k1,k2,k3⟩:=BQ ok.ax h1;rw[h3] at k1;cases k1;exact⟨u,l,h1,h2,h3,h4,h5,k3⟩
theorem aiP{pg pr qg qr:Nat}{p q:Let}(gp:uw F ls p)(gq:uw F ls q)(hp:dM ls p=j)(hq:dM ls q=j+1)(h1:p.gate=(pg:Int))(h2:p.aB=(pr:Int))(h3:q.gate=(qg:Int))(h4:q.aB=(qr:Int)):
  pg<=qg/\qr-1=if qg=pg then pr else 0:=by
 obtain⟨_,_,p1,p2⟩:=gp;obtain⟨_,_,q1,q2⟩:=gq;unfold dM at hp hq;rw[h1,h2] at hp;rw[h3,h4] at hq;rw[h2] at p1;rw[h1,h2] at p2;rw[h4] at q1;rw[h3,h4] at q2;simp only[uK] at hp hq p2 q2;have sp:=tC ls pg;have sq:=tC ls qg;have hle:pg<=qg:=by
  rcases Nat.lt_or_ge qg pg with h|h
  .have:=Aj (ls:=ls) (show qg+1<=pg by omega);omega
  exact h
 refine⟨hle,?_⟩;by_cases e:qg=pg
 .subst e;rw[if_pos rfl];omega
 rw[if_neg e];have:=Aj (ls:=ls) (show pg+1<=qg by omega);omega
theorem aiN{qg qr:Nat}{q:Let}(gq:uw F ls q)(hq:dM ls q=0)(h3:q.gate=(qg:Int))(h4:q.aB=(qr:Int)):qr-1=0:=by obtain⟨_,_,q1,q2⟩:=gq;unfold dM at hq;rw[h3,h4] at hq;rw[h4] at q1;simp only[uK] at hq;omega
theorem asW:S.sites 152=[152]:=ah
theorem uk{vs:List V}{aj:aq}:∀id,EH id->(allow (S.ctx .all) 152 vs aj).ok id=true:=fun id h=>uQ (by rw[asW,h];simp)
theorem arN(ok:eS F ls)(hF:F<=1000)(hj:j<(aE ls).length):
  aI S 125 [.one (.p (mv F ls)),vi j] (.tup [.one (aR Db 2 (ow (tY F ls j))),.one (aR 3 1 (nP (Da F ls j)))]):=by
 have hl:=ok.hl;have iK:(aE ls).length<=1000000:=ll (yP ls ls.length) hl;have hm:=dQ (j+1) (show 0<(aE ls).length by omega);obtain⟨u,p,hu,du,hp,pp,gp,xp⟩:=Yo ok hj;obtain⟨v,q,hv,dv,hq,pq,gq,xq⟩:=Yo ok hm;unfold tY Da;simp only[du,dv,FU hp,FU hq,ari hp];have fJ:=mL hp;have Gk:=mL hq;have Es:=kQ hu;have Et:=kQ hv;have e1:=yC (j+1) (aE ls).length;have w1:=cK (n:=j) aa;have w2:=Kj (a:=(aE ls).length) aa aa;have rV:¬(((aE ls).length:Int)=0):=aa
 have Mi:=gp.g0;have Ek:=gp.g1;have IM:=gq.g0;have dV:=gq.g1;have uz:=gp.r0;have ky:=gp.r1;have j8:=gq.r0;have gQ:=gq.r1;have hcg:cg ls p.gate.toNat<=ls.length:=xx _ _;have hcq:cg ls q.gate.toNat<=ls.length:=xx _ _;obtain⟨pg,h1⟩:=r8 (show 0<=p.gate by omega);obtain⟨pr,h2⟩:=r8 (show 0<=p.aB by omega);obtain⟨qg,h3⟩:=r8 (show 0<=q.gate by omega);obtain⟨qr,h4⟩:=r8 (show 0<=q.aB by omega);have wr:=Kj (a:=qr) (by rw[h4] at j8;omega) aa;have iw:S.shared 152=true:=ah;have Er:=fun h=>aiP gp gq xp (h:dM ls q=j+1) h1 h2 h3 h4;have Vl:=fun h=>aiN gq (h:dM ls q=0) h3 h4
 rw[h1] at Ek ky hcg Mi;rw[h2] at ky uz;rw[h3] at IM dV gQ hcq;rw[h4] at j8 gQ;rw[h1,h2,h3];simp only[uK] at ky hcg gQ hcq ⊢;refine aY c125 ?_;by_cases aw:j+1<(aE ls).length
 .have aL:(j:Int)<(((aE ls).length-1:Nat):Int):=aa;rw[gD aw] at xq;obtain⟨n1,n2⟩:=Er xq;simp only[if_pos aw];simp only[go_sem,i125,Es,Et,fJ,Gk,Let.ps,w1,e1,w2,wr,aL,rV,h1,h2,h3,h4,iw];refine⟨aH,?_⟩;refine rM (P:=HJ pg pr qg [] [] 9728128192 9728256256 _) zH (KI (g:=pg) (r:=pr) (T:=qg) (t:=qr-1) (c1:=.p .nils) (c2:=.p .nils) uk (uk _ rfl) (uk _ rfl) n1 n2 aa (bd _) (bd _) ae ae ae grown.nil grown.nil) ?_;rintro v ao ⟨c1,c2,j2,rfl,g1,g2,mE,dd⟩
  have mE:j2=9728256256:=by rcases mE with h|h<;>exact h
  subst mE;simp only[go_sem];exact O5 ae g1 g2
 have aL:¬(j:Int)<(((aE ls).length-1:Nat):Int):=aa;have Gd:(j+1)%(aE ls).length=0:=by rw[show j+1=(aE ls).length by omega,yH]
 rw[Gd] at xq;have n2:=Vl xq;simp only[if_neg aw];have Mo:∃t:Nat,t=(if F=pg then pr else 0):=⟨_,rfl⟩;obtain⟨t,ht⟩:=Mo;have fin:∀(ak:Env) (aj:aq) (c1 c2:C),True:=fun _ _ _ _=>trivial;have ini:(((pg:Int)==(F:Int))=true/\t=pr/\F=pg)\/(((pg:Int)==(F:Int))=false/\t=0):=by
  by_cases h:F=pg
  .subst h;rw[if_pos rfl] at ht;exact .inl ⟨af,ht,rfl⟩
  rw[if_neg h] at ht;exact .inr ⟨by simp;omega,ht⟩
 rcases ini with ⟨hb,I1,hFp⟩|⟨hb,I1⟩
 .subst hFp;simp only[go_sem,i125,Es,Et,fJ,Gk,Let.ps,w1,e1,w2,wr,aL,rV,h1,h2,h3,h4,iw,hb];refine⟨aH,?_⟩;refine⟨aH,?_⟩;refine rM (P:=HJ F pr F [] [] 9728128192 9728256256 _) zH (KI (g:=F) (r:=pr) (T:=F) (t:=pr) (c1:=.p .nils) (c2:=.p .nils) uk (uk _ rfl) (uk _ rfl) aa (by rw[if_pos rfl]) aa (bd _) (bd _) ae ae ae grown.nil grown.nil) ?_;rintro v bG ⟨c1,c2,j2,rfl,g1,g2,mE,dd⟩
  have mE:j2=9728256256:=by rcases mE with h|h<;>exact h
  subst mE;rw[fp] at g1 g2;have hA:=dd 8000256384 ae;simp only[go_sem] at hA;simp only[go_sem,hA,iw];refine rM (P:=HJ 0 0 qg (ow (r7 F pr F)) (nP (uf F F)) 9728320192 9728256256 _) zH (KI (g:=0) (r:=0) (T:=qg) (t:=qr-1) (c1:=c1) (c2:=c2) uk (uk _ rfl) (uk _ rfl) (bd _) (by rw[n2];split<;>rfl) aa (by simp only[cF,Bm];omega) (by simp only[cF,Q1];omega) ae ae ae g1 g2) ?_;rintro v aZ ⟨d1,d2,j3,rfl,k1,k2,Az,_⟩
  have Az:j3=9728256256:=by rcases Az with h|h<;>exact h
  subst Az;simp only[go_sem];rw[Jz,Jk];exact O5 ae k1 k2
 simp only[go_sem,i125,Es,Et,fJ,Gk,Let.ps,w1,e1,w2,wr,aL,rV,h1,h2,h3,h4,iw,hb];refine⟨aH,?_⟩;refine⟨aH,?_⟩;refine rM (P:=HJ pg pr F [] [] 9728128192 9728256256 _) zH (KI (g:=pg) (r:=pr) (T:=F) (t:=0) (c1:=.p .nils) (c2:=.p .nils) uk (uk _ rfl) (uk _ rfl) aa (by rw[I1] at ht;exact ht) aa (bd _) (bd _) ae ae ae grown.nil grown.nil) ?_;rintro v bG ⟨c1,c2,j2,rfl,g1,g2,mE,dd⟩
 have mE:j2=9728256256:=by rcases mE with h|h<;>exact h
 subst mE;rw[fp] at g1 g2;have hA:=dd 8000256384 ae;simp only[go_sem] at hA;simp only[go_sem,hA,iw];refine rM (P:=HJ 0 0 qg (ow (r7 pg pr F)) (nP (uf pg F)) 9728320192 9728256256 _) zH (KI (g:=0) (r:=0) (T:=qg) (t:=qr-1) (c1:=c1) (c2:=c2) uk (uk _ rfl) (uk _ rfl) (bd _) (by rw[n2];split<;>rfl) aa (by simp only[cF,Bm];omega) (by simp only[cF,Q1];omega) ae ae ae g1 g2) ?_;rintro v aZ ⟨d1,d2,j3,rfl,k1,k2,Az,_⟩
 have Az:j3=9728256256:=by rcases Az with h|h<;>exact h
 subst Az;simp only[go_sem];rw[Jz,Jk];exact O5 ae k1 k2
end
end Go.Abs
