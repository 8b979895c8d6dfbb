/- A part. -/
import Derived.Test.YtffbakabajjgcaaGreatDoorWa
set_option linter.all false
set_option maxRecDepth 100000
set_option maxHeartbeats 16000000
namespace Go.Abs
section
variable{ls:List Let}{F j n2 x:Nat}
abbrev mI(F:Nat)(ls:List Let):PV:=dgP F ls (.sl (bP (jD ls))) (.sl (nP (aB ls))) (.sl (nP (jx ls ls.length))) (.mp true (pM ls ls.length)) (.sl (nP (counts ls F)))
structure eH (F:Nat) (ls:List Let):Prop where
 hl:ls.length<=1000000
 ax:BO F ls
 cr:lQ ls=true
 kinds:∀l∈ls,l.aJ=true\/l.aG=true
theorem ur{a:Nat}(h:a<=9223372036854775807):IntKind.i64.wrap ((a:Int)-1)=(a:Int)-1:=by
 cases a with
 |zero=>decide
 |succ a=>rw[FL aa h];omega
theorem afR{a n:Nat}(hn:1<=n)(h:a+n<=9223372036854775807):IntKind.i64.wrap (((a:Int)-1)+(n:Int))=((a+n-1:Nat):Int):=by have e:((a:Int)-1)+(n:Int)=((a+n-1:Nat):Int):=aa;rw[e];exact wrap_small aa
theorem Ts(F:Nat)(ls:List Let)(i:Nat)(hl:ls.length<=1000000)(hi:i<ls.length):aF S 162 [.one (.p (mI F ls)),vi i] (ri (dT ls.length i true)):=by refine aV c162 ?_;have e:=sL (a:=i) aa;simp only[go_sem,i162,e,dT]
theorem SC(F:Nat)(ls:List Let)(i:Nat)(hl:ls.length<=1000000)(hi:i<ls.length):aF S 161 [.one (.p (mI F ls)),vi i] (ri (dT ls.length i false)):=by refine aV c161 ?_;have e1:=ur (a:=i) aa;have e2:=afR (a:=i) (n:=ls.length) aa aa;have e3:=um (i+ls.length-1) ls.length;have hm:=ez (i+ls.length-1) (show 0<ls.length by omega);have e4:=sL (a:=(i+ls.length-1)%ls.length) aa;have e5:=bN (n:=2*((i+ls.length-1)%ls.length)) aa;have hz:¬((ls.length:Int)=0):=aa;simp only[go_sem,i161,e1,e2,e3,e4,e5,hz,dT]
theorem O0{v:Nat}{l:Let}(h:ls[v]?=some l)(hp:l.aJ=true):(jD ls)[v]?=some (dn ls v):=by have:=(bg.1 h).1;simp[jD,rO this,iz,h,hp]
theorem apb{v:Nat}{l:Let}(h:ls[v]?=some l)(hp:l.aJ=true):(jx ls ls.length)[v]?=some (dO ls l):=by have:=(bg.1 h).1;simp[jx,this,Hr h hp]
theorem eH.Qf(ok:eH F ls){v:Nat}{l:Let}(h:ls[v]?=some l)(h2:(l.kind==2)=false):l.aJ=true:=by
 rcases ok.kinds l (aW h) with hp|hc
 .exact hp
 unfold Let.aG at hc;rw[h2] at hc;cases hc
theorem Za(ok:eH F ls)(d:Nat)(hd:d<2*ls.length+2*(aB ls).length):aF S 135 [.one (.p (mI F ls)),vi d] (ri (gu ls (aB ls) d)):=by
 have hl:=ok.hl;have gY:(aB ls).length<=1000000:=mD (sX ls ls.length) hl;have jF:∀x∈aB ls,x<ls.length/\ ∃l,ls[x]?=some l/\l.aJ=true:=fun x hx=>by obtain⟨l,h1,h2⟩:=sY.1 hx;exact⟨(bg.1 h1).1,l,h1,h2⟩
 have m1:IntKind.i64.wrap (2*(ls.length:Int))=((2*ls.length:Nat):Int):=sL aa;unfold gu;by_cases h:2*ls.length<=d
 .rw[aD h];refine aV c135 ?_;have h':((2*ls.length:Nat):Int)<=(d:Int):=aa;have m2:=Rr (a:=d) (b:=2*ls.length) h aa;have m3:=wrap_small (n:=(d-2*ls.length)/2) aa;have hm:=ez ((d-2*ls.length)/2+1) (show 0<(aB ls).length by omega);have nv:¬(((aB ls).length:Int)=0):=aa;obtain⟨u,hu⟩:=aM (ls:=aB ls) (k:=(d-2*ls.length)/2) aa;have zJ:=iF hu;by_cases h2:d%2=0
  .rw[aD h2];have m4:=bN (n:=(d-2*ls.length)/2) aa;have iS:(((d%2:Nat):Int)==0)=true:=by simp[h2]
   have m5:=um ((d-2*ls.length)/2+1) (aB ls).length;obtain⟨v,hv⟩:=aM hm;have qu:(aB ls).getD (((d-2*ls.length)/2+1)%(aB ls).length) 0=v:=by rw[cY,hv];rfl
   rw[qu];obtain⟨se,l,nW,GJ⟩:=jF v (aW hv);have rq:=iF hv;have dV:=pZ (O0 nW GJ);have pf:=Ts F ls v hl se;have pb:=SC F ls v hl se;cases hq:dn ls v with
   |true=>rw[hq] at dV;simp only[go_sem,i135,m1,m2,m3,m4,m5,h',iS,zJ,rq,dV,nv,iL,fp,dS,s161,dJ pb];exact⟨aK,aK⟩
   |false=>rw[hq] at dV;simp only[go_sem,i135,m1,m2,m3,m4,m5,h',iS,zJ,rq,dV,nv,iL,fp,dS,s162,dJ pf];exact⟨aK,aK⟩
  rw[ay h2];have iS:(((d%2:Nat):Int)==0)=false:=by simp;omega
  have qu:(aB ls).getD ((d-2*ls.length)/2) 0=u:=by rw[cY,hu];rfl
  rw[qu];obtain⟨se,l,nW,GJ⟩:=jF u (aW hu);have dV:=pZ (O0 nW GJ);have pf:=Ts F ls u hl se;have pb:=SC F ls u hl se;cases hq:dn ls u with
  |true=>rw[hq] at dV;simp only[go_sem,i135,m1,m2,m3,h',iS,zJ,dV,iL,fp,dS,s162,dJ pf];exact aK
  |false=>rw[hq] at dV;simp only[go_sem,i135,m1,m2,m3,h',iS,zJ,dV,iL,fp,dS,s161,dJ pb];exact aK
 rw[ay h];have h':¬(((2*ls.length:Nat):Int)<=(d:Int)):=aa;have m3:=wrap_small (n:=d/2) aa;have js:¬((ls.length:Int)=0):=aa;have nv:=ez (d/2+1) (show 0<ls.length by omega);have m4:=bN (n:=d/2) aa;have m5:=um (d/2+1) ls.length;have body:∀v:Nat,v<ls.length->∀fw:Bool,v=(if fw then (d/2+1)%ls.length else d/2)->(((d%2:Nat):Int)==0)=fw->aF S 135 [.one (.p (mI F ls)),vi d] (ri ((match ls[v]? with
   |none=>0
   |some l=>if l.kind==2 then dT ls.length (hJ ls v) (fw==(l.over==(l.sign==1)))
    else if dn ls v==fw then 2*ls.length+2*(aB ls).idxOf v else 2*ls.length+2*(((aB ls).idxOf v+(aB ls).length-1)%(aB ls).length)+1:Nat):Int)):=by
  intro v hv fw fm re;obtain⟨l,nW⟩:=aM hv;have gG:=fv nW;rw[nW];simp only;refine aV c135 ?_;cases hk:(l.kind==2) with
  |true=>
   have hc:l.aG=true:=hk;have cF:(l.kind==1)=false:=by simp only[dL] at hk;rw[hk];rfl
   obtain⟨ET,MG⟩:=Qx ok.cr nW hc;have hf:=ZN ls ls.length l.id;rw[aD (PU (aW nW) hc)] at hf;have pf:=Ts F ls (hJ ls v) hl MG;have pb:=SC F ls (hJ ls v) hl MG;cases ho:l.over with
   |true=>
    rw[ho] at ET;have ET:fX ls ls.length l.id false=some (hJ ls v):=ET;simp only[qT,ET] at hf;simp only[Bz] at hf;cases hs:(l.sign==1) with
    |true=>
     cases fw with
     |true=>have fm:v=(d/2+1)%ls.length:=fm;rw[fm] at gG hf pf pb ⊢;simp only[go_sem,i135,m1,m3,m4,m5,h',re,gG,Let.ps,js,cF,ho,hs,iL,fp,dS,mapOf,mapVal,gZ,hf,s162,dJ pf];exact⟨aK,aK⟩
     |false=>have fm:v=d/2:=fm;rw[fm] at gG hf pf pb ⊢;simp only[go_sem,i135,m1,m3,h',re,gG,Let.ps,cF,ho,hs,iL,fp,dS,mapOf,mapVal,gZ,hf,s161,dJ pb];exact⟨aK,aK⟩
    |false=>
     cases fw with
     |true=>have fm:v=(d/2+1)%ls.length:=fm;rw[fm] at gG hf pf pb ⊢;simp only[go_sem,i135,m1,m3,m4,m5,h',re,gG,Let.ps,js,cF,ho,hs,iL,fp,dS,mapOf,mapVal,gZ,hf,s161,dJ pb];exact⟨aK,aK⟩
     |false=>have fm:v=d/2:=fm;rw[fm] at gG hf pf pb ⊢;simp only[go_sem,i135,m1,m3,h',re,gG,Let.ps,cF,ho,hs,iL,fp,dS,mapOf,mapVal,gZ,hf,s162,dJ pf];exact⟨aK,aK⟩
   |false=>
    rw[ho] at ET;have ET:fX ls ls.length l.id true=some (hJ ls v):=ET;simp only[qT,ET] at hf;simp only[Bz] at hf;cases hs:(l.sign==1) with
    |true=>
     cases fw with
     |true=>have fm:v=(d/2+1)%ls.length:=fm;rw[fm] at gG hf pf pb ⊢;simp only[go_sem,i135,m1,m3,m4,m5,h',re,gG,Let.ps,js,cF,ho,hs,iL,fp,dS,mapOf,mapVal,gZ,hf,s161,dJ pb];exact⟨aK,aK⟩
     |false=>have fm:v=d/2:=fm;rw[fm] at gG hf pf pb ⊢;simp only[go_sem,i135,m1,m3,h',re,gG,Let.ps,cF,ho,hs,iL,fp,dS,mapOf,mapVal,gZ,hf,s162,dJ pf];exact⟨aK,aK⟩
    |false=>
     cases fw with
     |true=>have fm:v=(d/2+1)%ls.length:=fm;rw[fm] at gG hf pf pb ⊢;simp only[go_sem,i135,m1,m3,m4,m5,h',re,gG,Let.ps,js,cF,ho,hs,iL,fp,dS,mapOf,mapVal,gZ,hf,s162,dJ pf];exact⟨aK,aK⟩
     |false=>have fm:v=d/2:=fm;rw[fm] at gG hf pf pb ⊢;simp only[go_sem,i135,m1,m3,h',re,gG,Let.ps,cF,ho,hs,iL,fp,dS,mapOf,mapVal,gZ,hf,s161,dJ pb];exact⟨aK,aK⟩
  |false=>
   have hp:=ok.Qf nW hk;have cF:(l.kind==1)=true:=hp;have dV:=pZ (O0 nW hp);have cK:=iF (apb nW hp);have GD:=Lb ok.ax nW hp;have hpT:=VF (ok.ax.eQ l (aW nW) hp);rw[FX ok.ax.qY] at hpT;rw[GD];have Mw:¬(((aB ls).length:Int)=0):=aa;have lT:=ez (dO ls l+(aB ls).length-1) (show 0<(aB ls).length by omega);have n1:=sL (a:=dO ls l) aa;have n2:=wrap_add (a:=2*ls.length) (b:=2*dO ls l) aa;have n3:=ur (a:=dO ls l) aa;have n4:=afR (a:=dO ls l) (n:=(aB ls).length) aa aa;have n5:=um (dO ls l+(aB ls).length-1) (aB ls).length;have n6:=sL (a:=(dO ls l+(aB ls).length-1)%(aB ls).length) aa;have n7:=wrap_add (a:=2*ls.length) (b:=2*((dO ls l+(aB ls).length-1)%(aB ls).length)) aa
   have n8:=bN (n:=2*ls.length+2*((dO ls l+(aB ls).length-1)%(aB ls).length)) aa;cases fw with
   |true=>
    have fm:v=(d/2+1)%ls.length:=fm;cases Mh:dn ls v with
    |true=>rw[Mh] at dV;rw[fm] at gG dV cK;simp only[go_sem,i135,m1,m3,m4,m5,h',re,gG,Let.ps,js,cF,iL,fp,dS,dV,cK,n1,n2];exact aK
    |false=>rw[Mh] at dV;rw[fm] at gG dV cK;simp only[go_sem,i135,m1,m3,m4,m5,h',re,gG,Let.ps,js,cF,iL,fp,dS,dV,cK,n3,n4,n5,n6,n7,n8,Mw];exact aK
   |false=>
    have fm:v=d/2:=fm;cases Mh:dn ls v with
    |true=>rw[Mh] at dV;rw[fm] at gG dV cK;simp only[go_sem,i135,m1,m3,h',re,gG,Let.ps,cF,iL,fp,dS,dV,cK,n3,n4,n5,n6,n7,n8,Mw];exact aK
    |false=>rw[Mh] at dV;rw[fm] at gG dV cK;simp only[go_sem,i135,m1,m3,h',re,gG,Let.ps,cF,iL,fp,dS,dV,cK,n1,n2];exact aK
 have se:(if (d%2==0)=true then (d/2+1)%ls.length else d/2)<ls.length:=by
  split
  .exact nv
  omega
 have:=body _ se (d%2==0) rfl (by cases hq:(d%2==0)<;>simp at hq ⊢ <;>omega);exact this
abbrev aY(ls:List Let):Nat->Nat:=gu ls (aB ls)
theorem akf(ok:eH F ls){Q:dy}:
  ∀(fuel x:Nat) (sn:List Bool) (ak:Env) (aj:aw),ak 0=.one (.p (mI F ls))->ak 4=.one (.hsl 6912128064 1 1 0 sn.length)->aj 6912128064=(1,some (.arr 4 1 (bP sn)))->
   ak 7=vi x->x<sn.length->sn.length=2*ls.length+2*(aB ls).length->yG sn<fuel->
   (∀aA ao,aA 0=ak 0->aA 4=ak 4->aA 5=ak 5->aA 24=ak 24->aA 25=ak 25->ao 6912128064=(1,some (.arr 4 1 (bP (ff (aY ls) fuel x sn).2)))->Q .normal aA ao)->
   W S .all (.loop i108_l1) (lN 2 Q) ak aj:=by
 have gY:(aB ls).length<=1000000:=mD (sX ls ls.length) ok.hl;have jF:∀x∈aB ls,x<ls.length:=fun x h=>OL h;have hp:∀v l,ls[v]?=some l->(l.kind==2)=false->v∈aB ls:=fun v l hv h2=>sY.2 ⟨l,hv,ok.Qf hv h2⟩;intro fuel
 induction fuel with
 |zero=>intro x sn ak aj _ _ _ _ _ _ h;omega
 |succ fuel ih=>
  intro x sn ak aj h0 h4 hS h7 hx hsl hu hq;obtain⟨b,hb⟩:=aM hx;have kJ:=pZ hb;have wJ:sn.getD x true=b:=by rw[cY,hb];rfl
  unfold ff at hq;rw[wJ] at hq;refine kG ?_;cases b with
  |true=>simp only[go_sem,i108_l1,h4,hS,h7,hx,kJ];refine hq _ _ ?_ ?_ ?_ ?_ ?_ hS;all_goals simp only[go_sem,h4]
  |false=>
   have ER:=NV hb;have pt:=Za ok x aa;have gj:=Rk (d:=x) jF hp aa;have gK:=Il sn x true;simp only[go_sem,i108_l1,h0,h4,hS,h7,hx,kJ,gK,s135,dJ pt];refine ih (gu ls (aB ls) x) (sn.set x true) _ _ ?_ ?_ ?_ ?_ (by simpa [hsl] using gj) (by simpa using hsl) aa ?_
   .simp only[go_sem,h0]
   .simp only[go_sem,h4,tE]
   .simp only[go_sem]
   .simp only[go_sem]
   intro aA ao q0 q4 q5 qE Bm b1;refine hq aA ao ?_ ?_ ?_ ?_ ?_ b1
   .rw[q0];simp only[go_sem]
   .rw[q4];simp only[go_sem]
   .rw[q5];simp only[go_sem]
   .rw[qE];simp only[go_sem]
   rw[Bm];simp only[go_sem]
theorem aki(ok:eH F ls):aF S 108 [.one (.p (mI F ls))] (rb (pN ls==aC Let.aJ ls+aC Let.aG ls/2+2)):=by
 have hl:=ok.hl;have gY:(aB ls).length<=ls.length:=sX ls ls.length;have m1:=sL (a:=ls.length) aa;have m2:=sL (a:=(aB ls).length) aa;have m3:=wrap_add (a:=2*ls.length) (b:=2*(aB ls).length) aa;have j9:2*ls.length+2*(aB ls).length<=140737488355328:=aa;have zO:List.replicate (2*ls.length+2*(aB ls).length) [PV.bool false]=bP (List.replicate (2*ls.length+2*(aB ls).length) false):=af;have lT:(pM ls ls.length).length=aC Let.aG ls/2:=by have:=ok.cr;unfold lQ at this;simp only[cN,dL] at this;simp[pM,this.2]
 have wI:aC Let.aG ls<=ls.length:=oU _ _;refine aV c108 ?_;simp only[go_sem,i108,m1,m2,m3,j9,zO];refine⟨aK,?_⟩;generalize hN:2*ls.length+2*(aB ls).length=N at j9;refine cJ (fun k ak aj=>ak 0=.one (.p (mI F ls))/\ak 4=.one (.hsl 6912128064 1 1 0 N)/\aj 6912128064=(1,some (.arr 4 1 (bP (dz (aY ls) N k).2)))/\
   ak 5=vi (dz (aY ls) N k).1.length/\ak 24=vi N/\ak 25=vi k) 0 N (bj _) ?_ ?_
 .simp only[go_sem];exact⟨rfl,rfl,rfl⟩
 rintro k ak aj hk ⟨h0,h4,hS,h5,ml,mn⟩
 have hlen:=HH (aY ls) N k;have EJ:=KD (aY ls) N k;by_cases aq:k<N
 .have aL:((k:Int)<(N:Int)):=aa;have w1:=bN (n:=k) aa;have hs:=yH (aY ls) N k;generalize cM:dz (aY ls) N k=st at hlen hs hS h5 EJ;obtain⟨out,sn⟩:=st;simp only at hlen hS h5 EJ;obtain⟨b,hb⟩:=aM (ls:=sn) (k:=k) aa;have kJ:=pZ hb;unfold uX at hs;have wJ:sn.getD k true=b:=by rw[cY,hb];rfl
  simp only[wJ] at hs;cases b with
  |true=>have hs:dz (aY ls) N (k+1)=(out,sn):=hs;simp only[go_sem,i108_l3,i108_r2,h0,h4,hS,h5,ml,mn,aq,aL,kJ,w1,hs]
  |false=>
   have hs:dz (aY ls) N (k+1)=(out++[(ff (aY ls) (N+1) k sn).1],(ff (aY ls) (N+1) k sn).2):=by rw[hs,hlen];rfl
   have hul:=KB sn;have w2:=bN (n:=out.length) aa;simp only[go_sem,i108_l3,h4,hS,h5,ml,mn,aq,aL,kJ,w2];refine akf ok (N+1) k sn _ _ ?_ ?_ ?_ ?_ aa aa aa ?_
   .simp only[go_sem,h0]
   .simp only[go_sem,h4,hlen]
   .simp only[go_sem,hS]
   .simp only[go_sem]
   intro aA ao q0 q4 q5 qE Bm b1;simp only[go_sem,h0,h4,h5,ml,mn] at q0 q4 q5 qE Bm;simp only[go_sem,i108_r2,q0,q4,q5,qE,Bm,b1,w1,hs,aq];simp
 have:k=N:=aa;subst this;have he:pN ls=(dz (aY ls) k k).1.length:=by unfold pN eh aY;rw[hN]
 rw[<- he] at h5;have w3:=wrap_add (a:=(aB ls).length) (b:=aC Let.aG ls/2) aa;have w4:IntKind.i64.wrap ((((aB ls).length+aC Let.aG ls/2:Nat):Int)+2)=(((aB ls).length+aC Let.aG ls/2+2:Nat):Int):=wrap_add (a:=(aB ls).length+aC Let.aG ls/2) (b:=2) aa;have hb:(((pN ls:Nat):Int)==(((aB ls).length+aC Let.aG ls/2+2:Nat):Int))=(pN ls==aC Let.aJ ls+aC Let.aG ls/2+2):=by
  rw[La];cases h:(pN ls==aC Let.aJ ls+aC Let.aG ls/2+2) with
  |true=>simp at h ⊢;omega
  |false=>simp at h ⊢;omega
 simp only[go_sem,i108_l3,i108_r4,h0,h5,ml,mn,dG,zU,lT,w3,w4,hb];exact aK
abbrev K0(id:Nat):Prop:=id=2240320128\/(jy id=69\/jy id=106\/jy id=107)
def ai7(F:Nat)(ls:List Let)(g:Nat)(aj:aw):Prop:= ∃g1 g2 g3 g4 g5,
 aj 2240320128=(g,some (.var (vf F ls (hs 6784128448 g2 ls.length) (hs 6785344128 g5 (aB ls).length) (hs 6784192448 g3 ls.length) (.jW 6848256064 g4) (hs 6784064448 g1 (F+1)))))/\
 aj 6784064448=(g1,some (.arr 3 1 (nP (counts ls F))))/\aj 6784128448=(g2,some (.arr 4 1 (bP (jD ls))))/\aj 6784192448=(g3,some (.arr 3 1 (nP (jx ls ls.length))))/\
 aj 6785344128=(g5,some (.arr 3 1 (nP (aB ls))))/\aj 6848256064=(g4,some (.map true (pM ls ls.length)))
def Rn(F:Nat)(ls:List Let):Bool:=decide (ls=[])||lG F ls
def Wr(F:Nat)(ls:List Let)(g:Nat)(mF:aw)(v:V)(ao:aw):Prop:=v=vb (Rn F ls)/\Kept K0 mF ao/\(ls≠[]->lG F ls=true->ai7 F ls g ao)/\(ls=[]->ao 2240320128=mF 2240320128)
theorem VV:S.sites 69=[69,106,107]:=ah
theorem aeQ:S.sites 106=[106]:=ah
theorem aeS:S.sites 107=[107]:=ah
theorem Kept.Rq{K K':Nat->Prop}{a b:aw}(h:Kept K a b)(hk:∀id,K id->K' id):Kept K' a b:=fun id hn=>h id fun hh=>hn (hk id hh)
abbrev Dx(g:Nat):List (List C):=[[.hfn 104 [.aX 2240320128 g 0] []],[.hfn 105 [.aX 2240320128 g 0] []],[.hfn 106 [.aX 2240320128 g 0] []],[.hfn 107 [.aX 2240320128 g 0] []],[.hfn 108 [.aX 2240320128 g 0] []]]
section
variable {al:Al} {Q:dy} {ak:Env} {aj:aw} {g g0:Nat}
theorem Wv(k:Nat){f:Nat}{dv:PV}{r:List Nat}{b:Bool}(hk:k<5)(hf:(Dx g)[k]?=some [.hfn f [.aX 2240320128 g 0] []])(Js:S.shared f=false)(oV:al.ok 4416192640=true)
  (nM:ak 22=.one (hs 4416192640 g0 5)) (qe:ak 23=vi 5) (ml:ak 24=vi k) (bV:aj 4416192640=(g0,some (.gU 26 1 (Dx g))))
  (qq:nG aj (.one (.aX 2240320128 g 0))=some (.one (.p dv),r)) (hr:al.fG r=true) (hp:aF S f [.one (.p dv)] (rb b))
  (T1:b=false->∀aA,aA 2=vb false->Q .ret aA aj)
  (UB:b=true->∀aA,aA 22=.one (hs 4416192640 g0 5)->aA 23=vi 5->aA 24=vi ((k+1:Nat):Int)->W S al (.loop i69_l1) Q aA aj):W S al (.loop i69_l1) Q ak aj:=by
 refine kG ?_;have aq:((k:Int)<5):=aa;have w1:=bN (n:=k) aa;cases b with
 |false=>simp only[go_sem,i69_l1,nM,qe,ml,bV,aq,hk,hf,Js,oV,↓qq,aab hp,hr];exact T1 rfl _ (by simp only[go_sem])
 |true=>
  simp only[go_sem,i69_l1,nM,qe,ml,bV,aq,hk,hf,Js,oV,↓qq,aab hp,hr,w1];refine UB rfl _ ?_ ?_ ?_
  .simp only[go_sem,nM]
  .simp only[go_sem,qe]
  simp only[go_sem]
theorem afF(k:Nat){f:Nat}{P:V->aw->Prop}{b:Bool}(hk:k<5)(hf:(Dx g)[k]?=some [.hfn f [.aX 2240320128 g 0] []])(Js:S.shared f=true)(oV:al.ok 4416192640=true)
  (nM:ak 22=.one (hs 4416192640 g0 5)) (qe:ak 23=vi 5) (ml:ak 24=vi k) (bV:aj 4416192640=(g0,some (.gU 26 1 (Dx g))))
  (hh:al.holds (allow (S.ctx al) f [.one (.aX 2240320128 g 0)] aj)=true) (h:∃v ao,iw S f [.one (.aX 2240320128 g 0)] (allow (S.ctx al) f [.one (.aX 2240320128 g 0)] aj) aj v ao/\P v ao)
  (hP:∀v ao,P v ao->v=vb b)
  (T1:b=false->∀v aA ao,P v ao->aA 2=vb false->Q .ret aA ao)
  (UB:b=true->∀v aA ao,P v ao->aA 22=.one (hs 4416192640 g0 5)->aA 23=vi 5->aA 24=vi ((k+1:Nat):Int)->W S al (.loop i69_l1) Q aA ao):W S al (.loop i69_l1) Q ak aj:=by
 refine kG ?_;have aq:((k:Int)<5):=aa;have w1:=bN (n:=k) aa;simp only[go_sem,i69_l1,nM,qe,ml,bV,aq,hk,hf,Js,oV];refine tV hh h fun v ao hp=>?_;have hv:=hP v ao hp;subst hv;cases b with
 |false=>simp only[go_sem];exact T1 rfl _ _ _ hp (by simp only[go_sem])
 |true=>
  simp only[go_sem,ml,w1];refine UB rfl _ _ _ hp ?_ ?_ ?_
  .simp only[go_sem,nM]
  .simp only[go_sem,qe]
  simp only[go_sem]
end
theorem atg{al:Al}(okD:al.ok 2240320128=true)(okf:∀id,(jy id=69\/jy id=106\/jy id=107)->al.ok id=true)(f1:al.fs.contains 106=true)(f2:al.fs.contains 107=true)
  {aj:aw} {g F:Nat} {ls:List Let} (hl:ls.length<=1000000) (hF:F<=1000000)
  (bD:aj 2240320128=(g,some (.var (vf F ls (.p .nils) (.p .nils) (.p .nils) (.p .rD) (.p .nils))))):∃v ao,iw S 69 [.one (.aX 2240320128 g 0)] al aj v ao/\Wr F ls g aj v ao:=by
 have oV:=okf 4416192640 (.inl rfl);refine mV c69 (iv rfl) ?_;by_cases he:ls=[]
 .subst he;have hz:(((0:Nat):Int)==0)=true:=ae;simp only[go_sem,i69,bD,hz,okD];exact⟨rfl,Kept.refl _ _,fun h=>absurd rfl h,fun _=>rfl⟩
 have ju:=jl.2 he;have GM:(((ls.length:Nat):Int)==0)=false:=by simp;omega
 obtain⟨l0,h0⟩:=aM ju;have qk:decide (ls=[])=false:=by simp[he]
 have pl:=ai8 F ls (.sl []) (.sl []) (.sl []) .rD (.sl []) hl ⟨rfl,rfl,rfl,rfl,rfl⟩;have pb:=aiZ F ls l0 (.sl []) (.sl []) (.sl []) .rD (.sl []) hl h0;have aaS:=U1 (F:=F) (ls:=ls);have fail:∀aA ao,Kept K0 aj ao->lG F ls=false->aA 2=vb false->lN 0 (xu S al i69_r2 (qS al [(2,none)] (Wr F ls g aj))) .ret aA ao:=fun aA ao hk hv h2=>by simp only[go_sem,h2];exact⟨by rw[Rn,qk,hv];rfl,hk,fun _ h=>(by rw[hv] at h;cases h),fun h=>absurd h he⟩
 have noL:w9 F ls=false->lG F ls=false:=fun h=>by simp[lG,h]
 have Vf:¬(ls.any (dA F)=false/\yC ls=true/\lQ ls=true)->lG F ls=false:=fun h=>noL (by
  cases hq:w9 F ls with
  |false=>rfl
  |true=>exact absurd (aaS.1 hq) h)
 simp only[go_sem,i69,bD,GM,okD,oV];have cF:Kept K0 aj (dj aj 4416192640 ((aj 4416192640).1+1,some (.gU 26 1 (Dx g)))):=Kept.dj (Kept.refl _ _) (.inr (.inl rfl)) _;generalize cq:dj aj 4416192640 ((aj 4416192640).1+1,some (.gU 26 1 (Dx g)))=cn;rw[cq] at cF;have bV:cn 4416192640=((aj 4416192640).1+1,some (.gU 26 1 (Dx g))):=by rw[<- cq];simp only[go_sem]
 have bD:cn 2240320128=(g,some (.var (vf F ls (.p .nils) (.p .nils) (.p .nils) (.p .rD) (.p .nils)))):=by rw[<- cq];simp only[go_sem,bD]
 clear cq;have qq:nG cn (.one (.aX 2240320128 g 0))=some (.one (.p (dgP F ls (.sl []) (.sl []) (.sl []) .rD (.sl []))),[2240320128]):=by simp only[go_sem,bD]
 have nY:al.fG [2240320128]=true:=by simp only[go_sem,okD]
 refine Wv 0 aa rfl s104 oV (by simp only[go_sem]) (by simp only[go_sem];rfl) (by simp only[go_sem];rfl) bV qq nY pl (fun hb aA h2=>fail aA cn cF (Vf fun h=>by simp[h.1] at hb) h2) (fun hb aA Af uh qE=>?_);have cq:ls.any (dA F)=false:=by simpa using hb
 have vl:∀l∈ls,dA F l=false:=fun l hl=>by simpa using HO.1 cq l hl
 have hg:qY F ls:=fun l hl hp=>((xg hp).1 (vl l hl)).1.1.1;refine Wv 1 aa rfl s105 oV Af uh qE bV qq nY pb (fun hb aA h2=>fail aA cn cF (by simp only[lG,h0,hb];rfl) h2) (fun hbg aA Af uh qE=>?_);clear hb;have hre:iZ cn (.one (.aX 2240320128 g 0))=[2240320128]:=by rw[ND bD];simp[NC]
 refine afF (b:=yC ls) 2 aa rfl ah oV Af uh qE bV ?_ (aqf (u9 (by simp[hre])) (fun id h=>vY (by rw[aeQ,h];rfl)) hl hF hg bD) (fun v ao h=>h.1) ?_ ?_
 .refine holds_of ?_ ?_
  .show al.fG ([V.one (.aX 2240320128 g 0)].map (iZ cn)).flatten=true;simp only[fy,pV,hre,lH,Og,mR];exact nY
  show(S.sites 106).all al.fs.contains=true;rw[aeQ];simp only[oG,sP,f1];rfl
 .intro hb v aA ao hp h2;exact fail aA ao (cF.trans (hp.2.1.Rq fun id h=>h.elim .inl fun h=>.inr (.inr (.inl h)))) (Vf fun h=>by rw[h.2.1] at hb;cases hb) h2
 intro mv v aA ba hp Af uh qE;obtain⟨_,jV,r9⟩:=hp;obtain⟨g1,g2,g3,g5,bD,bC,bW,mf,bA⟩:=r9 mv;have jF:BO F ls:=by obtain⟨a,b⟩:=(NA hg).1 mv;exact⟨a,b⟩
 rw[ahx jF] at bA;rw[FX hg] at bD;have bV:ba 4416192640=((aj 4416192640).1+1,some (.gU 26 1 (Dx g))):=by rw[<- bV];exact jV _ ae
 have aaP:Kept K0 aj ba:=cF.trans (jV.Rq fun id h=>h.elim .inl fun h=>.inr (.inr (.inl h)));have oC:=okf 6784064448 (.inr (.inl rfl));have oW:=okf 6784128448 (.inr (.inl rfl));have oP:=okf 6784192448 (.inr (.inl rfl));have oA:=okf 6785344128 (.inr (.inl rfl));have oM:=okf 6848256064 (.inr (.inr rfl));have MP:iZ ba (.one (.aX 2240320128 g 0))=[2240320128,6784128448,6785344128,6784192448,6784064448]:=by rw[ND bD];simp only[fy,pV,NC,Fw bW,Fw bA,Fw mf,Fw bC,lH,Og,nH,mR,oI]
 refine afF (b:=lQ ls) 3 aa rfl ah oV Af uh qE bV ?_ (ai1 (u9 (by simp[MP])) (fun id h=>vY (by rw[aeS,h];rfl)) hl bD) (fun v ao h=>h.1) ?_ ?_
 .refine holds_of ?_ ?_
  .show al.fG ([V.one (.aX 2240320128 g 0)].map (iZ ba)).flatten=true;simp only[fy,pV,MP,lH,Og,mR,Nn,No,okD,oC,oW,oP,oA,Ar]
  show(S.sites 107).all al.fs.contains=true;rw[aeS];simp only[oG,sP,f2];rfl
 .intro hb v aA ao hp h2;exact fail aA ao (aaP.trans (hp.2.1.Rq fun id h=>h.elim .inl fun h=>.inr (.inr (.inr h)))) (Vf fun h=>by rw[h.2.2] at hb;cases hb) h2
 intro fU v aA fN hp Af uh qE;obtain⟨_,Ms,MK⟩:=hp;obtain⟨g4,bD,bM⟩:=MK fU;have kp:∀id,jy id=106->fN id=ba id:=fun id h=>Ms id (by
  rintro (e|e)
  .rw[e] at h;revert h;decide
  rw[e] at h;revert h;decide)
 rw[<- kp _ rfl] at bC bW mf bA;have bV:fN 4416192640=((aj 4416192640).1+1,some (.gU 26 1 (Dx g))):=by rw[<- bV];exact Ms _ ae
 have aaQ:Kept K0 aj fN:=aaP.trans (Ms.Rq fun id h=>h.elim .inl fun h=>.inr (.inr (.inr h)));have ok:eH F ls:=⟨hl,jF,fU,fun l hl=>AN (vl l hl)⟩;have pf:=aki ok;have hlR:w9 F ls=true:=aaS.2 ⟨cq,mv,fU⟩;have hvr:lG F ls=(pN ls==aC Let.aJ ls+aC Let.aG ls/2+2):=by
  have aaA:(l0.kind==1)=true/\(aC Let.aJ ls%2==0)=true:=by simpa using hbg
  simp only[lG,h0,aaA.1,aaA.2,hlR,xx]
 have t1:List.take ls.length (bP (jD ls))=bP (jD ls):=dD (by simp[jD]);have t2:List.take (aB ls).length (nP (aB ls))=nP (aB ls):=dD af;have t3:List.take ls.length (nP (jx ls ls.length))=nP (jx ls ls.length):=dD (by simp[jx]);have t4:List.take (F+1) (nP (counts ls F))=nP (counts ls F):=dD (by simp[counts]);have n1:ls.length<=(jD ls).length:=by simp[jD]
 have n3:ls.length<=(jx ls ls.length).length:=by simp[jx]
 have n4:F+1<=(counts ls F).length:=by simp[counts]
 have qq:nG fN (.one (.aX 2240320128 g 0))=some (.one (.p (mI F ls)),[2240320128,6784128448,6785344128,6784192448,6848256064,6784064448]):=by simp only[go_sem,ae2,bD,bW,bA,mf,bC,bM,Wc,t1,t2,t3,t4,n1,n3,n4]
 have nY:al.fG [2240320128,6784128448,6785344128,6784192448,6848256064,6784064448]=true:=by simp only[Nn,No,okD,oC,oW,oP,oA,oM,Ar]
 refine Wv 4 aa rfl s108 oV Af uh qE bV qq nY pf (fun hb aA h2=>fail aA fN aaQ (by rw[hvr];exact hb) h2) (fun uI aA Af uh qE=>?_);have hv:lG F ls=true:=by rw[hvr];exact uI
 refine kG ?_;have n5:¬((((4+1:Nat)):Int)<5):=ae;simp only[go_sem,i69_l1,i69_r2,uh,qE,n5];exact⟨by rw[Rn,qk,hv];rfl,aaQ,fun _ _=>⟨g1,g2,g3,g4,g5,bD,bC,bW,mf,bA,bM⟩,fun h=>absurd h he⟩
abbrev zc(f:Int):PV:=dgP f [] (.sl []) (.sl []) (.sl []) .rD (.sl [])
abbrev Ah(a b:PV):RV:=.tup [.one (.p a),.one (.p b)]
def Kh(f:Int)(ls:List Let):RV:=if di f ls=0 then Ah (if ls=[] then zc f else mI f.toNat ls) (.int .i64 0) else Ah .uR (.int .i64 (di f ls))
theorem mw{aj:aw}{s:Nat}{a b:PV}{l:Bool}:land aj [] s ((Ah a b).eD l)=some (.tup [.one (.p a),.one (.p b)],[]):=by cases l<;>rfl
theorem NF{f:Int}{e:Int}(h:di f ls=e)(he:e≠0):Kh f ls=Ah .uR (.int .i64 e):=by unfold Kh;rw[h,ay he]
theorem NG{f:Int}(h:di f ls=0):Kh f ls=Ah (if ls=[] then zc f else mI f.toNat ls) (.int .i64 0):=by unfold Kh;rw[aD h]
theorem QR(f:Int)(ls:List Let)(hl:ls.length<=1000000):aF S 35 [cZ f ls] (Kh f ls):=by
 have pc:=S5 f ls hl;refine aV c35 ?_;by_cases h1:400<ls.length
 .have jE:(400:Int)<(ls.length:Int):=aa;rw[NF (e:=7) (by unfold di;rw[aD (Or.inl h1)]) ae];simp only[go_sem,i35,jE];rfl
 have jE:¬(400:Int)<(ls.length:Int):=aa;by_cases h2:200<aC Let.aG ls
 .have iS:(200:Int)<(aC Let.aG ls:Int):=aa;rw[NF (e:=7) (by unfold di;rw[aD (Or.inr h2)]) ae];simp only[go_sem,i35,jE,iS,s68,dJ pc];rfl
 have iS:¬(200:Int)<(aC Let.aG ls:Int):=aa;have n1:¬(400<ls.length\/200<aC Let.aG ls):=aa;by_cases h3:f<0
 .rw[NF (e:=2) (by unfold di;rw[ay n1,aD (Or.inl h3)]) ae];simp only[go_sem,i35,jE,iS,h3,s68,dJ pc];rfl
 by_cases h4:40<f
 .rw[NF (e:=2) (by unfold di;rw[ay n1,aD (Or.inr h4)]) ae];simp only[go_sem,i35,jE,iS,h3,h4,s68,dJ pc];rfl
 have n2:¬(f<0\/40<f):=aa;obtain⟨F,rfl⟩:=uu (show 0<=f by omega);have lU:S.shared 69=true:=ah;simp only[go_sem,i35,jE,iS,h3,h4,s68,dJ pc,lU];refine tV (P:=Wr F ls 1 _) zK (atg (F:=F) (ls:=ls) ?_ ?_ ?_ ?_ hl aa ?_) ?_
 .refine u9 ?_;rw[fy,pV,ND (g0:=1) (cs:=vf F ls (.p .nils) (.p .nils) (.p .nils) (.p .rD) (.p .nils)) (by simp only[go_sem])];simp
 .intro id h;refine vY ?_;rw[VV];rcases h with h|h|h<;>rw[h]<;>rfl
 .show(S.sites 69).contains _=true;rw[VV];rfl
 .show(S.sites 69).contains _=true;rw[VV];rfl
 .simp only[go_sem]
 rintro v ao ⟨rfl,hk,hr,hz⟩
 unfold Rn;by_cases he:ls=[]
 .have hc:di F ls=0:=by unfold di;rw[ay n1,ay n2,aD he]
  have bD:=hz he;rw[NG hc,aD he];have qk:(decide (ls=[])||lG F ls)=true:=by simp[he]
  rw[qk];subst he;simp only[go_sem] at bD;simp only[go_sem];simp only[go_sem,gh,nL,tU,kI,kh,gQ,bD];rfl
 have qk:decide (ls=[])=false:=by simp[he]
 cases hv:lG F ls with
 |false=>rw[NF (e:=3) (by unfold di;rw[ay n1,ay n2,ay he,hv];rfl) ae];rw[qk,DA];simp only[go_sem];rfl
 |true=>
  have hc:di F ls=0:=by unfold di;rw[ay n1,ay n2,ay he,hv];rfl
  rw[NG hc,ay he];obtain⟨g1,g2,g3,g4,g5,bD,bC,bW,mf,bA,bM⟩:=hr he hv;have hFn:(F:Int).toNat=F:=rfl;rw[hFn];have t1:List.take ls.length (bP (jD ls))=bP (jD ls):=dD (by simp[jD]);have t2:List.take (aB ls).length (nP (aB ls))=nP (aB ls):=dD af;have t3:List.take ls.length (nP (jx ls ls.length))=nP (jx ls ls.length):=dD (by simp[jx]);have t4:List.take (F+1) (nP (counts ls F))=nP (counts ls F):=dD (by simp[counts]);have n1:ls.length<=(jD ls).length:=by simp[jD]
  have n3:ls.length<=(jx ls ls.length).length:=by simp[jx]
  have n4:F+1<=(counts ls F).length:=by simp[counts]
  rw[qk,DA];simp only[go_sem];simp only[go_sem,gh,nL,tU,kI,kh,gQ,ae2,bD,bW,bA,mf,bC,bM,Wc,t1,t2,t3,t4,n1,n3,n4];rfl
theorem X8(f:Int)(ls:List Let)(hl:ls.length<=1000000):aF S 26 [cZ f ls] (ri (di f ls)):=by
 have pr:=QR f ls hl;refine aV c26 ?_;unfold Kh at pr;by_cases h:di f ls=0
 .rw[aD h] at pr;simp only[go_sem,i26,s35,cU pr mw,h]
 rw[ay h] at pr;simp only[go_sem,i26,s35,cU pr mw]
abbrev fE(k a b c:Int)(l o:Bool)(s:Int):V:=.agg [.p (.int .i64 k),.p (.int .i64 a),.p (.int .i64 b),.p (.int .i64 c),.p (.bool l),.p (.bool o),.p (.int .i64 s)]
abbrev sH(e:Int):RV:=.tup [.agg [.p (.int .i64 0),.p .nils],.one (.p (.int .i64 e))]
theorem am8{aj:aw}{s:Nat}{e:Int}{l:Bool}:land aj [] s ((sH e).eD l)=some (.tup [.agg [.p (.int .i64 0),.p .nils],.one (.p (.int .i64 e))],[]):=by cases l<;>rfl
section
variable {f:Int} {ls:List Let} {e:Int}
abbrev kinds(k:Nat):List Nat:=(List.range k).map (· +1)
end
def jf(n v:Nat)(fw:Bool):Nat:=if fw then 2*((v+n-1)%n) else 2*v+1
def lvV(n e:Nat):Nat:=if e%2=0 then e/2 else (e/2+1)%n
theorem vF{n v:Nat}(hv:v<n):((v+n-1)%n+1)%n=v:=by
 by_cases h:v=0
 .subst h;rw[jm,jN (show n-1<n by omega),show n-1+1=n by omega,KX]
 rw[show v+n-1=(v-1)+n by omega,DI,jN (show v-1<n by omega),show v-1+1=v by omega,jN hv]
theorem Hh{n v:Nat}(hv:v<n):((v+1)%n+n-1)%n=v:=by
 by_cases h:v+1=n
 .rw[h,KX,jm,jN (show n-1<n by omega)];omega
 rw[jN (show v+1<n by omega),show v+1+n-1=v+n by omega,DI,jN hv]
theorem acD{n v:Nat}(hv:v<n)(g:Bool):lvV n (dT n v g)=v/\(dT n v g%2==0)=g:=by
 unfold lvV dT;cases g with
 |true=>have h1:(2*v)%2=0:=aa;simp only[if_true,h1];exact⟨aa,rfl⟩
 |false=>have h1:(2*((v+n-1)%n)+1)%2=1:=aa;have h2:(2*((v+n-1)%n)+1)/2=(v+n-1)%n:=aa;simp only[dQ,if_false,h1,h2,Sb,vF hv];exact⟨trivial,rfl⟩
def Kd(ls:List Let)(ax:List Nat)(e:Nat):Nat:=
 if 2*ls.length<=e then
  if e%2=0 then jf ls.length (ax.getD ((e-2*ls.length)/2) 0) (dn ls (ax.getD ((e-2*ls.length)/2) 0))
  else jf ls.length (ax.getD (((e-2*ls.length)/2+1)%ax.length) 0) (!dn ls (ax.getD (((e-2*ls.length)/2+1)%ax.length) 0))
 else
  let v:=lvV ls.length e
  let g:=e%2==0
  match ls[v]? with
  |none=>0
  |some l=>if l.kind==2 then
    match ls[hJ ls v]? with
    |some u=>jf ls.length (hJ ls v) (g==(u.over==(u.sign==1)))
    |none=>0
   else if g==dn ls v then 2*ls.length+2*ax.idxOf v+1 else 2*ls.length+2*((ax.idxOf v+ax.length-1)%ax.length)
theorem sE(hr:lQ ls=true){i:Nat}{l:Let}(hl:ls[i]?=some l)(hc:l.aG=true):hJ ls (hJ ls i)=i/\ ∃m,ls[hJ ls i]?=some m/\m.aG=true/\m.id=l.id/\m.over= !l.over/\m.sign=l.sign:=by
 obtain⟨h1,h2⟩:=Qx hr hl hc;obtain⟨_,h3⟩:=HG h1;obtain⟨m,hm,mc,mi,mo⟩:=A4 h3;have hp:Hq ls:=by have:=hr;unfold lQ at this;simp only[cN,dL,ir,fg] at this;exact(HL.1 this.1.2).2
 have aI:i≠hJ ls i:=by intro e;rw[<- e,hl] at hm;cases hm;revert mo;cases l.over<;>simp
 obtain⟨h4,h5⟩:=Qx hr hm mc;obtain⟨_,h6⟩:=HG h4;obtain⟨x,hx,xc,xi,xo⟩:=A4 h6;refine⟨?_,m,hm,mc,mi,mo,((hp i _ l m hl hm hc mc mi.symm aI).2).symm⟩;refine Decidable.byContradiction fun hn=>?_;have:=(hp _ i x l hx hl xc hc (by rw[xi,mi]) hn).1;rw[xo,mo] at this;revert this;cases l.over<;>simp
theorem afv{ax:List Nat}{d v:Nat}{fw:Bool}{l:Let}(h:¬2*ls.length<=d)(yi:(d%2==0)=fw)(hv:v=if fw then (d/2+1)%ls.length else d/2)(hl:ls[v]?=some l):
  gu ls ax d=if l.kind==2 then dT ls.length (hJ ls v) (fw==(l.over==(l.sign==1)))
   else if dn ls v==fw then 2*ls.length+2*ax.idxOf v else 2*ls.length+2*((ax.idxOf v+ax.length-1)%ax.length)+1:=by
 subst yi;subst hv;unfold gu;rw[ay h];simp only[hl]
theorem ad5(ok:eH F ls){d:Nat}(hd:d<2*ls.length+2*(aB ls).length):Kd ls (aB ls) (gu ls (aB ls) d)=d:=by
 have jF:∀x∈aB ls,x<ls.length/\ ∃l,ls[x]?=some l/\l.aJ=true:=fun x hx=>by obtain⟨l,h1,h2⟩:=sY.1 hx;exact⟨(bg.1 h1).1,l,h1,h2⟩
 have T4:∀ {p v:Nat},(aB ls)[p]?=some v->(aB ls).idxOf v=p:=fun {p v} hp=>by obtain⟨l,hl,GJ,he⟩:=yX ok.ax hp;rw[Lb ok.ax hl GJ,he]
 have along_small:∀ {v:Nat} (g:Bool),v<ls.length-> ¬2*ls.length<=dT ls.length v g:=fun {v} g hv=>by have:=BI (n:=ls.length) (fw:=g) hv;omega
 have notC:∀ {l:Let},l.aJ=true->(l.kind==2)=false:=fun {l} h=>sD h;have fromAxis:∀ {p v:Nat} (g:Bool),(aB ls)[p]?=some v->Kd ls (aB ls) (dT ls.length v g)=if g==dn ls v then 2*ls.length+2*p+1 else 2*ls.length+2*((p+(aB ls).length-1)%(aB ls).length):=by intro p v g hp;obtain⟨hv,l,hl,GJ⟩:=jF v (aW hp);obtain⟨e1,e2⟩:=acD hv g;unfold Kd;rw[ay (along_small g hv)];simp only[e1,e2,hl,notC GJ,T4 hp];rfl
 by_cases h:2*ls.length<=d
 .unfold gu;rw[aD h];have hm:=ez ((d-2*ls.length)/2+1) (show 0<(aB ls).length by omega);by_cases h2:d%2=0
  .rw[aD h2];obtain⟨v,hv⟩:=aM hm;have qu:(aB ls).getD (((d-2*ls.length)/2+1)%(aB ls).length) 0=v:=by rw[cY,hv];rfl
   rw[qu,fromAxis _ hv];have hb:((!dn ls v)==dn ls v)=false:=by cases dn ls v<;>rfl
   rw[hb,Hh (show(d-2*ls.length)/2<(aB ls).length by omega)];simp only[dQ,if_false];omega
  rw[ay h2];obtain⟨v,hv⟩:=aM (ls:=aB ls) (k:=(d-2*ls.length)/2) aa;have qu:(aB ls).getD ((d-2*ls.length)/2) 0=v:=by rw[cY,hv];rfl
  rw[qu,fromAxis _ hv];simp only[BD,if_true];omega
 have hn:0<ls.length:=aa;have nv:=ez (d/2+1) hn;have key:∀(v:Nat) (fw:Bool),v<ls.length->(d%2==0)=fw->v=(if fw then (d/2+1)%ls.length else d/2)->jf ls.length v fw=d:=by
  intro v fw hv yi fm;unfold jf;cases fw with
  |true=>
   have yi:d%2=0:=by simpa using yi
   simp only[if_true] at fm ⊢;rw[fm,Hh (show d/2<ls.length by omega)];omega
  |false=>
   have yi:d%2≠0:=by simpa using yi
   simp only[dQ,if_false] at fm ⊢;omega
 generalize hv:(if (d%2==0)=true then (d/2+1)%ls.length else d/2)=v;generalize yi:(d%2==0)=fw at hv;have se:v<ls.length:=by rw[<- hv];split<;>omega
 have EH:=key v fw se yi hv.symm;obtain⟨l,hl⟩:=aM se;rw[afv h yi hv.symm hl];cases hk:(l.kind==2) with
 |true=>
  have hc:l.aG=true:=hk;obtain⟨hb,m,hm,mc,mi,mo,ms⟩:=sE ok.cr hl hc;have MG:=(Qx ok.cr hl hc).2;rw[aD rfl];obtain⟨e1,e2⟩:=acD MG (fw==(l.over==(l.sign==1)));unfold Kd;rw[ay (along_small _ MG)];have mk:(m.kind==2)=true:=mc;simp only[e1,e2,hm,mk,if_true,hb,hl];have uG:((fw==(l.over==(l.sign==1)))==(l.over==(l.sign==1)))=fw:=by cases fw<;>cases (l.over==(l.sign==1))<;>rfl
  rw[uG];exact EH
 |false=>
  have hp:=ok.Qf hl hk;have GD:=Lb ok.ax hl hp;have cK:=SA ok.ax hl hp;have hpT:=(bg.1 cK).1;rw[ay af,GD];cases hq:(dn ls v==fw) with
  |true=>
   simp only[if_true];unfold Kd;rw[aD aa,aD aa];have e1:(2*ls.length+2*dO ls l-2*ls.length)/2=dO ls l:=aa;have e2:(aB ls).getD (dO ls l) 0=v:=by rw[cY,cK];rfl
   rw[e1,e2,show dn ls v=fw by simpa using hq];exact EH
  |false=>
   have lT:=ez (dO ls l+(aB ls).length-1) (show 0<(aB ls).length by omega);simp only[dQ,if_false];unfold Kd;rw[aD aa,ay aa];have e1:(2*ls.length+2*((dO ls l+(aB ls).length-1)%(aB ls).length)+1-2*ls.length)/2=(dO ls l+(aB ls).length-1)%(aB ls).length:=aa;have e2:(aB ls).getD (dO ls l) 0=v:=by rw[cY,cK];rfl
   rw[e1,vF hpT,e2,show(!dn ls v)=fw by revert hq;cases dn ls v<;>cases fw<;>simp];exact EH
theorem as8(ok:eH F ls){d e:Nat}(hd:d<2*ls.length+2*(aB ls).length)(he:e<2*ls.length+2*(aB ls).length)(h:aY ls d=aY ls e):d=e:=by have h1:=ad5 ok hd;have h2:=ad5 ok he;rw[<- h1,<- h2];exact congrArg _ h
def pwF(next:Nat->Nat)(n2:Nat):Nat->Nat->List Bool->List Nat×List Bool
 |0,_,sp=>([],sp)
 |k+1,x,sp=>if x<n2 then
   if sp.getD x true then ([],sp) else (x::(pwF next n2 k (next x) (sp.set x true)).1,(pwF next n2 k (next x) (sp.set x true)).2)
  else (x::(pwF next n2 k (next x) sp).1,(pwF next n2 k (next x) sp).2)
abbrev sn(S:List Bool)(x:Nat):Bool:=S.getD x true
theorem NL{S:List Bool}{y:Nat}(hx:x<S.length):sn (S.set x true) y=if y=x then true else sn S y:=by
 unfold sn;rw[cY,cY,mC];by_cases h:x=y
 .subst h;simp[hx]
 rw[ay h,ay (fun e=>h e.symm)]
structure yQ (next:Nat->Nat) (n2 N:Nat):Prop where
 le:n2<=N
 lt:∀x,x<N->next x<N
 inj:∀x y,x<N->y<N->next x=next y->x=y
 ax:∀x,x<N->n2<=x->next x<n2
def KZ(next:Nat->Nat)(N:Nat)(S:List Bool):Prop:=∀y,y<N->sn S y=sn S (next y)
structure Inv (next:Nat->Nat) (N d:Nat) (S:List Bool) (x:Nat):Prop where
 i1:∀y,y<N->sn S (next y)=true->sn S y=true\/next y=d
 i2:∀y,y<N->sn S y=true->sn S (next y)=true\/next y=x
 i4:sn S x=true->x=d
 pr:(x=d/\sn S x=false)\/ ∃p,p<N/\next p=x/\sn S p=true
theorem Inv.start{next:Nat->Nat}{N d:Nat}{S:List Bool}(h:KZ next N S)(hd:sn S d=false):Inv next N d S d:=
 ⟨fun y hy hs=>.inl (by rw[h y hy];exact hs),fun y hy hs=>.inl (by rw[<- h y hy];exact hs),fun _=>rfl,.inl ⟨rfl,hd⟩⟩
theorem Inv.stop{next:Nat->Nat}{N d:Nat}{S:List Bool}(m:yQ next n2 N)(h:Inv next N d S x)(hx:sn S x=true):KZ next N S:=by
 have hxd:=h.i4 hx;subst hxd;intro y hy;cases h1:sn S y with
 |true=>
  rcases h.i2 y hy h1 with h2|h2
  .rw[h2]
  rw[h2,hx]
 |false=>
  cases h2:sn S (next y) with
  |false=>rfl
  |true=>
   rcases h.i1 y hy h2 with h3|h3
   .rw[h3] at h1;cases h1
   rcases h.pr with ⟨_,h4⟩|⟨p,hp,jv,dw⟩
   .rw[hx] at h4;cases h4
   have:=m.inj y p hy hp (by rw[h3,jv]);rw[this,dw] at h1;cases h1
theorem Inv.step{next:Nat->Nat}{N d:Nat}{S:List Bool}(m:yQ next n2 N)(hl:S.length=N)(Bd:x<N)(h:Inv next N d S x)(hx:sn S x=false):Inv next N d (S.set x true) (next x):=by
 have qw:x<S.length:=aa;refine⟨fun y hy hs=>?_,fun y hy hs=>?_,fun hs=>?_,.inr ⟨x,Bd,rfl,by rw[NL qw,aD rfl]⟩⟩
 .rw[NL qw] at hs ⊢;by_cases e:next y=x
  .rcases h.pr with ⟨h1,_⟩|⟨p,hp,jv,dw⟩
   .exact .inr (by rw[e,h1])
   have:=m.inj y p hy hp (by rw[e,jv]);left;rw[this];split
   .rfl
   exact dw
  rw[ay e] at hs;rcases h.i1 y hy hs with h2|h2
  .left;split
   .rfl
   exact h2
  exact .inr h2
 .rw[NL qw] at hs ⊢;by_cases e:y=x
  .subst e;exact .inr rfl
  rw[ay e] at hs;rcases h.i2 y hy hs with h2|h2
  .left;split
   .rfl
   exact h2
  left;rw[aD h2]
 rw[NL qw] at hs;by_cases e:next x=x
 .rcases h.pr with ⟨h1,_⟩|⟨p,hp,jv,dw⟩
  .rw[e,h1]
  have:=m.inj p x hp Bd (by rw[jv,e]);rw[this,hx] at dw;cases dw
 rw[ay e] at hs;rcases h.i1 x Bd hs with h2|h2
 .rw[hx] at h2;cases h2
 exact h2
theorem VZ{S:List Bool}(hx:x<n2)(hl:n2<=S.length):(S.take n2).getD x true=sn S x:=by unfold sn;rw[cY,cY,lI,aD hx]
theorem afo{S:List Bool}:(S.take n2).set x true=(S.set x true).take n2:=by rw[<- List.take_set]
theorem afn{S:List Bool}(hx:n2<=x):(S.set x true).take n2=S.take n2:=by rw[List.take_set];exact agb (by rw[gT];omega)
theorem atr{next:Nat->Nat}{N d:Nat}(m:yQ next n2 N)(hd:d<n2):∀(fuel x:Nat) (S:List Bool),S.length=N->x<N->Inv next N d S x->yG S<fuel->
  KZ next N (ff next fuel x S).2/\pwF next n2 fuel x (S.take n2)=((ff next fuel x S).1,(ff next fuel x S).2.take n2):=by
 intro fuel
 induction fuel with
 |zero=>intro x S _ _ _ h;omega
 |succ fuel ih=>
  intro x S hl hx hi hu;have hle:=m.le;unfold ff pwF;cases hs:S.getD x true with
  |true=>have hxd:=hi.i4 hs;have aq:x<n2:=aa;rw[aD aq,VZ aq aa,show sn S x=true from hs];exact⟨hi.stop m hs,rfl⟩
  |false=>
   have Jv:S[x]?=some false:=by
    rw[cY] at hs;cases h1:S[x]? with
    |none=>rw[h1] at hs;cases hs
    |some b=>rw[h1] at hs;exact congrArg some hs
   have ER:=NV Jv;obtain⟨c1,c2⟩:=ih (next x) (S.set x true) (by rw[tE,hl]) (m.lt x hx) (hi.step m hl hx hs) aa;simp only[dQ,if_false];refine⟨c1,?_⟩;by_cases aq:x<n2
   .rw[aD aq,VZ aq aa,show sn S x=false from hs];simp only[dQ,if_false];rw[afo,c2]
   rw[ay aq];rw[afn aa] at c2;rw[c2]
theorem eH.jF(_:eH F ls):∀x∈aB ls,x<ls.length:=fun _ h=>OL h
theorem eH.hp(ok:eH F ls):∀v l,ls[v]?=some l->(l.kind==2)=false->v∈aB ls:=fun _ l hv h2=>sY.2 ⟨l,hv,ok.Qf hv h2⟩
abbrev nD(ls:List Let):Nat:=2*ls.length+2*(aB ls).length
theorem maps(ok:eH F ls):yQ (aY ls) (2*ls.length) (nD ls):=by
 refine⟨by unfold nD;omega,fun x hx=>Rk ok.jF ok.hp hx,fun x y hx hy h=>as8 ok hx hy h,fun x hx hn=>?_⟩;have hx:x<2*ls.length+2*(aB ls).length:=hx;have Cx:∀k,k<(aB ls).length->(aB ls).getD k 0<ls.length:=fun k hk=>by obtain⟨v,hv⟩:=aM hk;rw[cY,hv];exact ok.jF v (aW hv)
 have hm:=ez ((x-2*ls.length)/2+1) (show 0<(aB ls).length by omega);show gu ls (aB ls) x<_;unfold gu;rw[aD hn];split
 .exact BI (Cx _ hm)
 exact BI (Cx _ aa)
theorem afJ(next:Nat->Nat):∀(k x:Nat) (S:List Bool) (y:Nat),sn S y=true->sn (ff next k x S).2 y=true:=by
 intro k
 induction k with
 |zero=>intro x S y h;exact h
 |succ k ih=>
  intro x S y h;unfold ff;split
  .exact h
  refine ih _ _ _ ?_;unfold sn;rw[cY,mC];split
  .split<;>rfl
  rw[<- cY];exact h
theorem afH(next:Nat->Nat)(k x:Nat)(S:List Bool)(hk:yG S<k):sn (ff next k x S).2 x=true:=by
 cases k with
 |zero=>omega
 |succ k=>
  unfold ff;cases hs:S.getD x true with
  |true=>simpa using hs
  |false=>
   simp only[dQ,if_false];refine afJ _ _ _ _ _ ?_;unfold sn;rw[cY,mC];split
   .split<;>rfl
   rename_i h;exact absurd rfl h
section
variable {next:Nat->Nat} {n2 N:Nat}
theorem VY(h:x<N):sn (List.replicate N false) x=false:=by unfold sn;rw[cY,List.getElem?_replicate,aD h];rfl
theorem Rp(m:yQ next n2 N):∀k,k<=n2->KZ next N (dz next N k).2/\ ∀x,x<k->sn (dz next N k).2 x=true:=by
 intro k
 induction k with
 |zero=>intro _;refine⟨fun y hy=>?_,fun x h=>absurd h (mT x)⟩;show sn (List.replicate N false) y=sn (List.replicate N false) (next y);rw[VY hy,VY (m.lt y hy)]
 |succ k ih=>
  intro hk;obtain⟨c,s⟩:=ih aa;have hlen:=HH next N k;have hle:=m.le;rw[yH];unfold uX;cases hs:(dz next N k).2.getD k true with
  |true=>
   simp only[if_true];refine⟨c,fun x hx=>?_⟩;rcases lL.1 hx with h|rfl
   .exact s x h
   exact hs
  |false=>
   simp only[dQ,if_false];have hul:=KB (dz next N k).2;obtain⟨c1,_⟩:=atr m (show k<n2 by omega) ((dz next N k).2.length+1) k (dz next N k).2 hlen aa (Inv.start c hs) aa;refine⟨c1,fun x hx=>?_⟩;rcases lL.1 hx with h|rfl
   .exact afJ _ _ _ _ _ (s x h)
   exact afH _ _ _ _ aa
theorem Ww(m:yQ next n2 N):∀k,n2<=k->k<=N->dz next N k=dz next N n2:=by
 intro k
 induction k with
 |zero=>intro h _;rw[show n2=0 by omega]
 |succ k ih=>
  intro h1 h2;by_cases e:n2=k+1
  .rw[e]
  rw[yH,ih aa aa];obtain⟨c,s⟩:=Rp m n2 (bJ _);unfold uX;have:(dz next N n2).2.getD k true=true:=by have h3:=c k aa;have h4:=s (next k) (m.ax k aa aa);show sn (dz next N n2).2 k=true;rw[h3,h4]
  rw[this];rfl
end
theorem ahQ(f:Int)(ls:List Let)(e:Nat)(hl:ls.length<=1000000)(he:e<ls.length):aF S 132 [cZ f ls,vi e] (rb (!dn ls (e+1))):=by have pd:=Ga f ls (e+1) hl aa;have w1:=bN (n:=e) aa;refine aV c132 ?_;simp only[go_sem,i132,w1,s55,bh pd]
theorem aqC(w:List Nat)(hw:w.length<=1000000):aF S 159 [.one (.p (tv w))] (.one (aO 3 1 (nP w.reverse))):=by
 have w0:=ur (a:=w.length) aa;refine aV c159 ?_;simp only[go_sem,i159,w0];refine cJ (fun k ak aj=>ak 0=.one (.p (tv w))/\ak 4=vi ((w.length:Int)-1-(k:Int))/\grown 10176320384 3 1 (nP (w.reverse.take k)) (ak 3) aj) 0 w.length (bj _) ?_ ?_
 .simp only[go_sem];refine⟨af,.inl ⟨af,rfl⟩⟩
 rintro k ak aj hk ⟨h0,h4,ho⟩
 by_cases aq:k<w.length
 .have e1:((w.length:Int)-1-(k:Int))=((w.length-1-k:Nat):Int):=aa;rw[e1] at h4;have jU:(0:Int)<=((w.length-1-k:Nat):Int):=aa;obtain⟨v,hv⟩:=aM (show w.length-1-k<w.length by omega);have rq:=iF hv;have w1:IntKind.i64.wrap (((w.length-1-k:Nat):Int)-1)=((w.length:Int)-1-((k+1:Nat):Int)):=by
   rw[ur aa];omega
  have GQ:w.reverse[k]?=some v:=by rw[Oi aq];exact hv
  have eY:nP (w.reverse.take (k+1))=nP (w.reverse.take k)++[[.int .i64 (v:Int)]]:=by rw[iu,GQ];simp
  have wQ:(nP (w.reverse.take k)).length=k:=by simp;omega
  rcases ho with ⟨e,h3⟩|⟨aI,g,h3,hC⟩
  .rw[e] at eY wQ;have wO:k=0:=by simpa using wQ.symm
   simp only[go_sem,i159_l1,h0,h3,h4,jU,rq,w1,aq,eF,eo];refine .inr ⟨by rw[eY];simp,(aj 10176320384).1+1,?_,?_⟩
   .rw[eY];rfl
   simp only[aN,if_true];rw[eY];rfl
  rw[wQ] at h3;have ht:List.take k (nP (w.reverse.take k))=nP (w.reverse.take k):=dD aa;have hr:(k+1)*8<=140737488355328:=aa;have gE:k<=(nP (w.reverse.take k)).length:=aa;generalize nP (w.reverse.take k)=es at eY wQ hC ht gE;simp only[go_sem,i159_l1,h0,h3,h4,jU,rq,w1,aq,hC,ht,hr,gE,eF,eo];refine .inr ⟨by rw[eY];simp,g+1,?_,?_⟩
  .rw[eY];simp[wQ]
  simp only[aN,if_true];rw[eY]
 have:k=w.length:=aa;subst this;have jU:¬(0:Int)<=((w.length:Int)-1-(w.length:Int)):=aa;have ht:w.reverse.take w.length=w.reverse:=dD af;rw[ht] at ho;rcases ho with ⟨e,h3⟩|⟨aI,g,h3,hC⟩
 .simp only[go_sem,i159_l1,i159_r2,h3,h4,jU];rw[aO,aD e]
 simp only[go_sem,i159_l1,i159_r2,h3,h4,jU];rw[aO,ay aI];exact Fp hC af
abbrev dN(o:List (Nat×Nat)):List (List PV):=o.map fun p=>[PV.int .i64 (p.1:Int),PV.int .i64 (p.2:Int)]
theorem apg{o:List (Nat×Nat)}{k:Nat}{p:Nat×Nat}(h:o[k]?=some p):(dN o)[k]?=some [.int .i64 (p.1:Int),.int .i64 (p.2:Int)]:=by simp[h]
theorem atb(w:List (Nat×Nat))(hw:w.length<=1000000):aF S 158 [.one (.p (.sl (dN w)))] (.one (aO 197 2 (dN w.reverse))):=by
 have w0:=ur (a:=w.length) aa;refine aV c158 ?_;simp only[go_sem,i158,w0];refine cJ (fun k ak aj=>ak 0=.one (.p (.sl (dN w)))/\ak 4=vi ((w.length:Int)-1-(k:Int))/\grown 10112320384 197 2 (dN (w.reverse.take k)) (ak 3) aj) 0 w.length (bj _) ?_ ?_
 .simp only[go_sem];refine⟨af,.inl ⟨af,rfl⟩⟩
 rintro k ak aj hk ⟨h0,h4,ho⟩
 by_cases aq:k<w.length
 .have e1:((w.length:Int)-1-(k:Int))=((w.length-1-k:Nat):Int):=aa;rw[e1] at h4;have jU:(0:Int)<=((w.length-1-k:Nat):Int):=aa;obtain⟨v,hv⟩:=aM (show w.length-1-k<w.length by omega);have rq:=apg hv;have w1:IntKind.i64.wrap (((w.length-1-k:Nat):Int)-1)=((w.length:Int)-1-((k+1:Nat):Int)):=by
   rw[ur aa];omega
  have GQ:w.reverse[k]?=some v:=by rw[Oi aq];exact hv
  have eY:dN (w.reverse.take (k+1))=dN (w.reverse.take k)++[[.int .i64 (v.1:Int),.int .i64 (v.2:Int)]]:=by rw[iu,GQ];simp
  have wQ:(dN (w.reverse.take k)).length=k:=by simp;omega
  rcases ho with ⟨e,h3⟩|⟨aI,g,h3,hC⟩
  .rw[e] at eY wQ;have wO:k=0:=by simpa using wQ.symm
   simp only[go_sem,i158_l1,h0,h3,h4,jU,rq,w1,aq,eF,eo];refine .inr ⟨by rw[eY];simp,(aj 10112320384).1+1,?_,?_⟩
   .rw[eY];rfl
   simp only[aN,if_true];rw[eY];rfl
  rw[wQ] at h3;have ht:List.take k (dN (w.reverse.take k))=dN (w.reverse.take k):=dD aa;have hr:(k+1)*16<=140737488355328:=aa;have gE:k<=(dN (w.reverse.take k)).length:=aa;generalize dN (w.reverse.take k)=es at eY wQ hC ht gE;simp only[go_sem,i158_l1,h0,h3,h4,jU,rq,w1,aq,hC,ht,hr,gE,eF,eo];refine .inr ⟨by rw[eY];simp,g+1,?_,?_⟩
  .rw[eY];simp[wQ]
  simp only[aN,if_true];rw[eY]
 have:k=w.length:=aa;subst this;have jU:¬(0:Int)<=((w.length:Int)-1-(w.length:Int)):=aa;have ht:w.reverse.take w.length=w.reverse:=dD af;rw[ht] at ho;rcases ho with ⟨e,h3⟩|⟨aI,g,h3,hC⟩
 .simp only[go_sem,i158_l1,i158_r2,h3,h4,jU];rw[aO,aD e]
 simp only[go_sem,i158_l1,i158_r2,h3,h4,jU];rw[aO,ay aI];exact Fp hC af
def mO(g r to:Nat):List (Nat×Nat):=(g,r)::(List.range (to-g)).map fun i=>(g+1+i,0)
def rJ(g to:Nat):List Nat:=(List.range (to-g)).map fun i=>g+1+i
def kQ(g r k:Nat):List (Nat×Nat):=(g,r)::(List.range k).map fun i=>(g+1+i,0)
def qG(g k:Nat):List Nat:=(List.range k).map fun i=>g+1+i
theorem asb(g r k:Nat):dN (kQ g r (k+1))=dN (kQ g r k)++[[.int .i64 ((g+1+k:Nat):Int),.int .i64 0]]:=by simp[kQ,uZ]
theorem asa(g k:Nat):nP (qG g (k+1))=nP (qG g k)++[[.int .i64 ((g+1+k:Nat):Int)]]:=by simp[qG,uZ]
def asc(g r k:Nat)(v:V)(aj:aw):Prop:=(k=0/\ ∃e,v=.one (.hsl 12352064192 e 2 0 1)/\aj 12352064192=(e,some (.arr 197 2 (dN (kQ g r 0)))))\/
 (k≠0/\ ∃e,v=.one (.hsl 12352384256 e 2 0 (k+1))/\aj 12352384256=(e,some (.arr 197 2 (dN (kQ g r k)))))
theorem asd(g r to:Nat)(hg:g<=1000)(hr:r<=1000000)(ht:to<=1000):aF S 193 [vi g,vi r,vi to] (.tup [.one (.own 197 2 (dN (mO g r to))),.one (aO 3 1 (nP (rJ g to)))]):=by
 have w0:=bN (n:=g) aa;refine aV c193 ?_;simp only[go_sem,i193,w0];refine cJ (fun k ak aj=>ak 2=vi to/\ak 10=vi ((g+1+k:Nat):Int)/\asc g r k (ak 8) aj/\grown 12352448192 3 1 (nP (qG g k)) (ak 9) aj) 0 (to-g) (bj _) ?_ ?_
 .simp only[go_sem];exact⟨.inl ⟨rfl,1,rfl,rfl⟩,.inl ⟨rfl,rfl⟩⟩
 rintro k ak aj hk ⟨h2,fP,hs,ho⟩
 by_cases aq:k<to-g
 .have hle:((g+1+k:Nat):Int)<=(to:Int):=aa;have w1:=bN (n:=g+1+k) aa;have hp:=asb g r k;have hf:=asa g k;rcases hs with ⟨rfl,e,h8,hA⟩|⟨wO,e,h8,hA⟩
  .rcases ho with ⟨_,h9⟩|⟨aI,_⟩
   .have gE:(dN (kQ g r 0)).length=1:=by simp[kQ]
    have t1:List.take 1 (dN (kQ g r 0))=dN (kQ g r 0):=dD aa;have n1:1<=(dN (kQ g r 0)).length:=aa;generalize dN (kQ g r 0)=ps at hp hA t1 n1;simp only[go_sem,i193_l1,h2,h8,h9,fP,hA,hle,w1,aq,t1,n1,eF,eo];refine⟨.inr ⟨aa,(aj 12352384256).1+1,rfl,?_⟩,.inr ⟨by simp[qG],(aj 12352448192).1+1,?_,?_⟩⟩
    .simp only[aN,if_true,reduceIte,Nat.reduceEqDiff];rw[hp]
    .rfl
    simp only[aN,if_true];rfl
   exact absurd rfl aI
  rcases ho with ⟨h0,_⟩|⟨aI,e2,h9,hB⟩
  .exact absurd h0 (by simp[qG];omega)
  have lk:(nP (qG g k)).length=k:=by simp[qG]
  have gE:(dN (kQ g r k)).length=k+1:=by simp[kQ]
  rw[lk] at h9;have t1:List.take (k+1) (dN (kQ g r k))=dN (kQ g r k):=dD aa;have t2:List.take k (nP (qG g k))=nP (qG g k):=dD aa;have r1:(k+1+1)*16<=140737488355328:=aa;have r2:(k+1)*8<=140737488355328:=aa;have n1:k+1<=(dN (kQ g r k)).length:=aa;have n2:k<=(nP (qG g k)).length:=aa;generalize dN (kQ g r k)=ps at hp hA t1 n1;generalize nP (qG g k)=fs at hf hB t2 n2 lk aI;simp only[go_sem,i193_l1,h2,h8,h9,fP,hA,hB,hle,w1,aq,t1,t2,r1,r2,n1,n2,eF,eo];refine⟨rfl,.inr ⟨aa,e+1,rfl,?_⟩,.inr ⟨by rw[hf];simp,e2+1,?_,?_⟩⟩
  .simp only[aN,if_true,reduceIte,Nat.reduceEqDiff];rw[hp]
  .rw[hf];simp[lk]
  simp only[aN,if_true];rw[hf]
 have:k=to-g:=aa;subst this;have hle:¬((g+1+(to-g):Nat):Int)<=(to:Int):=aa;have e1:mO g r to=kQ g r (to-g):=rfl;have e2:rJ g to=qG g (to-g):=rfl;rw[e1,e2];generalize hK:to-g=K at hs ho;have gE:(dN (kQ g r K)).length=K+1:=by simp[kQ]
 have lk:(nP (qG g K)).length=K:=by simp[qG]
 rw[hK] at hle fP;rcases hs with ⟨rfl,e,h8,hA⟩|⟨wO,e,h8,hA⟩
 .rcases ho with ⟨hz,h9⟩|⟨aI,_⟩
  .have t1:List.take 1 (dN (kQ g r 0))=dN (kQ g r 0):=dD aa;have n1:1<=(dN (kQ g r 0)).length:=aa;rw[aO,aD hz];generalize dN (kQ g r 0)=ps at hA t1 n1;simp only[go_sem,i193_l1,i193_r2,h2,h8,h9,fP,hle];simp only[go_sem,gh,nL,tU,kI,kh,gQ,hA,t1,n1];rfl
  exact absurd rfl aI
 rcases ho with ⟨h0,_⟩|⟨aI,e3,h9,hB⟩
 .exact absurd h0 (by simp[qG];omega)
 rw[lk] at h9;have t1:List.take (K+1) (dN (kQ g r K))=dN (kQ g r K):=dD aa;have t2:List.take K (nP (qG g K))=nP (qG g K):=dD aa;have n1:K+1<=(dN (kQ g r K)).length:=aa;have n2:K<=(nP (qG g K)).length:=aa;rw[aO,ay aI];generalize dN (kQ g r K)=ps at hA t1 n1;generalize nP (qG g K)=fs at hB t2 n2;simp only[go_sem,i193_l1,i193_r2,h2,h8,h9,fP,hle];simp only[go_sem,gh,nL,tU,kI,kh,gQ,hA,hB,t1,t2,n1,n2];rfl
abbrev vK:Nat:=197
def gN (ls:List Let)(i:Nat):Nat:=match ls[i]? with|some l=>l.gate.toNat|none=>0
def rN (ls:List Let)(i:Nat):Nat:=match ls[i]? with|some l=>l.aE.toNat|none=>0
theorem zj{i:Nat}{l:Let}(h:ls[i]?=some l):gN ls i=l.gate.toNat:=by simp[gN,h]
theorem aed{i:Nat}{l:Let}(h:ls[i]?=some l):rN ls i=l.aE.toNat:=by simp[rN,h]
def oz(F:Nat)(ls:List Let)(j:Nat):List (Nat×Nat):=
 let u:=(aB ls).getD j 0
 let v:=(aB ls).getD ((j+1)%(aB ls).length) 0
 if j+1<(aB ls).length then mO (gN ls u) (rN ls u) (gN ls v) else mO (gN ls u) (rN ls u) F++mO 0 0 (gN ls v)
def yB(F:Nat)(ls:List Let)(j:Nat):List Nat:=
 let u:=(aB ls).getD j 0
 let v:=(aB ls).getD ((j+1)%(aB ls).length) 0
 if j+1<(aB ls).length then rJ (gN ls u) (gN ls v) else rJ (gN ls u) F++rJ 0 (gN ls v)
theorem Ad(a b:List (Nat×Nat)):dN (a++b)=dN a++dN b:=af
theorem yy(a b:List Nat):nP (a++b)=nP a++nP b:=af
theorem vO(g r to:Nat):(mO g r to).length=to-g+1:=by simp[mO]
theorem NP(g to:Nat):(rJ g to).length=to-g:=by simp[rJ]
theorem We(g r to:Nat)(hg:g<=1000)(hr:r<=1000000)(ht:to<=1000):aF S 193 [vi g,vi r,vi to] (.tup [.one (aO vK 2 (dN (mO g r to))),.one (aO 3 1 (nP (rJ g to)))]):=by have h:=asd g r to hg hr ht;have e:aO vK 2 (dN (mO g r to))=.own vK 2 (dN (mO g r to)):=ay (by simp[mO]);rw[e];exact h
theorem OM(ok:eH F ls)(hj:j<(aB ls).length):∃u l,(aB ls)[j]?=some u/\(aB ls).getD j 0=u/\ls[u]?=some l/\l.aJ=true/\tW F ls l:=by obtain⟨u,hu⟩:=aM hj;obtain⟨l,h1,h2⟩:=sY.1 (aW hu);exact⟨u,l,hu,by rw[cY,hu];rfl,h1,h2,ok.ax.eQ l (aW h1) h2⟩
theorem ao9(ok:eH F ls)(hF:F<=1000)(hj:j<(aB ls).length):
  aF S 157 [cZ F ls,.one (.p (tv (aB ls))),vi j] (.tup [.one (aO vK 2 (dN (oz F ls j))),.one (aO 3 1 (nP (yB F ls j)))]):=by
 have hl:=ok.hl;have gY:(aB ls).length<=1000000:=mD (sX ls ls.length) hl;have hm:=ez (j+1) (show 0<(aB ls).length by omega);obtain⟨u,p,hu,du,hp,pp,gp⟩:=OM ok hj;obtain⟨v,q,hv,dv,hq,pq,gq⟩:=OM ok hm;unfold oz yB;simp only[du,dv,zj hp,zj hq,aed hp];have jX:=fv hp;have yo:=fv hq;have zJ:=iF hu;have rq:=iF hv;have e1:=um (j+1) (aB ls).length;have w1:=bN (n:=j) aa;have w2:=FL (a:=(aB ls).length) aa aa;have nv:¬(((aB ls).length:Int)=0):=aa
 have GB:=gp.g0;have zy:=gp.g1;have wO:=gq.g0;have cF:=gq.g1;have uM:=gp.r0;have ig:=gp.r1;have Mg:cg ls p.gate.toNat<=ls.length:=oU _ _;obtain⟨pg,h1⟩:=uu (show 0<=p.gate by omega);obtain⟨pr,h2⟩:=uu (show 0<=p.aE by omega);obtain⟨qg,h3⟩:=uu (show 0<=q.gate by omega);rw[h1] at zy ig Mg GB;rw[h2] at ig uM;rw[h3] at wO cF;rw[h1,h2,h3];simp only[FN] at ig Mg ⊢;refine aV c157 ?_;have iD:S.lone 10048192384=false:=ah;have kN:S.lone 10048256384=false:=ah;have lo3:S.lone 10048320128=false:=ah;by_cases aq:j+1<(aB ls).length
 .have aL:(j:Int)<(((aB ls).length-1:Nat):Int):=aa;have ps:=We pg pr qg aa aa aa;simp only[aD aq];simp only[go_sem,i157,zJ,rq,jX,yo,Let.ps,w1,e1,w2,aL,nv,h1,h2,h3,s193];refine⟨aK,?_⟩;refine IW ps iD fun c e ao hc he hb=>?_;simp only[go_sem];exact IZ ae hc he
 have aL:¬(j:Int)<(((aB ls).length-1:Nat):Int):=aa;have ps:=We pg pr F aa aa aa;have ps':=We 0 0 qg aa aa aa;have e0:((0:Nat):Int)=0:=rfl;rw[e0] at ps';simp only[ay aq];simp only[go_sem,i157,zJ,rq,jX,yo,Let.ps,w1,e1,w2,aL,nv,h1,h2,h3,s193];refine⟨aK,?_⟩;refine IW ps kN fun c e cn hc he cq=>?_;simp only[go_sem,cq];refine IW ps' lo3 fun c2 e2 ba lS yf aT=>?_;simp only[go_sem];obtain⟨r1,rz,_⟩:=lS.elems;refine ni (hc.of_eq (aT _ ae ae)) rz lS.eo (by simp only[cH,vO];omega) fun c3 fN wG ef=>?_;simp only[go_sem];obtain⟨r2,wU,_⟩:=(yf.of_eq (ef _ ae ae)).elems;refine ni (he.of_eq ((ef _ ae ae).trans (aT _ ae ae))) wU yf.eo (by simp only[cH,NP];omega) fun c4 vc hc4 eT=>?_
 simp only[go_sem];rw[Ad,yy];exact IZ ae (wG.of_eq (eT _ ae ae)) hc4
structure Fc where
 fi:Bool
 bl:List Nat
 places:List (Nat×Nat)
 tQ:List Nat
 outer:Bool
def Fc.ps(f:Fc):List PV:=[.bool f.fi,.sl (nP f.bl),.sl (dN f.places),.sl (nP f.tQ),.bool f.outer]
def Fc.add(F:Nat)(ls:List Let)(f:Fc)(x:Nat):Fc:=
 if x<2*ls.length then {f with bl:=f.bl++[x]}
 else {f with places:=f.places++(if x%2=0 then oz F ls ((x-2*ls.length)/2) else (oz F ls ((x-2*ls.length)/2)).reverse),tQ:=f.tQ++(if x%2=0 then yB F ls ((x-2*ls.length)/2) else (yB F ls ((x-2*ls.length)/2)).reverse),outer:=f.outer||decide ((x-2*ls.length)/2+1=(aB ls).length)}
def Fc.new(ls:List Let)(d:Nat):Fc:=⟨dn ls (d/2+1),[],[],[],false⟩
def xL(F:Nat)(ls:List Let)(w:List Nat)(k:Nat):Fc:=(w.take k).foldl (Fc.add F ls) (Fc.new ls (w.headD 0))
def gC(F:Nat)(ls:List Let)(w:List Nat):Fc:=w.foldl (Fc.add F ls) (Fc.new ls (w.headD 0))
def dh(F:Nat)(ls:List Let):List Fc:=(eh (aY ls) (nD ls)).map (gC F ls)
theorem ajU(F:Nat)(ls:List Let)(w:List Nat):xL F ls w w.length=gC F ls w:=by unfold xL gC;rw[kE]
theorem ZD{w:List Nat}{k:Nat}(h:w[k]?=some x):xL F ls w (k+1)=(xL F ls w k).add F ls x:=by unfold xL;rw[iu,h,Av];rfl
theorem Pk(ok:eH F ls)(hj:j<(aB ls).length):gN ls ((aB ls).getD j 0)<=F:=by obtain⟨u,l,_,du,hl,_,hg⟩:=OM ok hj;rw[du,zj hl];have:=hg.g1;have:=hg.g0;omega
theorem QI(ok:eH F ls)(hj:j<(aB ls).length):(oz F ls j).length<=2*F+2:=by have h1:=Pk ok hj;have h2:=Pk ok (ez (j+1) (show 0<(aB ls).length by omega));unfold oz;simp only;split<;>simp only[eG,vO]<;>omega
theorem QH(ok:eH F ls)(hj:j<(aB ls).length):(yB F ls j).length<=2*F+2:=by have h1:=Pk ok hj;have h2:=Pk ok (ez (j+1) (show 0<(aB ls).length by omega));unfold yB;simp only;split<;>simp only[eG,NP]<;>omega
theorem ajV(ok:eH F ls){w:List Nat}(hw:∀x∈w,x<nD ls):∀k,k<=w.length->(xL F ls w k).bl.length<=k/\(xL F ls w k).places.length<=k*(2*F+2)/\(xL F ls w k).tQ.length<=k*(2*F+2):=by
 intro k
 induction k with
 |zero=>intro _;exact⟨bJ _,bj _,bj _⟩
 |succ k ih=>
  intro hk;obtain⟨x,hx⟩:=aM (show k<w.length by omega);obtain⟨i1,i2,i3⟩:=ih aa;have uO:=hw x (aW hx);rw[ZD hx,Nat.succ_mul];unfold Fc.add;by_cases h:x<2*ls.length
  .rw[aD h];simp only[eG,cS,eE];exact⟨aa,aa,aa⟩
  rw[ay h];have hj:(x-2*ls.length)/2<(aB ls).length:=by unfold nD at uO;omega
  have l1:=QI ok hj;have l2:=QH ok hj;refine⟨by simp only;omega,?_,?_⟩
  .simp only[eG];split<;>(try rw[lJ])<;>omega
  simp only[eG];split<;>(try rw[lJ])<;>omega
theorem atn(next:Nat->Nat):∀(k x:Nat) (S:List Bool),∀y∈(ff next k x S).1,y<S.length:=by
 intro k
 induction k with
 |zero=>intro x S y h;simp[ff] at h
 |succ k ih=>
  intro x S y h;unfold ff at h;cases hs:S.getD x true with
  |true=>rw[hs] at h;simp at h
  |false=>
   rw[hs] at h;have hx:x<S.length:=by
    rcases Oq x S.length with h1|h1
    .exact h1
    rw[cY,mS h1] at hs;cases hs
   simp only[dQ,if_false,cI] at h;rcases h with rfl|h
   .exact hx
   have:=ih _ _ y h
   simpa using this
theorem ato(next:Nat->Nat):∀(k x:Nat) (S:List Bool),(ff next k x S).1.length<=yG S:=by
 intro k
 induction k with
 |zero=>intro x S;simp[ff]
 |succ k ih=>
  intro x S;unfold ff;cases hs:S.getD x true with
  |true=>simp
  |false=>
   have Jv:S[x]?=some false:=by
    rw[cY] at hs;cases h1:S[x]? with
    |none=>rw[h1] at hs;cases hs
    |some b=>rw[h1] at hs;exact congrArg some hs
   have ER:=NV Jv;have:=ih (next x) (S.set x true);simp only[dQ,if_false,cS];omega
theorem afG(next:Nat->Nat){k:Nat}{S:List Bool}(h:S.getD x true=false):∃t,(ff next (k+1) x S).1=x::t:=by unfold ff;rw[h];exact⟨_,rfl⟩
theorem ats(next:Nat->Nat)(N:Nat):∀k,∀w∈(dz next N k).1,(∃d t,w=d::t/\d<k)/\w.length<=N/\ ∀y∈w,y<N:=by
 intro k
 induction k with
 |zero=>intro w h;simp[dz] at h
 |succ k ih=>
  intro w h;rw[yH] at h;unfold uX at h;have hlen:=HH next N k;have old:w∈(dz next N k).1->(∃d t,w=d::t/\d<k+1)/\w.length<=N/\ ∀y∈w,y<N:=fun h=>by obtain⟨⟨d,t,h1,h2⟩,h3⟩:=ih w h;exact⟨⟨d,t,h1,aa⟩,h3⟩
  cases hs:(dz next N k).2.getD k true with
  |true=>simp only[hs,if_true] at h;exact old h
  |false=>
   simp only[hs,dQ,if_false,dZ,lK] at h;rcases h with h|rfl
   .exact old h
   obtain⟨t,ht⟩:=afG next (k:=(dz next N k).2.length) hs;refine⟨⟨k,t,ht,aa⟩,?_,fun y hy=>?_⟩
   .have h1:=ato next ((dz next N k).2.length+1) k (dz next N k).2;have h2:=KB (dz next N k).2;omega
   have:=atn next _ _ _ y hy;omega
theorem KE(ok:eH F ls):∀w∈eh (aY ls) (nD ls),(∃d t,w=d::t/\d<2*ls.length)/\w.length<=nD ls/\ ∀y∈w,y<nD ls:=by intro w h;unfold eh at h;rw[Ww (maps ok) (nD ls) (by unfold nD;omega) (bJ _)] at h;exact ats (aY ls) (nD ls) _ w h
abbrev tP:Nat:=177
abbrev wkP(o:List (List Nat)):List (List PV):=o.map fun w=>[tv w]
theorem atB{o:List (List Nat)}{k:Nat}{w:List Nat}(h:o[k]?=some w):(wkP o)[k]?=some [tv w]:=by simp[h]
def ij:List Nat:=[8128000000,8128128064,8128192064,8128576512,8128896448,8129216192,8129280192,8129408192]
structure FB (F:Nat) (ls:List Let) (outs:List (List PV)) (gA gW gF:Nat) (f:Fc) (cd cp cf vo:C) (aj:aw):Prop where
 b0:aj 8128000000=(1,some (.var (mh F ls)))
 bA:aj 8128128064=(gA,some (.arr 3 1 (nP (aB ls))))
 bW:aj 8128192064=(gW,some (.arr 119 1 (wkP (eh (aY ls) (nD ls)))))
 bF:aj 8128576512=(gF,some (.var [.p (.bool f.fi),cd,cp,cf,.p (.bool f.outer)]))
 gd:grown 8128896448 3 1 (nP f.bl) (.one cd) aj
 gp:grown 8129216192 vK 2 (dN f.places) (.one cp) aj
 gf:grown 8129280192 3 1 (nP f.tQ) (.one cf) aj
 go:grown 8129408192 tP 5 outs (.one vo) aj
theorem ajY{F:Nat}{ls:List Let}(ok:eH F ls)(hF:F<=1000){w:List Nat}(hw:∀x∈w,x<nD ls)(iW:w.length<=nD ls){outs:List (List PV)}{gA gW gF i:Nat}{cd cp cf vo:C}{ak:Env}{aj:aw}{Q:dy}
  (e1:ak 1=.one (.aX 8128000000 1 0)) (e3:ak 3=.one vo) (e4:ak 4=.one (.hsl 8128128064 gA 1 0 (aB ls).length)) (e5:ak 5=.one (.hsl 8128192064 gW 1 0 (eh (aY ls) (nD ls)).length)) (e6:ak 6=vi ls.length) (e7:ak 7=vi i) (e8:ak 8=.one (.p (tv w))) (e9:ak 9=.one (.aX 8128576512 gF 0)) (iA:ak 10=vi 0)
  (hB:FB F ls outs gA gW gF (xL F ls w 0) cd cp cf vo aj)
  (hq:∀aA ao xF mY we,aA 1=ak 1->aA 3=ak 3->aA 4=ak 4->aA 5=ak 5->aA 6=ak 6->aA 7=ak 7->aA 9=ak 9->FB F ls outs gA gW gF (gC F ls w) xF mY we vo ao->Q .normal aA ao):
  W S .all (.loop i127_l1) (lN 2 Q) ak aj:=by
 have hl:=ok.hl;have gY:(aB ls).length<=1000000:=mD (sX ls ls.length) hl;have fj:nD ls<=4000000:=by unfold nD;omega
 have m2:=sL (a:=ls.length) aa;refine cJ (fun k aA ao=>aA 1=.one (.aX 8128000000 1 0)/\aA 3=.one vo/\aA 4=.one (.hsl 8128128064 gA 1 0 (aB ls).length)/\aA 5=.one (.hsl 8128192064 gW 1 0 (eh (aY ls) (nD ls)).length)/\aA 6=vi ls.length/\aA 7=vi i/\aA 8=.one (.p (tv w))/\aA 9=.one (.aX 8128576512 gF 0)/\aA 10=vi k/\
   ∃cd cp cf,FB F ls outs gA gW gF (xL F ls w k) cd cp cf vo ao) 0 w.length (bj _) ⟨e1,e3,e4,e5,e6,e7,e8,e9,iA,cd,cp,cf,hB⟩ ?_
 rintro k aA aj hk ⟨h1,h3,h4,h5,h6,h7,h8,h9,fP,cd,cp,cf,hB⟩
 by_cases aq:k<w.length
 .have aL:((k:Int)<(w.length:Int)):=aa;obtain⟨x,hx⟩:=aM aq;have uO:=hw x (aW hx);have yn:=iF hx;have w1:=bN (n:=k) aa;obtain⟨l1,l2,l3⟩:=ajV ok hw k aa;have hs:=ZD (F:=F) (ls:=ls) hx;have aaB:k*(2*F+2)<=4000000*2002:=Nat.mul_le_mul aa aa;generalize xL F ls w k=f at hB hs l1 l2 l3;unfold Fc.add at hs;by_cases hd:x<2*ls.length
  .rw[aD hd] at hs;have zt:((x:Int)<((2*ls.length:Nat):Int)):=aa;simp only[go_sem,i127_l1,h6,h8,h9,fP,hB.bF,aL,yn,m2,zt];generalize hG:(aj 8128896384).1+1=g2;refine mZ (site:=8128896448) (id:=8128896448) (xs:=[[.int .i64 (x:Int)]]) (rd:=[8128896384]) (hB.gd.of_eq (by simp[aN])) (by simp[ed,aN]) (.inl rfl) (by simp only[cH,cS,eE];omega) fun c cn r u hc hb hr=>?_;have qj:∀i∈ij,i≠8128896448->cn i=aj i:=fun i hi hn=>by
    rw[hb i hn hn,aN,ay (Ng hi ae).symm.symm]
   have bF':=(qj 8128576512 (by simp[ij]) ae).trans hB.bF;simp only[go_sem,bF',h1,h3,h4,h5,h6,h7,h8,h9,fP,w1,aq];refine⟨?_,c,cp,cf,?_⟩
   .rcases hr with ⟨rfl,rfl⟩|⟨rfl,rfl⟩|⟨rfl,rfl⟩<;>kernel_rfl
   rw[hs];refine⟨?_,?_,?_,?_,?_,?_,?_,?_⟩
   .simp only[aN,Nat.reduceEqDiff,if_false];exact(qj _ (by simp[ij]) ae).trans hB.b0
   .simp only[aN,Nat.reduceEqDiff,if_false];exact(qj _ (by simp[ij]) ae).trans hB.bA
   .simp only[aN,Nat.reduceEqDiff,if_false];exact(qj _ (by simp[ij]) ae).trans hB.bW
   .simp only[aN,if_true]
   .rw[yy];exact hc.of_eq (by simp[aN])
   .exact(hB.gp.of_eq (qj _ (by simp[ij]) ae)).of_eq (by simp[aN])
   .exact(hB.gf.of_eq (qj _ (by simp[ij]) ae)).of_eq (by simp[aN])
   exact(hB.go.of_eq (qj _ (by simp[ij]) ae)).of_eq (by simp[aN])
  rw[ay hd] at hs;have hj:(x-2*ls.length)/2<(aB ls).length:=by unfold nD at uO;omega
  have pp:=ao9 ok hF hj;have lP:=QI ok hj;have lF:=QH ok hj;have zt:¬((x:Int)<((2*ls.length:Nat):Int)):=aa;have ws:=Rr (a:=x) (b:=2*ls.length) aa aa;have wq:=wrap_small (n:=(x-2*ls.length)/2) aa;have w2:=FL (a:=(aB ls).length) aa aa;have t1:List.take (aB ls).length (nP (aB ls))=nP (aB ls):=dD af;have Gx:((((x-2*ls.length)/2:Nat):Int)==(((aB ls).length-1:Nat):Int))=decide ((x-2*ls.length)/2+1=(aB ls).length):=by
   by_cases h:(x-2*ls.length)/2+1=(aB ls).length
   .rw[DK h];simp;omega
   rw[vW h];simp;omega
  have iD:S.lone 8129024192=false:=ah;have kN:S.lone 8129152064=false:=ah;have lo3:S.lone 8129152192=false:=ah;have sc1:∀l:List (Nat×Nat),((dN l).all fun e=>e.all PV.scalar)=true:=fun l=>by simp[PV.scalar]
  have sc2:∀l:List Nat,((nP l).all fun e=>e.all PV.scalar)=true:=fun l=>by simp[PV.scalar]
  generalize oz F ls ((x-2*ls.length)/2)=PP at*;generalize yB F ls ((x-2*ls.length)/2)=FF at*;simp only[go_sem,i127_l1,h1,h4,h6,h8,fP,hB.b0,hB.bA,aL,yn,m2,zt,ws,wq,dS,fp,t1,s157];refine akC pp iD (sc1 _) (sc2 _) fun c e cn hc he hb=>?_;have aaz:∀i∈ij,cn i=aj i:=fun i hi=>hb i (Ng hi ae) (Ng hi ae);by_cases dR:x%2=0
  .have CJ:((x:Int).tmod 2 !=0)=false:=by rw[iL,dR];rfl
   simp only[aD dR] at hs;have hP:=hc;have hE:=he;have Cn:=aaz;have lE:=lF;have bFN:=(Cn _ (by simp[ij])).trans hB.bF;simp only[go_sem,dS,CJ,yn,bFN,h8,h9,fP];obtain⟨rP,GY,_⟩:=hP.elems;refine ni (site:=8129216192) (id:=8129216192) (bytes:=16) (hB.gp.of_eq (Cn _ (by simp[ij]))) GY hP.eo (by simp only[cH];omega) fun c2 ba lS aT=>?_
   have yY:=(aT 8128576512 ae ae).trans bFN;simp only[go_sem,yY,h9];obtain⟨rE,GX,_⟩:=(hE.of_eq (ao:=dj ba 8128576512 (gF,some (.var [.p (.bool f.fi),cd,c2,cf,.p (.bool f.outer)]))) ((aR ae).trans (aT _ ae ae))).elems;refine ni (site:=8129280192) (id:=8129280192) (bytes:=8) (hB.gf.of_eq ((aR ae).trans ((aT _ ae ae).trans (Cn _ (by simp[ij]))))) GX hE.eo (by simp only[cH];omega) fun c3 fN wG ef=>?_;have uz:=(ef 8128576512 ae ae).trans (rL (b:=ba) (a:=8128576512) (x:=(gF,some (.var [.p (.bool f.fi),cd,c2,cf,.p (.bool f.outer)]))));have cV:∀i∈ij,i≠8128576512->i≠8129216192->i≠8129280192->fN i=aj i:=fun i hi n1 n2 n3=>(ef i n3 n3).trans ((aR n1).trans ((aT i n2 n2).trans (Cn i hi)))
   have eT:∀y y2:Nat×Option Ob,∀i,i≠8128576512->dj (dj fN 8128576512 y) 8128576512 y2 i=fN i:=fun y y2 i hi=>(aR hi).trans (aR hi);cases ho:f.outer with
   |true=>
    rw[ho] at uz;simp only[go_sem,uz,h1,h3,h4,h5,h6,h7,h8,h9,fP,w1,aq];refine⟨cd,c2,c3,?_⟩;rw[hs];exact⟨(eT _ _ _ ae).trans ((cV _ (by simp[ij]) ae ae ae).trans hB.b0),(eT _ _ _ ae).trans ((cV _ (by simp[ij]) ae ae ae).trans hB.bA),(eT _ _ _ ae).trans ((cV _ (by simp[ij]) ae ae ae).trans hB.bW),(by rw[rL];simp[ho]),
     hB.gd.of_eq ((eT _ _ _ ae).trans (cV _ (by simp[ij]) ae ae ae)),(Ad _ _▸lS).of_eq ((eT _ _ _ ae).trans ((ef _ ae ae).trans (aR ae))),(yy _ _▸wG).of_eq (eT _ _ _ ae),hB.go.of_eq ((eT _ _ _ ae).trans (cV _ (by simp[ij]) ae ae ae))⟩
   |false=>
    rw[ho] at uz;simp only[go_sem,uz,h1,h3,h4,h5,h6,h7,h8,h9,fP,w1,w2,aq,Gx];refine⟨cd,c2,c3,?_⟩;rw[hs];exact⟨(eT _ _ _ ae).trans ((cV _ (by simp[ij]) ae ae ae).trans hB.b0),(eT _ _ _ ae).trans ((cV _ (by simp[ij]) ae ae ae).trans hB.bA),(eT _ _ _ ae).trans ((cV _ (by simp[ij]) ae ae ae).trans hB.bW),(by rw[rL];simp[ho]),
     hB.gd.of_eq ((eT _ _ _ ae).trans (cV _ (by simp[ij]) ae ae ae)),(Ad _ _▸lS).of_eq ((eT _ _ _ ae).trans ((ef _ ae ae).trans (aR ae))),(yy _ _▸wG).of_eq (eT _ _ _ ae),hB.go.of_eq ((eT _ _ _ ae).trans (cV _ (by simp[ij]) ae ae ae))⟩
  have CJ:((x:Int).tmod 2 !=0)=true:=by rw[iL,show x%2=1 by omega];rfl
  simp only[ay dR] at hs;obtain⟨r1,sn1,_⟩:=hc.ik;simp only[go_sem,dS,CJ,yn,sn1,h8,fP,s158];refine vj (atb PP aa) kN (.inr (xD (sc1 _))) fun c1 ba jr aT=>?_;have yf:=he.of_eq (aT _ ae);obtain⟨r2,sn2,_⟩:=yf.ik;simp only[go_sem,sn2,s159];refine vj (aqC FF aa) lo3 (.inr (xD (sc2 _))) fun e1 fN he1 ef=>?_;have Cn:∀i∈ij,fN i=aj i:=fun i hi=>(ef i (Ng hi ae)).trans ((aT i (Ng hi ae)).trans (aaz i hi));have hP:=jr.of_eq (ef _ ae);have hE:=he1;have lE:FF.reverse.length<=2*F+2:=by rw[lJ];exact lF
  have lP:PP.reverse.length<=2*F+2:=by rw[lJ];exact lP
  have bFN:=(Cn _ (by simp[ij])).trans hB.bF;simp only[go_sem,bFN,h9];obtain⟨rP,GY,_⟩:=hP.elems;refine ni (site:=8129216192) (id:=8129216192) (bytes:=16) (hB.gp.of_eq (Cn _ (by simp[ij]))) GY hP.eo (by simp only[cH,lJ];omega) fun c2 ba lS aT=>?_;have yY:=(aT 8128576512 ae ae).trans bFN;simp only[go_sem,yY,h9];obtain⟨rE,GX,_⟩:=(hE.of_eq (ao:=dj ba 8128576512 (gF,some (.var [.p (.bool f.fi),cd,c2,cf,.p (.bool f.outer)]))) ((aR ae).trans (aT _ ae ae))).elems;refine ni (site:=8129280192) (id:=8129280192) (bytes:=8) (hB.gf.of_eq ((aR ae).trans ((aT _ ae ae).trans (Cn _ (by simp[ij]))))) GX hE.eo (by simp only[cH,lJ];omega) fun c3 fN wG ef=>?_
  have uz:=(ef 8128576512 ae ae).trans (rL (b:=ba) (a:=8128576512) (x:=(gF,some (.var [.p (.bool f.fi),cd,c2,cf,.p (.bool f.outer)]))));have cV:∀i∈ij,i≠8128576512->i≠8129216192->i≠8129280192->fN i=aj i:=fun i hi n1 n2 n3=>(ef i n3 n3).trans ((aR n1).trans ((aT i n2 n2).trans (Cn i hi)));have eT:∀y y2:Nat×Option Ob,∀i,i≠8128576512->dj (dj fN 8128576512 y) 8128576512 y2 i=fN i:=fun y y2 i hi=>(aR hi).trans (aR hi);cases ho:f.outer with
  |true=>
   rw[ho] at uz;simp only[go_sem,uz,h1,h3,h4,h5,h6,h7,h8,h9,fP,w1,aq];refine⟨cd,c2,c3,?_⟩;rw[hs];exact⟨(eT _ _ _ ae).trans ((cV _ (by simp[ij]) ae ae ae).trans hB.b0),(eT _ _ _ ae).trans ((cV _ (by simp[ij]) ae ae ae).trans hB.bA),(eT _ _ _ ae).trans ((cV _ (by simp[ij]) ae ae ae).trans hB.bW),(by rw[rL];simp[ho]),
    hB.gd.of_eq ((eT _ _ _ ae).trans (cV _ (by simp[ij]) ae ae ae)),(Ad _ _▸lS).of_eq ((eT _ _ _ ae).trans ((ef _ ae ae).trans (aR ae))),(yy _ _▸wG).of_eq (eT _ _ _ ae),hB.go.of_eq ((eT _ _ _ ae).trans (cV _ (by simp[ij]) ae ae ae))⟩
  |false=>
   rw[ho] at uz;simp only[go_sem,uz,h1,h3,h4,h5,h6,h7,h8,h9,fP,w1,w2,aq,Gx];refine⟨cd,c2,c3,?_⟩;rw[hs];exact⟨(eT _ _ _ ae).trans ((cV _ (by simp[ij]) ae ae ae).trans hB.b0),(eT _ _ _ ae).trans ((cV _ (by simp[ij]) ae ae ae).trans hB.bA),(eT _ _ _ ae).trans ((cV _ (by simp[ij]) ae ae ae).trans hB.bW),(by rw[rL];simp[ho]),
    hB.gd.of_eq ((eT _ _ _ ae).trans (cV _ (by simp[ij]) ae ae ae)),(Ad _ _▸lS).of_eq ((eT _ _ _ ae).trans ((ef _ ae ae).trans (aR ae))),(yy _ _▸wG).of_eq (eT _ _ _ ae),hB.go.of_eq ((eT _ _ _ ae).trans (cV _ (by simp[ij]) ae ae ae))⟩
 have:k=w.length:=aa;subst this;rw[ajU] at hB;simp only[go_sem,i127_l1,h8,fP,dG];exact hq _ _ cd cp cf (by simp only[go_sem,h1,e1]) (by simp only[go_sem,h3,e3]) (by simp only[go_sem,h4,e4]) (by simp only[go_sem,h5,e5]) (by simp only[go_sem,h6,e6]) (by simp only[go_sem,h7,e7]) (by simp only[go_sem,h9,e9]) hB
theorem atU{a b:PV}{id g z o l:Nat}{cp cf:C}:Am [[.p a,.hsl id g z o l,cp,cf,.p b]]=none:=rfl
theorem Zk{aj:aw}{s g ty sd td zd sp tp zp sf tf zf:Nat}{a o:Bool}{cd cp cf:C}{D P G:List (List PV)}(hb:aj s=(g,some (.gU ty 5 [[.p (.bool a),cd,cp,cf,.p (.bool o)]])))(gd:grown sd td zd D (.one cd) aj)(gp:grown sp tp zp P (.one cp) aj)(gf:grown sf tf zf G (.one cf) aj):
  ∃fr,ed aj (.one (.hsl s g 5 0 1))=some ([[.bool a,.sl D,.sl P,.sl G,.bool o]],[s],fr)/\qK aj fr/\ ∀i∈fr,i=sd\/i=sp\/i=sf:=by
 obtain⟨r1,n1,a1,q1⟩:=gd.NM;obtain⟨r2,n2,a2,q2⟩:=gp.NM;obtain⟨r3,n3,a3,q3⟩:=gf.NM;refine⟨r1++(r2++r3),?_,a1.app (a2.app a3),fun i hi=>?_⟩
 .simp only[ed,hb];simp[collect,n1,n2,n3,NO,PV.norm]
 simp only[dZ] at hi;rcases hi with hi|hi|hi
 .rcases q1 with rfl|rfl<;>simp at hi;exact .inl hi
 .rcases q2 with rfl|rfl<;>simp at hi;exact .inr (.inl hi)
 rcases q3 with rfl|rfl<;>simp at hi;exact .inr (.inr hi)
abbrev jR(l:List Fc):List (List PV):=l.map Fc.ps
theorem agM(F:Nat)(ls:List Let):∀(w:List Nat) (f:Fc),f.bl≠[]->(w.foldl (Fc.add F ls) f).bl≠[]:=by
 intro w
 induction w with
 |nil=>intro f h;exact h
 |cons x w ih=>
  intro f h;refine ih _ ?_;unfold Fc.add;split
  .simp
  exact h
theorem ZE{d:Nat}{t:List Nat}(h:d<2*ls.length):(gC F ls (d::t)).bl≠[]:=by unfold gC;refine agM F ls t _ ?_;unfold Fc.add;rw[show(d::t).headD 0=d from rfl,aD h];simp
theorem aj1(ok:eH F ls)(hF:F<=1000)(aI:aB ls≠[]):aF S 127 [cZ F ls] (.one (aO tP 5 (jR (dh F ls)))):=by
 have hl:=ok.hl;have gY:(aB ls).length<=1000000:=mD (sX ls ls.length) hl;have fj:nD ls<=4000000:=by unfold nD;omega
 have alp:=KE ok;have pa:=XJ F ls hl;have pw:=afK F ls hl aI ok.hp;unfold K9 at pa;rw[ay aI] at pa;have iW:(eh (aY ls) (nD ls)).length<=nD ls:=KD (aY ls) (nD ls) _;have hLA:∀aj:aw,land aj [] 8128128064 ((RV.one (.own 3 1 (nP (aB ls)))).eD (S.lone 8128128064))=some (.one (.hsl 8128128064 ((aj 8128128064).1+1) 1 0 (aB ls).length),[(8128128064,((aj 8128128064).1+1,some (.arr 3 1 (nP (aB ls)))))]):=by intro aj;rw[show S.lone 8128128064=false by kernel_rfl,show(aB ls).length=(nP (aB ls)).length by simp];rfl
 have hLW:∀aj:aw,land aj [] 8128192064 ((RV.one (.own 119 1 (wkP (eh (aY ls) (nD ls))))).eD (S.lone 8128192064))=some (.one (.hsl 8128192064 ((aj 8128192064).1+1) 1 0 (eh (aY ls) (nD ls)).length),[(8128192064,((aj 8128192064).1+1,some (.arr 119 1 (wkP (eh (aY ls) (nD ls))))))]):=by intro aj;rw[show S.lone 8128192064=false by kernel_rfl,show(eh (aY ls) (nD ls)).length=(wkP (eh (aY ls) (nD ls))).length by simp];rfl
 refine aV c127 ?_;simp only[go_sem,i127,s81,s47,cU pa (hLA _),cU pw (hLW _)];refine cJ (fun k ak aj=>ak 1=.one (.aX 8128000000 1 0)/\ak 4=.one (.hsl 8128128064 1 1 0 (aB ls).length)/\ak 5=.one (.hsl 8128192064 1 1 0 (eh (aY ls) (nD ls)).length)/\ak 6=vi ls.length/\ak 7=vi k/\
   aj 8128000000=(1,some (.var (mh F ls)))/\aj 8128128064=(1,some (.arr 3 1 (nP (aB ls))))/\aj 8128192064=(1,some (.arr 119 1 (wkP (eh (aY ls) (nD ls)))))/\
   ∃vo,ak 3=.one vo/\grown 8129408192 tP 5 (jR (((eh (aY ls) (nD ls)).take k).map (gC F ls))) (.one vo) aj) 0 (eh (aY ls) (nD ls)).length (bj _) ?_ ?_
 .simp only[go_sem];first|exact⟨rfl,_,rfl,.inl ⟨rfl,rfl⟩⟩|exact⟨rfl,rfl,_,rfl,.inl ⟨rfl,rfl⟩⟩|exact⟨rfl,rfl,rfl,_,rfl,.inl ⟨rfl,rfl⟩⟩|exact⟨rfl,rfl,rfl,rfl,_,rfl,.inl ⟨rfl,rfl⟩⟩
 rintro k ak aj hk ⟨h1,h4,h5,h6,h7,b0,bA,bW,vo,h3,go⟩
 by_cases aq:k<(eh (aY ls) (nD ls)).length
 .have aL:((k:Int)<((eh (aY ls) (nD ls)).length:Int)):=aa;obtain⟨w,hw⟩:=aM aq;obtain⟨⟨d,t,hwd,hd⟩,amh,hwm⟩:=alp w (aW hw);have kL:=atB hw;have w1:=bN (n:=k) aa;have js:(nP w)[0]?=some [.int .i64 (d:Int)]:=by rw[hwd];rfl
  have h0l:0<w.length:=by rw[hwd];simp
  have h0l':(0:Int)<(w.length:Int):=aa;have wq:=wrap_small (n:=d/2) aa;have pb:=ahQ F ls (d/2) hl aa;have GC:w.headD 0=d:=by rw[hwd];rfl
  have eY:jR (((eh (aY ls) (nD ls)).take (k+1)).map (gC F ls))=jR (((eh (aY ls) (nD ls)).take k).map (gC F ls))++[(gC F ls w).ps]:=by rw[iu,hw];simp
  have wQ:(jR (((eh (aY ls) (nD ls)).take k).map (gC F ls))).length<=k:=by simp;omega
  generalize jR (((eh (aY ls) (nD ls)).take k).map (gC F ls))=outs at go eY wQ;simp only[go_sem,i127_l4,h1,h5,h7,b0,bW,aq,aL,kL,js,dS,fp,wq,s132,kW pb];refine⟨aK,?_⟩;refine ajY ok hF hwm amh (gA:=1) (gW:=1) (gF:=(aj 8128576512).1+1) (i:=k) (cd:=.p .nils) (cp:=.p .nils) (cf:=.p .nils) (vo:=vo) (outs:=outs) ?_ ?_ ?_ ?_ ?_ ?_ ?_ ?_ ?_ ⟨?_,?_,?_,?_,grown.nil,grown.nil,grown.nil,?_⟩ ?_
  .simp only[go_sem,h1]
  .simp only[go_sem,h3]
  .simp only[go_sem,h4]
  .simp only[go_sem,h5]
  .simp only[go_sem,h6]
  .simp only[go_sem,h7]
  .simp only[go_sem]
  .simp only[go_sem]
  .simp only[go_sem]
  .simp only[go_sem,b0]
  .simp only[go_sem,bA]
  .simp only[go_sem,bW]
  .simp only[go_sem,xL,Fc.new,GC];simp
  .exact go.of_eq (by simp only[go_sem])
  intro aA ao xF mY we q1 q3 q4 q5 q6 q7 q9 hB;simp only[go_sem,h1,h3,h4,h5,h6,h7] at q1 q3 q4 q5 q6 q7 q9;have dV:=ZE (F:=F) (t:=t) hd;rw[<- hwd] at dV;generalize gC F ls w=f at hB eY dV;obtain⟨B0,BA,BW,BF,gd,gp,gf,go2⟩:=hB;rcases gd with ⟨e,_⟩|⟨_,gg,e,hbd⟩
  .simp at e;exact absurd e dV
  cases e;simp only[go_sem,i127_r2,i127_r3,q3,q9,BF];have gd:grown 8128896448 3 1 (nP f.bl) (.one (.hsl 8128896448 gg 1 0 (nP f.bl).length)) ao:=.inr ⟨by simpa using dV,gg,rfl,hbd⟩;rw[cH] at gd;obtain⟨fr,hx,vr,yh⟩:=Zk (aj:=dj ao 8129408128 ((ao 8129408128).1+1,some (.gU tP 5 [[.p (.bool f.fi),.hsl 8128896448 gg 1 0 f.bl.length,mY,we,.p (.bool f.outer)]]))) (s:=8129408128) rL (gd.of_eq (aR ae)) (gp.of_eq (aR ae)) (gf.of_eq (aR ae));have nf:∀i,i≠8128896448->i≠8129216192->i≠8129280192->i∉fr:=fun i a b c h=>by
   rcases yh i h with h|h|h
   .exact a h
   .exact b h
   exact c h
  refine Z9 (site:=8129408192) (id:=8129408192) (bytes:=88) (go2.of_eq (aR ae)) hx vr (nf _ ae ae ae) (nf _ ae ae ae) (.inl rfl) (by simp only[cS,eE];omega) fun c ba hc aT=>?_;have B0':=(aT 8128000000 ae ae (nf _ ae ae ae)).trans ((aR ae).trans B0);have BA':=(aT 8128128064 ae ae (nf _ ae ae ae)).trans ((aR ae).trans BA);have BW':=(aT 8128192064 ae ae (nf _ ae ae ae)).trans ((aR ae).trans BW);simp only[go_sem,q1,q3,q4,q5,q6,q7,B0',BA',BW',w1,aq];refine⟨c,rfl,?_⟩;rw[eY];exact hc
 have:k=(eh (aY ls) (nD ls)).length:=aa;subst this;rw[kE] at go;simp only[go_sem,i127_l4,i127_r5,h3,h5,h7,dG];exact xR go
def uA(ls:List Let)(k:Nat):List Bool:=(List.range ls.length).map fun i=>decide (i<k)&& !dn ls (i+1)
theorem XN(ls:List Let)(k:Nat):(uA ls k).length=ls.length:=by simp[uA]
theorem ahM(ls:List Let):uA ls 0=List.replicate ls.length false:=by
 refine Au fun i=>?_;simp only[uA,fT,List.getElem?_replicate];by_cases h:i<ls.length
 .simp[h]
 rw[mS (by simpa using h),ay h];rfl
theorem ahL(ls:List Let)(k:Nat):uA ls (k+1)=(uA ls k).set k (!dn ls (k+1)):=by
 refine Au fun i=>?_;rw[mC,XN];simp only[uA,fT];by_cases h:i<ls.length
 .rw[rO h];by_cases e:k=i
  .subst e;simp[h]
  simp only[kU,e,if_false];congr 2;exact decide_eq_decide.2 aa
 rw[mS (by simpa using h)];by_cases e:k=i
 .subst e;rw[aD rfl,ay h];rfl
 rw[ay e];rfl
abbrev BQ(ls:List Let):List Bool:=uA ls ls.length
theorem ahN{i:Nat}(h:i<ls.length):(BQ ls)[i]?=some (!dn ls (i+1)):=by simp[uA,h]
theorem ahP(ok:eH F ls):aF S 137 [.one (.p (mI F ls))] (.one (.own 4 1 (bP (BQ ls)))):=by
 have hl:=ok.hl;have j9:ls.length<=140737488355328:=aa;have zO:List.replicate ls.length [PV.bool false]=bP (uA ls 0):=by rw[ahM];simp
 refine aV c137 ?_;simp only[go_sem,i137,j9,zO];refine cJ (fun k ak aj=>ak 0=.one (.p (mI F ls))/\ak 3=.one (.hsl 8768064384 1 1 0 ls.length)/\aj 8768064384=(1,some (.arr 4 1 (bP (uA ls k))))/\
   ak 4=vb (!dn ls k)/\ak 18=.one (.p (cQ ls))/\ak 19=vi ls.length/\ak 20=vi k) 0 ls.length (bj _) ?_ ?_
 .simp only[go_sem];first|exact⟨rfl,rfl⟩|exact⟨rfl,rfl,rfl⟩|exact⟨rfl,rfl,rfl,rfl⟩|exact rfl
 rintro k ak aj hk ⟨h0,h3,hA,h4,kz,jS,h20⟩
 by_cases aq:k<ls.length
 .obtain⟨l,cF⟩:=aM aq;have hi:=fv cF;have aL:((k:Int)<(ls.length:Int)):=aa;have w1:=bN (n:=k) aa;have hlen:k<(uA ls k).length:=by rw[XN];exact aq
  obtain⟨b0,te⟩:=aM hlen;have kJ:=pZ te;have gK:=Il (uA ls k) k (!dn ls (k+1));rw[<- ahL] at gK;cases hp:(l.kind==1) with
  |true=>have hd:=Lr cF hp;have alc:=pZ (O0 cF hp);rw[hd] at gK;rw[Oc] at gK;simp only[go_sem,i137_l1,h0,h3,hA,h4,kz,jS,h20,hi,Let.ps,aq,aL,w1,hp,alc,kJ,gK,hd]
  |false=>have hd:=Ls cF hp;rw[hd] at gK;simp only[go_sem,i137_l1,h0,h3,hA,h4,kz,jS,h20,hi,Let.ps,aq,aL,w1,hp,kJ,gK,hd]
 have:k=ls.length:=aa;subst this;simp only[go_sem,i137_l1,i137_r2,h3,jS,h20,dG];exact Fp hA (by simp[uA])
abbrev EZ(id:Nat):Prop:=jy id=199
theorem ae7{g r T k:Nat}(h:k<=T-g):(mO g r T)[k]?=some (g+k,if k=0 then r else 0):=by
 cases k with
 |zero=>rfl
 |succ k=>unfold mO;rw[List.getElem?_cons_succ,fT,rO aa];simp;omega
theorem ar9{g T k:Nat}(h:k<T-g):(rJ g T)[k]?=some (g+1+k):=by unfold rJ;rw[fT,rO h];rfl
def Ir(g r T:Nat)(ps fs:List (List PV))(i1 i2:Nat)(aj:aw)(v:V)(ao:aw):Prop:=
 ∃c1 c2 j2,v=.tup [.one c1,.one c2]/\grown 12736320192 vK 2 (ps++dN (mO g r T)) (.one c1) ao/\grown j2 3 1 (fs++nP (rJ g T)) (.one c2) ao/\(j2=i2\/j2=12736256256)/\
  Kept (fun id=>EZ id\/id=i1\/id=i2) aj ao
def bt1:List Nat:=[12736000000,12736000064,12736128128,12736256192,12736256256,12736320128]
def bt2:List Nat:=[12736000000,12736000064,12736128128,12736128192,12736256192,12736320128,12736320192]
theorem Lh{al:Al}{aj:aw}{g r T t i1 i2:Nat}{ps fs:List (List PV)}{c1 c2:C}(okf:∀id,EZ id->al.ok id=true)(o1:al.ok i1=true)(o2:al.ok i2=true)(hT:g<=T)(ht:t=if T=g then r else 0)(hb:T<=1000)(dw:ps.length<=1000000)(r4:fs.length<=1000000)
  (n12:i1≠i2) (nb1:i1∉bt1) (nb2:i2∉bt2) (h1:grown i1 vK 2 ps (.one c1) aj) (h2:grown i2 3 1 fs (.one c2) aj):
  ∃v ao,iw S 199 [.agg [.p (.int .i64 g),.p (.int .i64 r)],.agg [.p (.int .i64 T),.p (.int .i64 t)],.one c1,.one c2] al aj v ao/\Ir g r T ps fs i1 i2 aj v ao:=by
 have k0:al.ok 12736000000=true:=okf _ rfl;have k64:al.ok 12736000064=true:=okf _ rfl;have kb1:al.ok 12736128128=true:=okf _ rfl;have ka1:al.ok 12736128192=true:=okf _ rfl;have M3:al.ok 12736256192=true:=okf _ rfl;have ka2:al.ok 12736256256=true:=okf _ rfl;have kb3:al.ok 12736320128=true:=okf _ rfl;have ka3:al.ok 12736320192=true:=okf _ rfl;refine mV c199 (iv rfl) ?_;simp only[go_sem,i199,k0,k64];have lenP:=vO g r T;have lenF:=NP g T;refine cJ (fun k ak ao=>ak 4=.one (.aX 12736000000 ((aj 12736000000).1+1) 0)/\ak 5=.one (.aX 12736000064 ((aj 12736000064).1+1) 0)/\
   ao 12736000000=((aj 12736000000).1+1,some (.var [.p (.int .i64 ((g+k:Nat):Int)),.p (.int .i64 ((if k=0 then r else 0:Nat):Int))]))/\ao 12736000064=((aj 12736000064).1+1,some (.var [.p (.int .i64 T),.p (.int .i64 t)]))/\
   ∃d1 d2 j1 j2,ak 2=.one d1/\ak 3=.one d2/\(j1=i1\/j1=12736128192)/\(j2=i2\/j2=12736256256)/\grown j1 vK 2 (ps++dN ((mO g r T).take k)) (.one d1) ao/\grown j2 3 1 (fs++nP ((rJ g T).take k)) (.one d2) ao/\Kept (fun id=>EZ id\/id=i1\/id=i2) aj ao) 0 (T-g) (bj _) ?_ ?_
 .simp only[go_sem];refine⟨rfl,c1,c2,i1,i2,rfl,rfl,.inl rfl,.inl rfl,?_,?_,?_⟩
  .exact(h1.of_eq (aR (Qq nb1 (by simp[bt1])))).of_eq (aR (Qq nb1 (by simp[bt1])))
  .exact(h2.of_eq (aR (Qq nb2 (by simp[bt2])))).of_eq (aR (Qq nb2 (by simp[bt2])))
  exact((Kept.refl _ _).dj (.inl rfl) _).dj (.inl rfl) _
 rintro k ak ao hk ⟨h4,h5,hA,hB,d1,d2,j1,j2,e2,e3,q1,q2,g1,g2,dq⟩
 have oj1:al.ok j1=true:=by rcases q1 with rfl|rfl<;>assumption
 have oj2:al.ok j2=true:=by rcases q2 with rfl|rfl<;>assumption
 have n1:∀a,a∈bt1->j1≠a:=fun a ha e=>by
  rcases q1 with rfl|rfl
  .exact nb1 (e▸ha)
  exact absurd (e▸ha) ae
 have n2:∀a,a∈bt2->j2≠a:=fun a ha e=>by
  rcases q2 with rfl|rfl
  .exact nb2 (e▸ha)
  exact absurd (e▸ha) ae
 have n3:j1≠j2:=fun e=>by
  rcases q1 with rfl|rfl
  .rcases q2 with rfl|rfl
   .exact n12 e
   exact n1 _ ae e
  exact n2 _ ae e.symm
 have kj1:EZ j1\/j1=i1\/j1=i2:=by
  rcases q1 with rfl|rfl
  .exact .inr (.inl rfl)
  exact .inl rfl
 have kj2:EZ j2\/j2=i1\/j2=i2:=by
  rcases q2 with rfl|rfl
  .exact .inr (.inr rfl)
  exact .inl rfl
 have ltk:((mO g r T).take k).length=k:=by rw[gT];omega
 have ltf:((rJ g T).take k).length=k:=by rw[gT];omega
 by_cases aq:k<T-g
 .have aL:(((g+k:Nat):Int)<(T:Int)):=aa;have w1:IntKind.i64.wrap (((g+k:Nat):Int)+1)=((g+(k+1):Nat):Int):=bN (n:=g+k) aa;have hp:dN ((mO g r T).take (k+1))=dN ((mO g r T).take k)++[[.int .i64 ((g+k:Nat):Int),.int .i64 ((if k=0 then r else 0:Nat):Int)]]:=by
   rw[iu,ae7 aa,Ad];rfl
  have hf:nP ((rJ g T).take (k+1))=nP ((rJ g T).take k)++[[.int .i64 ((g+(k+1):Nat):Int)]]:=by rw[iu,ar9 aq,yy,show g+1+k=g+(k+1) by omega];rfl
  simp only[go_sem,i199_l1,h4,h5,hA,hB,e2,aL,k0,k64,kb1];refine Pl (id:=j1) (site:=12736128192) (bytes:=16) (xs:=[[.int .i64 ((g+k:Nat):Int),.int .i64 ((if k=0 then r else 0:Nat):Int)]]) (rd:=[12736128128]) (by simp[ka1,oj1,kb1]) (g1.of_eq (aR (n1 _ ae))) (by simp[ed,aN]) (.inl rfl) (by simp only[eG,cH,ltk,cS,eE];omega) fun c ba hc aT=>?_;have hA2:=(aT 12736000000 ae (n1 _ ae).symm).trans ((aR ae).trans hA);have uF:=(aT 12736000064 ae (n1 _ ae).symm).trans ((aR ae).trans hB);simp only[go_sem,h4,hA2,e3,w1,k0,M3]
  refine Pl (id:=j2) (site:=12736256256) (bytes:=8) (xs:=[[.int .i64 ((g+(k+1):Nat):Int)]]) (rd:=[12736256192]) (by simp[ka2,oj2,M3]) (g2.of_eq ((aR (n2 _ ae)).trans ((aR (n2 _ ae)).trans ((aT _ (n2 _ ae) n3.symm).trans (aR (n2 _ ae)))))) (by simp[ed,aN]) (.inl rfl) (by simp only[eG,cH,ltf,cS,eE];omega) fun c' fN jT ef=>?_;have hA3:=(ef 12736000000 ae (n2 _ ae).symm).trans ((aR ae).trans rL);have hB3:=(ef 12736000064 ae (n2 _ ae).symm).trans ((aR ae).trans ((aR ae).trans uF));simp only[go_sem,h4,h5,hA3,hB3,e2,e3,aq];refine⟨rfl,c,c',12736128192,12736256256,rfl,rfl,.inr rfl,.inr rfl,?_,?_,fun id hn=>?_⟩
  .rw[hp,<- uv];exact hc.of_eq ((ef _ ae (n2 _ ae).symm).trans ((aR ae).trans (aR ae)))
  .rw[hf,<- uv];exact jT
  have a:∀x,EZ x->id≠x:=fun x hx e=>hn (.inl (e▸hx));have b1:id≠j1:=fun e=>hn (e▸kj1);have b2:id≠j2:=fun e=>hn (e▸kj2);exact(ef id (a _ rfl) b2).trans ((aR (a _ rfl)).trans ((aR (a _ rfl)).trans ((aT id (a _ rfl) b1).trans ((aR (a _ rfl)).trans (dq id hn)))))
 have:k=T-g:=aa;subst this;have aL:¬(((g+(T-g):Nat):Int)<(T:Int)):=aa;simp only[go_sem,i199_l1,i199_r2,h4,h5,hA,hB,e2,aL,k0,k64,kb3];have T6:dN (mO g r T)=dN ((mO g r T).take (T-g))++[[.int .i64 (T:Int),.int .i64 (t:Int)]]:=by
  have h1:=iu (l:=mO g r T) (i:=T-g);rw[ae7 (bJ _),dD (show(mO g r T).length<=T-g+1 by omega)] at h1;have e1:g+(T-g)=T:=aa;have e2:(if T-g=0 then r else 0)=t:=by
   rw[ht];by_cases h:T=g
   .rw[aD h,aD aa]
   rw[ay h,ay aa]
  rw[e1,e2] at h1;exact(congrArg (fun l:List (Nat×Nat)=>dN l) h1).trans (Ad _ _)
 have cV:(rJ g T).take (T-g)=rJ g T:=dD aa;refine Pl (id:=j1) (site:=12736320192) (bytes:=16) (xs:=[[.int .i64 (T:Int),.int .i64 (t:Int)]]) (rd:=[12736320128]) (by simp[ka3,oj1,kb3]) (g1.of_eq (aR (n1 _ ae))) (by simp[ed,aN]) (.inl rfl) (by simp only[eG,cH,ltk,cS,eE];omega) fun c ba hc aT=>?_;simp only[go_sem,e3];refine⟨c,d2,j2,rfl,?_,?_,q2,fun id hn=>?_⟩
 .rw[T6,<- uv];exact hc
 .rw[cV] at g2;exact g2.of_eq ((aT _ (n2 _ ae) n3.symm).trans (aR (n2 _ ae)))
 have a:∀x,EZ x->id≠x:=fun x hx e=>hn (.inl (e▸hx));have b1:id≠j1:=fun e=>hn (e▸kj1);exact(aT id (a _ rfl) b1).trans ((aR (a _ rfl)).trans (dq id hn))
theorem XI(ok:eH F ls)(hj:j<(aB ls).length):∃u l,(aB ls)[j]?=some u/\(aB ls).getD j 0=u/\ls[u]?=some l/\l.aJ=true/\tW F ls l/\dO ls l=j:=by obtain⟨u,l,h1,h2,h3,h4,h5⟩:=OM ok hj;obtain⟨l',k1,k2,k3⟩:=yX ok.ax h1;rw[h3] at k1;cases k1;exact⟨u,l,h1,h2,h3,h4,h5,k3⟩
theorem ahy{pg pr qg qr:Nat}{p q:Let}(gp:tW F ls p)(gq:tW F ls q)(hp:dO ls p=j)(hq:dO ls q=j+1)(h1:p.gate=(pg:Int))(h2:p.aE=(pr:Int))(h3:q.gate=(qg:Int))(h4:q.aE=(qr:Int)):
  pg<=qg/\qr-1=if qg=pg then pr else 0:=by
 obtain⟨_,_,p1,p2⟩:=gp;obtain⟨_,_,q1,q2⟩:=gq;unfold dO at hp hq;rw[h1,h2] at hp;rw[h3,h4] at hq;rw[h2] at p1;rw[h1,h2] at p2;rw[h4] at q1;rw[h3,h4] at q2;simp only[FN] at hp hq p2 q2;have sp:=tS ls pg;have sq:=tS ls qg;have hle:pg<=qg:=by
  rcases Oq qg pg with h|h
  .have:=AT (ls:=ls) (show qg+1<=pg by omega);omega
  exact h
 refine⟨hle,?_⟩;by_cases e:qg=pg
 .subst e;rw[aD rfl];omega
 rw[ay e];have:=AT (ls:=ls) (show pg+1<=qg by omega);omega
theorem ahw{qg qr:Nat}{q:Let}(gq:tW F ls q)(hq:dO ls q=0)(h3:q.gate=(qg:Int))(h4:q.aE=(qr:Int)):qr-1=0:=by obtain⟨_,_,q1,q2⟩:=gq;unfold dO at hq;rw[h3,h4] at hq;rw[h4] at q1;simp only[FN] at hq;omega
theorem arK:S.sites 199=[199]:=ah
theorem ux{vs:List V}{aj:aw}:∀id,EZ id->(allow (S.ctx .all) 199 vs aj).ok id=true:=fun id h=>vY (by rw[arK,h];simp)
theorem aqD(ok:eH F ls)(hF:F<=1000)(hj:j<(aB ls).length):
  aF S 167 [.one (.p (mI F ls)),vi j] (.tup [.one (aO vK 2 (dN (oz F ls j))),.one (aO 3 1 (nP (yB F ls j)))]):=by
 have hl:=ok.hl;have gY:(aB ls).length<=1000000:=mD (sX ls ls.length) hl;have hm:=ez (j+1) (show 0<(aB ls).length by omega);obtain⟨u,p,hu,du,hp,pp,gp,xp⟩:=XI ok hj;obtain⟨v,q,hv,dv,hq,pq,gq,xq⟩:=XI ok hm;unfold oz yB;simp only[du,dv,zj hp,zj hq,aed hp];have jX:=fv hp;have yo:=fv hq;have zJ:=iF hu;have rq:=iF hv;have e1:=um (j+1) (aB ls).length;have w1:=bN (n:=j) aa;have w2:=FL (a:=(aB ls).length) aa aa;have nv:¬(((aB ls).length:Int)=0):=aa
 have GB:=gp.g0;have zy:=gp.g1;have wO:=gq.g0;have cF:=gq.g1;have uM:=gp.r0;have ig:=gp.r1;have pG:=gq.r0;have pI:=gq.r1;have Mg:cg ls p.gate.toNat<=ls.length:=oU _ _;have hcq:cg ls q.gate.toNat<=ls.length:=oU _ _;obtain⟨pg,h1⟩:=uu (show 0<=p.gate by omega);obtain⟨pr,h2⟩:=uu (show 0<=p.aE by omega);obtain⟨qg,h3⟩:=uu (show 0<=q.gate by omega);obtain⟨qr,h4⟩:=uu (show 0<=q.aE by omega);have wr:=FL (a:=qr) (by rw[h4] at pG;omega) aa;have lU:S.shared 199=true:=ah;have alM:=fun h=>ahy gp gq xp (h:dO ls q=j+1) h1 h2 h3 h4;have T2:=fun h=>ahw gq (h:dO ls q=0) h3 h4
 rw[h1] at zy ig Mg GB;rw[h2] at ig uM;rw[h3] at wO cF pI hcq;rw[h4] at pG pI;rw[h1,h2,h3];simp only[FN] at ig Mg pI hcq ⊢;refine aV c167 ?_;by_cases aq:j+1<(aB ls).length
 .have aL:(j:Int)<(((aB ls).length-1:Nat):Int):=aa;rw[jN aq] at xq;obtain⟨n1,n2⟩:=alM xq;simp only[aD aq];simp only[go_sem,i167,zJ,rq,jX,yo,Let.ps,w1,e1,w2,wr,aL,nv,h1,h2,h3,h4,lU];refine⟨aK,?_⟩;refine tV (P:=Ir pg pr qg [] [] 12736128192 12736256256 _) zK (Lh (g:=pg) (r:=pr) (T:=qg) (t:=qr-1) (c1:=.p .nils) (c2:=.p .nils) ux (ux _ rfl) (ux _ rfl) n1 n2 aa (bj _) (bj _) ae ae ae grown.nil grown.nil) ?_;rintro v ao ⟨c1,c2,j2,rfl,g1,g2,nV,dq⟩
  have nV:j2=12736256256:=by rcases nV with h|h<;>exact h
  subst nV;simp only[go_sem];exact IZ ae g1 g2
 have aL:¬(j:Int)<(((aB ls).length-1:Nat):Int):=aa;have GF:(j+1)%(aB ls).length=0:=by rw[show j+1=(aB ls).length by omega,KX]
 rw[GF] at xq;have n2:=T2 xq;simp only[ay aq];have T6:∃t:Nat,t=(if F=pg then pr else 0):=⟨_,rfl⟩;obtain⟨t,ht⟩:=T6;have fin:∀(ak:Env) (aj:aw) (c1 c2:C),True:=fun _ _ _ _=>trivial;have ini:(((pg:Int)==(F:Int))=true/\t=pr/\F=pg)\/(((pg:Int)==(F:Int))=false/\t=0):=by
  by_cases h:F=pg
  .subst h;rw[aD rfl] at ht;exact .inl ⟨af,ht,rfl⟩
  rw[ay h] at ht;exact .inr ⟨by simp;omega,ht⟩
 rcases ini with ⟨hb,zQ,hFp⟩|⟨hb,zQ⟩
 .subst hFp;simp only[go_sem,i167,zJ,rq,jX,yo,Let.ps,w1,e1,w2,wr,aL,nv,h1,h2,h3,h4,lU,hb];refine⟨aK,?_⟩;refine⟨aK,?_⟩;refine tV (P:=Ir F pr F [] [] 12736128192 12736256256 _) zK (Lh (g:=F) (r:=pr) (T:=F) (t:=pr) (c1:=.p .nils) (c2:=.p .nils) ux (ux _ rfl) (ux _ rfl) aa (by rw[aD rfl]) aa (bj _) (bj _) ae ae ae grown.nil grown.nil) ?_;rintro v cn ⟨c1,c2,j2,rfl,g1,g2,nV,dq⟩
  have nV:j2=12736256256:=by rcases nV with h|h<;>exact h
  subst nV;rw[nH] at g1 g2;have hA:=dq 10688256384 ae;simp only[go_sem] at hA;simp only[go_sem,hA,lU];refine tV (P:=Ir 0 0 qg (dN (mO F pr F)) (nP (rJ F F)) 12736320192 12736256256 _) zK (Lh (g:=0) (r:=0) (T:=qg) (t:=qr-1) (c1:=c1) (c2:=c2) ux (ux _ rfl) (ux _ rfl) (bj _) (by rw[n2];split<;>rfl) aa (by simp only[cH,vO];omega) (by simp only[cH,NP];omega) ae ae ae g1 g2) ?_;rintro v ba ⟨d1,d2,j3,rfl,k1,k2,EG,_⟩
  have EG:j3=12736256256:=by rcases EG with h|h<;>exact h
  subst EG;simp only[go_sem];rw[Ad,yy];exact IZ ae k1 k2
 simp only[go_sem,i167,zJ,rq,jX,yo,Let.ps,w1,e1,w2,wr,aL,nv,h1,h2,h3,h4,lU,hb];refine⟨aK,?_⟩;refine⟨aK,?_⟩;refine tV (P:=Ir pg pr F [] [] 12736128192 12736256256 _) zK (Lh (g:=pg) (r:=pr) (T:=F) (t:=0) (c1:=.p .nils) (c2:=.p .nils) ux (ux _ rfl) (ux _ rfl) aa (by rw[zQ] at ht;exact ht) aa (bj _) (bj _) ae ae ae grown.nil grown.nil) ?_;rintro v cn ⟨c1,c2,j2,rfl,g1,g2,nV,dq⟩
 have nV:j2=12736256256:=by rcases nV with h|h<;>exact h
 subst nV;rw[nH] at g1 g2;have hA:=dq 10688256384 ae;simp only[go_sem] at hA;simp only[go_sem,hA,lU];refine tV (P:=Ir 0 0 qg (dN (mO pg pr F)) (nP (rJ pg F)) 12736320192 12736256256 _) zK (Lh (g:=0) (r:=0) (T:=qg) (t:=qr-1) (c1:=c1) (c2:=c2) ux (ux _ rfl) (ux _ rfl) (bj _) (by rw[n2];split<;>rfl) aa (by simp only[cH,vO];omega) (by simp only[cH,NP];omega) ae ae ae g1 g2) ?_;rintro v ba ⟨d1,d2,j3,rfl,k1,k2,EG,_⟩
 have EG:j3=12736256256:=by rcases EG with h|h<;>exact h
 subst EG;simp only[go_sem];rw[Ad,yy];exact IZ ae k1 k2
end
end Go.Abs
