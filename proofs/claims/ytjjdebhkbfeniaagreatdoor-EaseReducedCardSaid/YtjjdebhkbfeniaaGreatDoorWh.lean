/-
  A part of a proof.
-/
import Derived.Test.YtjjdebhkbfeniaaGreatDoorWf
set_option linter.unusedSimpArgs false
set_option linter.unusedVariables false
set_option linter.unusedSectionVars false
set_option maxRecDepth 100000
set_option maxHeartbeats 16000000
namespace Go.Abs
section
variable{F:Nat}{ls:List Let}
abbrev dgV(F:Nat)(ls:List Let):PV:=dgP F ls (.sl (bP (downs ls))) (.sl (nP (axisR ls))) (.sl (nP (plK ls ls.length))) (.mp true (mapK ls ls.length)) (.sl (nP (counts ls F)))
structure dgOK (F:Nat) (ls:List Let):Prop where
 hl:ls.length≤1000000
 ax:axOK F ls
 cr:crossR ls=true
 kinds: ∀ l∈ls,l.isP=true∨l.isC=true
theorem wrap_m1{a:Nat}(h:a≤9223372036854775807):IntKind.i64.wrap ((a:Int) - 1)=(a:Int) - 1:=by
 cases a with
 |zero=>decide
 |succ a=>rw[wrap_pred (by omega) h];omega
theorem wrap_m1add{a n:Nat}(hn:1≤n)(h:a+n≤9223372036854775807):IntKind.i64.wrap (((a:Int) - 1)+(n:Int))=((a+n - 1:Nat):Int):=by
 have e:((a:Int) - 1)+(n:Int)=((a+n - 1:Nat):Int):=by omega
 rw[e];exact wrap_small (by omega)
theorem forwards_p(F:Nat)(ls:List Let)(i:Nat)(hl:ls.length≤1000000)(hi:i<ls.length):PEv S 142 [.one (.p (dgV F ls)),vi i] (ri (alongD ls.length i true)):=by
 refine pev1 c142 ?_;have e:=wrap_mul2 (a:=i) (by omega);simp only[go_sem,i142,e,alongD]
theorem backwards_p(F:Nat)(ls:List Let)(i:Nat)(hl:ls.length≤1000000)(hi:i<ls.length):PEv S 141 [.one (.p (dgV F ls)),vi i] (ri (alongD ls.length i false)):=by
 refine pev1 c141 ?_;have e1:=wrap_m1 (a:=i) (by omega);have e2:=wrap_m1add (a:=i) (n:=ls.length) (by omega) (by omega);have e3:=tmod_nat (i+ls.length - 1) ls.length;have hm:=Nat.mod_lt (i+ls.length - 1) (show 0<ls.length by omega);have e4:=wrap_mul2 (a:=(i+ls.length - 1)%ls.length) (by omega);have e5:=wrap_succ (n:=2*((i+ls.length - 1)%ls.length)) (by omega);have hz: ¬ ((ls.length:Int)=0):=by omega
 simp only[go_sem,i141,e1,e2,e3,e4,e5,hz,alongD]
theorem downs_at{v:Nat}{l:Let}(h:ls[v]? =some l)(hp:l.isP=true):(downs ls)[v]? =some (dn ls v):=by
 have:=(List.getElem?_eq_some_iff.1 h).1;simp[downs,List.getElem?_range this,dnP,h,hp]
theorem plK_at{v:Nat}{l:Let}(h:ls[v]? =some l)(hp:l.isP=true):(plK ls ls.length)[v]? =some (plOf ls l):=by
 have:=(List.getElem?_eq_some_iff.1 h).1;simp[plK,this,plI_of h hp]
theorem dgOK.kind1(ok:dgOK F ls){v:Nat}{l:Let}(h:ls[v]? =some l)(h2:(l.kind==2)=false):l.isP=true:=by
 rcases ok.kinds l (List.mem_of_getElem? h) with hp|hc
 ·exact hp
 ·unfold Let.isC at hc;rw[h2] at hc;cases hc
theorem dleft_p(ok:dgOK F ls)(d:Nat)(hd:d<2*ls.length+2*(axisR ls).length):PEv S 113 [.one (.p (dgV F ls)),vi d] (ri (turnD ls (axisR ls) d)):=by
 have hl:=ok.hl;have hal:(axisR ls).length≤1000000:=Nat.le_trans (axisK_len ls ls.length) hl;have hax: ∀ x∈axisR ls,x<ls.length∧ ∃ l,ls[x]? =some l∧l.isP=true:=fun x hx=>by
  obtain⟨l,h1,h2⟩:=axisR_mem.1 hx;exact⟨(List.getElem?_eq_some_iff.1 h1).1,l,h1,h2⟩
 have m1:IntKind.i64.wrap (2*(ls.length:Int))=((2*ls.length:Nat):Int):=wrap_mul2 (by omega);unfold turnD;by_cases h:2*ls.length≤d
 ·rw[if_pos h];refine pev1 c113 ?_;have h':((2*ls.length:Nat):Int)≤(d:Int):=by omega
  have m2:=wrap_sub (a:=d) (b:=2*ls.length) h (by omega);have m3:=wrap_small (n:=(d - 2*ls.length)/2) (by omega);have hm:=Nat.mod_lt ((d - 2*ls.length)/2+1) (show 0<(axisR ls).length by omega);have hm0: ¬ (((axisR ls).length:Int)=0):=by omega
  obtain⟨u,hu⟩:=at_lt (ls:=axisR ls) (k:=(d - 2*ls.length)/2) (by omega);have hnu:=nP_at hu;by_cases h2:d%2=0
  ·rw[if_pos h2];have m4:=wrap_succ (n:=(d - 2*ls.length)/2) (by omega);have h2':(((d%2:Nat):Int)==0)=true:=by simp[h2]
   have m5:=tmod_nat ((d - 2*ls.length)/2+1) (axisR ls).length;obtain⟨v,hv⟩:=at_lt hm;have hv2:(axisR ls).getD (((d - 2*ls.length)/2+1)%(axisR ls).length) 0=v:=by rw[List.getD_eq_getElem?_getD,hv];rfl
   rw[hv2];obtain⟨hvl,l,hlv,hlp⟩:=hax v (List.mem_of_getElem? hv);have hnv:=nP_at hv;have hdn:=bP_at (downs_at hlv hlp);have pf:=forwards_p F ls v hl hvl;have pb:=backwards_p F ls v hl hvl;cases hq:dn ls v with
   |true=>
    rw[hq] at hdn;simp only[go_sem,i113,m1,m2,m3,m4,m5,h',h2',hnu,hnv,hdn,hm0,tmod2,tdiv2,two_ne,s141,gP_int pb];exact⟨okd,okd⟩
   |false=>
    rw[hq] at hdn;simp only[go_sem,i113,m1,m2,m3,m4,m5,h',h2',hnu,hnv,hdn,hm0,tmod2,tdiv2,two_ne,s142,gP_int pf];exact⟨okd,okd⟩
  ·rw[if_neg h2];have h2':(((d%2:Nat):Int)==0)=false:=by simp;omega
   have hv2:(axisR ls).getD ((d - 2*ls.length)/2) 0=u:=by rw[List.getD_eq_getElem?_getD,hu];rfl
   rw[hv2];obtain⟨hvl,l,hlv,hlp⟩:=hax u (List.mem_of_getElem? hu);have hdn:=bP_at (downs_at hlv hlp);have pf:=forwards_p F ls u hl hvl;have pb:=backwards_p F ls u hl hvl;cases hq:dn ls u with
   |true=>
    rw[hq] at hdn;simp only[go_sem,i113,m1,m2,m3,h',h2',hnu,hdn,tmod2,tdiv2,two_ne,s142,gP_int pf];exact okd
   |false=>
    rw[hq] at hdn;simp only[go_sem,i113,m1,m2,m3,h',h2',hnu,hdn,tmod2,tdiv2,two_ne,s141,gP_int pb];exact okd
 ·rw[if_neg h];have h': ¬ (((2*ls.length:Nat):Int)≤(d:Int)):=by omega
  have m3:=wrap_small (n:=d/2) (by omega);have hn0: ¬ ((ls.length:Int)=0):=by omega
  have hm0:=Nat.mod_lt (d/2+1) (show 0<ls.length by omega);have m4:=wrap_succ (n:=d/2) (by omega);have m5:=tmod_nat (d/2+1) ls.length;have body: ∀ v:Nat,v<ls.length→ ∀ fw:Bool,v=(if fw then (d/2+1)%ls.length else d/2)→(((d%2:Nat):Int)==0)=fw→PEv S 113 [.one (.p (dgV F ls)),vi d] (ri ((match ls[v]? with
    |none=>0
    |some l=>if l.kind==2 then alongD ls.length (otherR ls v) (fw==(l.over==(l.sign==1)))
     else if dn ls v==fw then 2*ls.length+2*(axisR ls).idxOf v else 2*ls.length+2*(((axisR ls).idxOf v+(axisR ls).length - 1)%(axisR ls).length)+1:Nat):Int)):=by
   intro v hv fw hvf hfw';obtain⟨l,hlv⟩:=at_lt hv;have hpv:=ps_of hlv;rw[hlv];simp only;refine pev1 c113 ?_;cases hk:(l.kind==2) with
   |true=>
    have hc:l.isC=true:=hk;have hk1:(l.kind==1)=false:=by
     simp only[beq_iff_eq] at hk;rw[hk];rfl
    obtain⟨hvis,hol⟩:=other_law ok.cr hlv hc;have hf:=find_map ls ls.length l.id;rw[if_pos (ids_cover (List.mem_of_getElem? hlv) hc)] at hf;have pf:=forwards_p F ls (otherR ls v) hl hol;have pb:=backwards_p F ls (otherR ls v) hl hol;cases ho:l.over with
    |true=>
     rw[ho] at hvis;have hvis:visJ ls ls.length l.id false=some (otherR ls v):=hvis;simp only[entV,hvis] at hf;simp only[visV] at hf;cases hs:(l.sign==1) with
     |true=>
      cases fw with
      |true=>
       have hvf:v=(d/2+1)%ls.length:=hvf;rw[hvf] at hpv hf pf pb ⊢;simp only[go_sem,i113,m1,m3,m4,m5,h',hfw',hpv,Let.ps,hn0,hk1,ho,hs,tmod2,tdiv2,two_ne,mapOf,mapVal,keyKd,hf,s142,gP_int pf];exact⟨okd,okd⟩
      |false=>
       have hvf:v=d/2:=hvf;rw[hvf] at hpv hf pf pb ⊢;simp only[go_sem,i113,m1,m3,h',hfw',hpv,Let.ps,hk1,ho,hs,tmod2,tdiv2,two_ne,mapOf,mapVal,keyKd,hf,s141,gP_int pb];exact⟨okd,okd⟩
     |false=>
      cases fw with
      |true=>
       have hvf:v=(d/2+1)%ls.length:=hvf;rw[hvf] at hpv hf pf pb ⊢;simp only[go_sem,i113,m1,m3,m4,m5,h',hfw',hpv,Let.ps,hn0,hk1,ho,hs,tmod2,tdiv2,two_ne,mapOf,mapVal,keyKd,hf,s141,gP_int pb];exact⟨okd,okd⟩
      |false=>
       have hvf:v=d/2:=hvf;rw[hvf] at hpv hf pf pb ⊢;simp only[go_sem,i113,m1,m3,h',hfw',hpv,Let.ps,hk1,ho,hs,tmod2,tdiv2,two_ne,mapOf,mapVal,keyKd,hf,s142,gP_int pf];exact⟨okd,okd⟩
    |false=>
     rw[ho] at hvis;have hvis:visJ ls ls.length l.id true=some (otherR ls v):=hvis;simp only[entV,hvis] at hf;simp only[visV] at hf;cases hs:(l.sign==1) with
     |true=>
      cases fw with
      |true=>
       have hvf:v=(d/2+1)%ls.length:=hvf;rw[hvf] at hpv hf pf pb ⊢;simp only[go_sem,i113,m1,m3,m4,m5,h',hfw',hpv,Let.ps,hn0,hk1,ho,hs,tmod2,tdiv2,two_ne,mapOf,mapVal,keyKd,hf,s141,gP_int pb];exact⟨okd,okd⟩
      |false=>
       have hvf:v=d/2:=hvf;rw[hvf] at hpv hf pf pb ⊢;simp only[go_sem,i113,m1,m3,h',hfw',hpv,Let.ps,hk1,ho,hs,tmod2,tdiv2,two_ne,mapOf,mapVal,keyKd,hf,s142,gP_int pf];exact⟨okd,okd⟩
     |false=>
      cases fw with
      |true=>
       have hvf:v=(d/2+1)%ls.length:=hvf;rw[hvf] at hpv hf pf pb ⊢;simp only[go_sem,i113,m1,m3,m4,m5,h',hfw',hpv,Let.ps,hn0,hk1,ho,hs,tmod2,tdiv2,two_ne,mapOf,mapVal,keyKd,hf,s142,gP_int pf];exact⟨okd,okd⟩
      |false=>
       have hvf:v=d/2:=hvf;rw[hvf] at hpv hf pf pb ⊢;simp only[go_sem,i113,m1,m3,h',hfw',hpv,Let.ps,hk1,ho,hs,tmod2,tdiv2,two_ne,mapOf,mapVal,keyKd,hf,s141,gP_int pb];exact⟨okd,okd⟩
   |false=>
    have hp:=ok.kind1 hlv hk;have hk1:(l.kind==1)=true:=hp;have hdn:=bP_at (downs_at hlv hp);have hpl:=nP_at (plK_at hlv hp);have hix:=axis_idx ok.ax hlv hp;have hpT:=pl_T (ok.ax.good l (List.mem_of_getElem? hlv) hp);rw[T_len ok.ax.gates] at hpT;rw[hix];have hm0': ¬ (((axisR ls).length:Int)=0):=by omega
    have hml:=Nat.mod_lt (plOf ls l+(axisR ls).length - 1) (show 0<(axisR ls).length by omega);have n1:=wrap_mul2 (a:=plOf ls l) (by omega);have n2:=wrap_add (a:=2*ls.length) (b:=2*plOf ls l) (by omega);have n3:=wrap_m1 (a:=plOf ls l) (by omega);have n4:=wrap_m1add (a:=plOf ls l) (n:=(axisR ls).length) (by omega) (by omega);have n5:=tmod_nat (plOf ls l+(axisR ls).length - 1) (axisR ls).length;have n6:=wrap_mul2 (a:=(plOf ls l+(axisR ls).length - 1)%(axisR ls).length) (by omega);have n7:=wrap_add (a:=2*ls.length) (b:=2*((plOf ls l+(axisR ls).length - 1)%(axisR ls).length)) (by omega)
    have n8:=wrap_succ (n:=2*ls.length+2*((plOf ls l+(axisR ls).length - 1)%(axisR ls).length)) (by omega);cases fw with
    |true=>
     have hvf:v=(d/2+1)%ls.length:=hvf;cases hdn2:dn ls v with
     |true=>
      rw[hdn2] at hdn;rw[hvf] at hpv hdn hpl;simp only[go_sem,i113,m1,m3,m4,m5,h',hfw',hpv,Let.ps,hn0,hk1,tmod2,tdiv2,two_ne,hdn,hpl,n1,n2];exact okd
     |false=>
      rw[hdn2] at hdn;rw[hvf] at hpv hdn hpl;simp only[go_sem,i113,m1,m3,m4,m5,h',hfw',hpv,Let.ps,hn0,hk1,tmod2,tdiv2,two_ne,hdn,hpl,n3,n4,n5,n6,n7,n8,hm0'];exact okd
    |false=>
     have hvf:v=d/2:=hvf;cases hdn2:dn ls v with
     |true=>
      rw[hdn2] at hdn;rw[hvf] at hpv hdn hpl;simp only[go_sem,i113,m1,m3,h',hfw',hpv,Let.ps,hk1,tmod2,tdiv2,two_ne,hdn,hpl,n3,n4,n5,n6,n7,n8,hm0'];exact okd
     |false=>
      rw[hdn2] at hdn;rw[hvf] at hpv hdn hpl;simp only[go_sem,i113,m1,m3,h',hfw',hpv,Let.ps,hk1,tmod2,tdiv2,two_ne,hdn,hpl,n1,n2];exact okd
  have hvl:(if (d%2==0)=true then (d/2+1)%ls.length else d/2)<ls.length:=by
   split
   ·exact hm0
   ·omega
  have:=body _ hvl (d%2==0) rfl (by cases hq:(d%2==0)<;>simp at hq ⊢ <;>omega);exact this
abbrev nxt(ls:List Let):Nat→Nat:=turnD ls (axisR ls)
theorem flatIn(ok:dgOK F ls){Q:Post}:
  ∀ (fuel x:Nat) (sn:List Bool) (env:Env) (blk:Blk),env 0= .one (.p (dgV F ls))→env 4= .one (.hsl 5824128064 1 1 0 sn.length)→blk 5824128064=(1,some (.arr 4 1 (bP sn)))→
   env 7=vi x→x<sn.length→sn.length=2*ls.length+2*(axisR ls).length→unseen sn<fuel→
   (∀ env' blk',env' 0=env 0→env' 4=env 4→env' 5=env 5→env' 24=env 24→env' 25=env 25→blk' 5824128064=(1,some (.arr 4 1 (bP (walkF (nxt ls) fuel x sn).2)))→Q .normal env' blk')→
   W S .all (.loop i91_l1) (blockQ 2 Q) env blk:=by
 have hal:(axisR ls).length≤1000000:=Nat.le_trans (axisK_len ls ls.length) ok.hl;have hax: ∀ x∈axisR ls,x<ls.length:=fun x h=>axisK_lt h
 have hp: ∀ v l,ls[v]? =some l→(l.kind==2)=false→v∈axisR ls:=fun v l hv h2=>axisR_mem.2 ⟨l,hv,ok.kind1 hv h2⟩
 intro fuel
 induction fuel with
 |zero=>intro x sn env blk _ _ _ _ _ _ h;omega
 |succ fuel ih=>
  intro x sn env blk h0 h4 hS h7 hx hsl hu hq;obtain⟨b,hb⟩:=at_lt hx;have hbp:=bP_at hb;have hgd:sn.getD x true=b:=by rw[List.getD_eq_getElem?_getD,hb];rfl
  unfold walkF at hq;rw[hgd] at hq;refine R_unroll ?_;cases b with
  |true=>
   simp only[go_sem,i91_l1,h4,hS,h7,hx,hbp];refine hq _ _ ?_ ?_ ?_ ?_ ?_ hS;all_goals simp only[go_sem,h4]
  |false=>
   have hun:=unseen_set hb;have pt:=dleft_p ok x (by omega);have hnl:=turnD_lt (d:=x) hax hp (by omega);have hset:=bP_set sn x true;simp only[go_sem,i91_l1,h0,h4,hS,h7,hx,hbp,hset,s113,gP_int pt];refine ih (turnD ls (axisR ls) x) (sn.set x true) _ _ ?_ ?_ ?_ ?_ (by simpa [hsl] using hnl) (by simpa using hsl) (by omega) ?_
   ·simp only[go_sem,h0]
   ·simp only[go_sem,h4,List.length_set]
   ·simp only[go_sem]
   ·simp only[go_sem]
   ·intro env' blk' q0 q4 q5 q24 q25 b1;refine hq env' blk' ?_ ?_ ?_ ?_ ?_ b1
    ·rw[q0];simp only[go_sem]
    ·rw[q4];simp only[go_sem]
    ·rw[q5];simp only[go_sem]
    ·rw[q24];simp only[go_sem]
    ·rw[q25];simp only[go_sem]
theorem flat_p(ok:dgOK F ls):PEv S 91 [.one (.p (dgV F ls))] (rb (nWalks ls==cnt Let.isP ls+cnt Let.isC ls/2+2)):=by
 have hl:=ok.hl;have hal:(axisR ls).length≤ls.length:=axisK_len ls ls.length;have m1:=wrap_mul2 (a:=ls.length) (by omega);have m2:=wrap_mul2 (a:=(axisR ls).length) (by omega);have m3:=wrap_add (a:=2*ls.length) (b:=2*(axisR ls).length) (by omega);have hroom:2*ls.length+2*(axisR ls).length≤140737488355328:=by omega
 have hrep:List.replicate (2*ls.length+2*(axisR ls).length) [PV.bool false]=bP (List.replicate (2*ls.length+2*(axisR ls).length) false):=by simp
 have hml:(mapK ls ls.length).length=cnt Let.isC ls/2:=by
  have:=ok.cr;unfold crossR at this;simp only[Bool.and_eq_true,beq_iff_eq] at this;simp[mapK,this.2]
 have hcc:cnt Let.isC ls≤ls.length:=cnt_le _ _;refine pev1 c91 ?_;simp only[go_sem,i91,m1,m2,m3,hroom,hrep];refine⟨okd,?_⟩;generalize hN:2*ls.length+2*(axisR ls).length=N at hroom;refine R_for (fun k env blk=>env 0= .one (.p (dgV F ls))∧env 4= .one (.hsl 5824128064 1 1 0 N)∧blk 5824128064=(1,some (.arr 4 1 (bP (walksK (nxt ls) N k).2)))∧
   env 5=vi (walksK (nxt ls) N k).1.length∧env 24=vi N∧env 25=vi k) 0 N (Nat.zero_le _) ?_ ?_
 ·simp only[go_sem];exact⟨rfl,rfl,rfl⟩
 ·rintro k env blk hk ⟨h0,h4,hS,h5,h24,h25⟩
  have hlen:=walksK_len (nxt ls) N k;have holen:=walksK_olen (nxt ls) N k;by_cases hlt:k<N
  ·have hlt':((k:Int)<(N:Int)):=by omega
   have w1:=wrap_succ (n:=k) (by omega);have hs:=walksK_succ (nxt ls) N k;generalize hst:walksK (nxt ls) N k=st at hlen hs hS h5 holen;obtain⟨out,sn⟩:=st;simp only at hlen hS h5 holen;obtain⟨b,hb⟩:=at_lt (ls:=sn) (k:=k) (by omega);have hbp:=bP_at hb;unfold walkStep at hs;have hgd:sn.getD k true=b:=by rw[List.getD_eq_getElem?_getD,hb];rfl
   simp only[hgd] at hs;cases b with
   |true=>
    have hs:walksK (nxt ls) N (k+1)=(out,sn):=hs;simp only[go_sem,i91_l3,i91_r2,h0,h4,hS,h5,h24,h25,hlt,hlt',hbp,w1,hs]
   |false=>
    have hs:walksK (nxt ls) N (k+1)=(out++[(walkF (nxt ls) (N+1) k sn).1],(walkF (nxt ls) (N+1) k sn).2):=by rw[hs,hlen];rfl
    have hul:=unseen_le sn;have w2:=wrap_succ (n:=out.length) (by omega);simp only[go_sem,i91_l3,h4,hS,h5,h24,h25,hlt,hlt',hbp,w2];refine flatIn ok (N+1) k sn _ _ ?_ ?_ ?_ ?_ (by omega) (by omega) (by omega) ?_
    ·simp only[go_sem,h0]
    ·simp only[go_sem,h4,hlen]
    ·simp only[go_sem,hS]
    ·simp only[go_sem]
    ·intro env' blk' q0 q4 q5 q24 q25 b1;simp only[go_sem,h0,h4,h5,h24,h25] at q0 q4 q5 q24 q25;simp only[go_sem,i91_r2,q0,q4,q5,q24,q25,b1,w1,hs,hlt];simp
  ·have:k=N:=by omega
   subst this;have he:nWalks ls=(walksK (nxt ls) k k).1.length:=by
    unfold nWalks walksL nxt;rw[hN]
   rw[← he] at h5;have w3:=wrap_add (a:=(axisR ls).length) (b:=cnt Let.isC ls/2) (by omega);have w4:IntKind.i64.wrap ((((axisR ls).length+cnt Let.isC ls/2:Nat):Int)+2)=(((axisR ls).length+cnt Let.isC ls/2+2:Nat):Int):=wrap_add (a:=(axisR ls).length+cnt Let.isC ls/2) (b:=2) (by omega);have hb:(((nWalks ls:Nat):Int)==(((axisR ls).length+cnt Let.isC ls/2+2:Nat):Int))=(nWalks ls==cnt Let.isP ls+cnt Let.isC ls/2+2):=by
    rw[axisR_len];cases h:(nWalks ls==cnt Let.isP ls+cnt Let.isC ls/2+2) with
    |true=>simp at h ⊢;omega
    |false=>simp at h ⊢;omega
   simp only[go_sem,i91_l3,i91_r4,h0,h5,h24,h25,no_more,lenM,hml,w3,w4,hb];exact okd
abbrev K338(id:Nat):Prop:=id=2432320128∨(siteFn id=60∨siteFn id=89∨siteFn id=90)
def dgReady(F:Nat)(ls:List Let)(g:Nat)(blk:Blk):Prop:= ∃ g1 g2 g3 g4 g5,
 blk 2432320128=(g,some (.var (dgC F ls (hs 5696128448 g2 ls.length) (hs 5697344128 g5 (axisR ls).length) (hs 5696192448 g3 ls.length) (.hmap 5760256064 g4) (hs 5696064448 g1 (F+1)))))∧
 blk 5696064448=(g1,some (.arr 3 1 (nP (counts ls F))))∧blk 5696128448=(g2,some (.arr 4 1 (bP (downs ls))))∧blk 5696192448=(g3,some (.arr 3 1 (nP (plK ls ls.length))))∧
 blk 5697344128=(g5,some (.arr 3 1 (nP (axisR ls))))∧blk 5760256064=(g4,some (.map true (mapK ls ls.length)))
def validP(F:Nat)(ls:List Let):Bool:=decide (ls=[])||validR F ls
def vdPost(F:Nat)(ls:List Let)(g:Nat)(blk0:Blk)(v:V)(blk':Blk):Prop:=
 v=vb (validP F ls)∧Kept K338 blk0 blk'∧(ls≠[]→validR F ls=true→dgReady F ls g blk')∧(ls=[]→blk' 2432320128=blk0 2432320128)
theorem sitesV:S.sites 60=[60,89,90]:=by kernel_rfl
theorem sitesR:S.sites 89=[89]:=by kernel_rfl
theorem sitesX:S.sites 90=[90]:=by kernel_rfl
theorem Kept.weak{K K':Nat→Prop}{a b:Blk}(h:Kept K a b)(hk: ∀ id,K id→K' id):Kept K' a b:=fun id hn=>h id fun hh=>hn (hk id hh)
abbrev vfns(g:Nat):List (List C):=[[.hfn 87 [.href 2432320128 g 0] []],[.hfn 88 [.href 2432320128 g 0] []],[.hfn 89 [.href 2432320128 g 0] []],[.hfn 90 [.href 2432320128 g 0] []],[.hfn 91 [.href 2432320128 g 0] []]]
section
variable {al:Al} {Q:Post} {env:Env} {blk:Blk} {g g0:Nat}
theorem vpure(k:Nat){f:Nat}{dv:PV}{r:List Nat}{b:Bool}(hk:k<5)(hf:(vfns g)[k]? =some [.hfn f [.href 2432320128 g 0] []])(hsf:S.shared f=false)(oV:al.ok 3840192640=true)
  (h22:env 22= .one (hs 3840192640 g0 5)) (h23:env 23=vi 5) (h24:env 24=vi k) (bV:blk 3840192640=(g0,some (.carr 26 1 (vfns g))))
  (hsn:snapV blk (.one (.href 2432320128 g 0))=some (.one (.p dv),r)) (hr:al.oks r=true) (hp:PEv S f [.one (.p dv)] (rb b))
  (hfalse:b=false→ ∀ env',env' 2=vb false→Q .ret env' blk)
  (htrue:b=true→ ∀ env',env' 22= .one (hs 3840192640 g0 5)→env' 23=vi 5→env' 24=vi ((k+1:Nat):Int)→W S al (.loop i60_l1) Q env' blk):W S al (.loop i60_l1) Q env blk:=by
 refine R_unroll ?_;have hlt:((k:Int)<5):=by omega
 have w1:=wrap_succ (n:=k) (by omega);cases b with
 |false=>
  simp only[go_sem,i60_l1,h22,h23,h24,bV,hlt,hk,hf,hsf,oV,↓hsn,gP_bool_al hp,hr];exact hfalse rfl _ (by simp only[go_sem])
 |true=>
  simp only[go_sem,i60_l1,h22,h23,h24,bV,hlt,hk,hf,hsf,oV,↓hsn,gP_bool_al hp,hr,w1];refine htrue rfl _ ?_ ?_ ?_
  ·simp only[go_sem,h22]
  ·simp only[go_sem,h23]
  ·simp only[go_sem]
theorem vshare(k:Nat){f:Nat}{P:V→Blk→Prop}{b:Bool}(hk:k<5)(hf:(vfns g)[k]? =some [.hfn f [.href 2432320128 g 0] []])(hsf:S.shared f=true)(oV:al.ok 3840192640=true)
  (h22:env 22= .one (hs 3840192640 g0 5)) (h23:env 23=vi 5) (h24:env 24=vi k) (bV:blk 3840192640=(g0,some (.carr 26 1 (vfns g))))
  (hh:al.holds (allow (S.ctx al) f [.one (.href 2432320128 g 0)] blk)=true) (h: ∃ v blk',SEv S f [.one (.href 2432320128 g 0)] (allow (S.ctx al) f [.one (.href 2432320128 g 0)] blk) blk v blk'∧P v blk')
  (hP: ∀ v blk',P v blk'→v=vb b)
  (hfalse:b=false→ ∀ v env' blk',P v blk'→env' 2=vb false→Q .ret env' blk')
  (htrue:b=true→ ∀ v env' blk',P v blk'→env' 22= .one (hs 3840192640 g0 5)→env' 23=vi 5→env' 24=vi ((k+1:Nat):Int)→W S al (.loop i60_l1) Q env' blk'):W S al (.loop i60_l1) Q env blk:=by
 refine R_unroll ?_;have hlt:((k:Int)<5):=by omega
 have w1:=wrap_succ (n:=k) (by omega);simp only[go_sem,i60_l1,h22,h23,h24,bV,hlt,hk,hf,hsf,oV];refine gP_sc2 hh h fun v blk' hp=> ?_
 have hv:=hP v blk' hp;subst hv;cases b with
 |false=>
  simp only[go_sem];exact hfalse rfl _ _ _ hp (by simp only[go_sem])
 |true=>
  simp only[go_sem,h24,w1];refine htrue rfl _ _ _ hp ?_ ?_ ?_
  ·simp only[go_sem,h22]
  ·simp only[go_sem,h23]
  ·simp only[go_sem]
end
theorem valid_p{al:Al}(okD:al.ok 2432320128=true)(okf: ∀ id,(siteFn id=60∨siteFn id=89∨siteFn id=90)→al.ok id=true)(f1:al.fs.contains 89=true)(f2:al.fs.contains 90=true)
  {blk:Blk} {g F:Nat} {ls:List Let} (hl:ls.length≤1000000) (hF:F≤1000000)
  (bD:blk 2432320128=(g,some (.var (dgC F ls (.p .nils) (.p .nils) (.p .nils) (.p .nilm) (.p .nils))))): ∃ v blk',SEv S 60 [.one (.href 2432320128 g 0)] al blk v blk'∧vdPost F ls g blk v blk':=by
 have oV:=okf 3840192640 (.inl rfl);refine SEv_fn c60 (Nat.le_of_ble_eq_true rfl) ?_;by_cases he:ls=[]
 ·subst he;have hz:(((0:Nat):Int)==0)=true:=by decide
  simp only[go_sem,i60,bD,hz,okD];exact⟨rfl,Kept.refl _ _,fun h=>absurd rfl h,fun _=>rfl⟩
 ·have hpos:=List.length_pos_iff.2 he;have hnz:(((ls.length:Nat):Int)==0)=false:=by simp;omega
  obtain⟨l0,h0⟩:=at_lt hpos;have hde:decide (ls=[])=false:=by simp[he]
  have pl:=dletters_p F ls (.sl []) (.sl []) (.sl []) .nilm (.sl []) hl ⟨rfl,rfl,rfl,rfl,rfl⟩;have pb:=dbegins_p F ls l0 (.sl []) (.sl []) (.sl []) .nilm (.sl []) hl h0;have hlaw:=letters_law (F:=F) (ls:=ls);have fail: ∀ env' blk',Kept K338 blk blk'→validR F ls=false→env' 2=vb false→blockQ 0 (thenW S al i60_r2 (endQ al [(2,none)] (vdPost F ls g blk))) .ret env' blk':=fun env' blk' hk hv h2=>by
   simp only[go_sem,h2];exact⟨by rw[validP,hde,hv];rfl,hk,fun _ h=>(by rw[hv] at h;cases h),fun h=>absurd h he⟩
  have noL:lettersR F ls=false→validR F ls=false:=fun h=>by simp[validR,h]
  have noL': ¬ (ls.any (badL F)=false∧ranksR ls=true∧crossR ls=true)→validR F ls=false:=fun h=>noL (by
   cases hq:lettersR F ls with
   |false=>rfl
   |true=>exact absurd (hlaw.1 hq) h)
  simp only[go_sem,i60,bD,hnz,okD,oV];have hk1:Kept K338 blk (upd blk 3840192640 ((blk 3840192640).1+1,some (.carr 26 1 (vfns g)))):=Kept.upd (Kept.refl _ _) (.inr (.inl rfl)) _;generalize hb1:upd blk 3840192640 ((blk 3840192640).1+1,some (.carr 26 1 (vfns g)))=blk1;rw[hb1] at hk1;have bV:blk1 3840192640=((blk 3840192640).1+1,some (.carr 26 1 (vfns g))):=by rw[← hb1];simp only[go_sem]
  have bD:blk1 2432320128=(g,some (.var (dgC F ls (.p .nils) (.p .nils) (.p .nils) (.p .nilm) (.p .nils)))):=by rw[← hb1];simp only[go_sem,bD]
  clear hb1;have hsn:snapV blk1 (.one (.href 2432320128 g 0))=some (.one (.p (dgP F ls (.sl []) (.sl []) (.sl []) .nilm (.sl []))),[2432320128]):=by
   simp only[go_sem,bD]
  have hrd:al.oks [2432320128]=true:=by simp only[go_sem,okD]
  refine vpure 0 (by omega) rfl s87 oV (by simp only[go_sem]) (by simp only[go_sem];rfl) (by simp only[go_sem];rfl) bV hsn hrd pl (fun hb env' h2=>fail env' blk1 hk1 (noL' fun h=>by simp[h.1] at hb) h2) (fun hb env' q22 q23 q24=> ?_);have hb1:ls.any (badL F)=false:=by simpa using hb
  have hbl: ∀ l∈ls,badL F l=false:=fun l hl=>by simpa using List.any_eq_false.1 hb1 l hl
  have hg:gates F ls:=fun l hl hp=>((not_badP hp).1 (hbl l hl)).1.1.1
  refine vpure 1 (by omega) rfl s88 oV q22 q23 q24 bV hsn hrd pb (fun hb env' h2=>fail env' blk1 hk1 (by simp only[validR,h0,hb];rfl) h2) (fun hbg env' q22 q23 q24=> ?_);clear hb;have hre:reachV blk1 (.one (.href 2432320128 g 0))=[2432320128]:=by rw[reach_var bD];simp[reach_p]
  refine vshare (b:=ranksR ls) 2 (by omega) rfl (by kernel_rfl) oV q22 q23 q24 bV ?_ (ranks_p (allow_okI (by simp[hre])) (fun id h=>allow_ok (by rw[sitesR,h];rfl)) hl hF hg bD) (fun v blk' h=>h.1) ?_ ?_
  ·refine holds_of ?_ ?_
   ·show al.oks ([V.one (.href 2432320128 g 0)].map (reachV blk1)).flatten=true;simp only[List.map_cons,List.map_nil,hre,List.flatten_cons,List.flatten_nil,List.append_nil];exact hrd
   ·show(S.sites 89).all al.fs.contains=true;rw[sitesR];simp only[List.all_cons,List.all_nil,f1];rfl
  ·intro hb v env' blk' hp h2;exact fail env' blk' (hk1.trans (hp.2.1.weak fun id h=>h.elim .inl fun h=> .inr (.inr (.inl h)))) (noL' fun h=>by rw[h.2.1] at hb;cases hb) h2
  intro hrk v env' blk2 hp q22 q23 q24;obtain⟨_,hk2,hr2⟩:=hp;obtain⟨g1,g2,g3,g5,bD,bC,bW,bP',bA⟩:=hr2 hrk;have hax:axOK F ls:=by
   obtain⟨a,b⟩:=(ranks_iff hg).1 hrk;exact⟨a,b⟩
  rw[axis_law hax] at bA;rw[T_len hg] at bD;have bV:blk2 3840192640=((blk 3840192640).1+1,some (.carr 26 1 (vfns g))):=by rw[← bV];exact hk2 _ (by decide)
  have hk2':Kept K338 blk blk2:=hk1.trans (hk2.weak fun id h=>h.elim .inl fun h=> .inr (.inr (.inl h)));have oC:=okf 5696064448 (.inr (.inl rfl));have oW:=okf 5696128448 (.inr (.inl rfl));have oP:=okf 5696192448 (.inr (.inl rfl));have oA:=okf 5697344128 (.inr (.inl rfl));have oM:=okf 5760256064 (.inr (.inr rfl));have hre2:reachV blk2 (.one (.href 2432320128 g 0))=[2432320128,5696128448,5697344128,5696192448,5696064448]:=by
   rw[reach_var bD];simp only[List.map_cons,List.map_nil,reach_p,reach_arr bW,reach_arr bA,reach_arr bP',reach_arr bC,List.flatten_cons,List.flatten_nil,List.nil_append,List.append_nil,List.cons_append]
  refine vshare (b:=crossR ls) 3 (by omega) rfl (by kernel_rfl) oV q22 q23 q24 bV ?_ (dcross_p (allow_okI (by simp[hre2])) (fun id h=>allow_ok (by rw[sitesX,h];rfl)) hl bD) (fun v blk' h=>h.1) ?_ ?_
  ·refine holds_of ?_ ?_
   ·show al.oks ([V.one (.href 2432320128 g 0)].map (reachV blk2)).flatten=true;simp only[List.map_cons,List.map_nil,hre2,List.flatten_cons,List.flatten_nil,List.append_nil,oks_cons,oks_nil,okD,oC,oW,oP,oA,Bool.and_self]
   ·show(S.sites 90).all al.fs.contains=true;rw[sitesX];simp only[List.all_cons,List.all_nil,f2];rfl
  ·intro hb v env' blk' hp h2;exact fail env' blk' (hk2'.trans (hp.2.1.weak fun id h=>h.elim .inl fun h=> .inr (.inr (.inr h)))) (noL' fun h=>by rw[h.2.2] at hb;cases hb) h2
  intro hcr v env' blk3 hp q22 q23 q24;obtain⟨_,hk3,hr3⟩:=hp;obtain⟨g4,bD,bM⟩:=hr3 hcr;have kp: ∀ id,siteFn id=89→blk3 id=blk2 id:=fun id h=>hk3 id (by
   rintro (e|e)
   ·rw[e] at h;revert h;decide
   ·rw[e] at h;revert h;decide)
  rw[← kp _ rfl] at bC bW bP' bA;have bV:blk3 3840192640=((blk 3840192640).1+1,some (.carr 26 1 (vfns g))):=by rw[← bV];exact hk3 _ (by decide)
  have hk3':Kept K338 blk blk3:=hk2'.trans (hk3.weak fun id h=>h.elim .inl fun h=> .inr (.inr (.inr h)));have ok:dgOK F ls:=⟨hl,hax,hcr,fun l hl=>bad_kind (hbl l hl)⟩;have pf:=flat_p ok;have hlR:lettersR F ls=true:=hlaw.2 ⟨hb1,hrk,hcr⟩;have hvr:validR F ls=(nWalks ls==cnt Let.isP ls+cnt Let.isC ls/2+2):=by
   have hbg':(l0.kind==1)=true∧(cnt Let.isP ls%2==0)=true:=by simpa using hbg
   simp only[validR,h0,hbg'.1,hbg'.2,hlR,Bool.true_and]
  have t1:List.take ls.length (bP (downs ls))=bP (downs ls):=List.take_of_length_le (by simp[downs]);have t2:List.take (axisR ls).length (nP (axisR ls))=nP (axisR ls):=List.take_of_length_le (by simp);have t3:List.take ls.length (nP (plK ls ls.length))=nP (plK ls ls.length):=List.take_of_length_le (by simp[plK]);have t4:List.take (F+1) (nP (counts ls F))=nP (counts ls F):=List.take_of_length_le (by simp[counts]);have n1:ls.length≤(downs ls).length:=by simp[downs]
  have n3:ls.length≤(plK ls ls.length).length:=by simp[plK]
  have n4:F+1≤(counts ls F).length:=by simp[counts]
  have hsn:snapV blk3 (.one (.href 2432320128 g 0))=some (.one (.p (dgV F ls)),[2432320128,5696128448,5697344128,5696192448,5760256064,5696064448]):=by
   simp only[go_sem,snap_hmap,bD,bW,bA,bP',bC,bM,snapHmap,t1,t2,t3,t4,n1,n3,n4]
  have hrd:al.oks [2432320128,5696128448,5697344128,5696192448,5760256064,5696064448]=true:=by simp only[oks_cons,oks_nil,okD,oC,oW,oP,oA,oM,Bool.and_self]
  refine vpure 4 (by omega) rfl s91 oV q22 q23 q24 bV hsn hrd pf (fun hb env' h2=>fail env' blk3 hk3' (by rw[hvr];exact hb) h2) (fun hfl env' q22 q23 q24=> ?_);have hv:validR F ls=true:=by rw[hvr];exact hfl
  refine R_unroll ?_;have n5: ¬ ((((4+1:Nat)):Int)<5):=by decide
  simp only[go_sem,i60_l1,i60_r2,q23,q24,n5];exact⟨by rw[validP,hde,hv];rfl,hk3',fun _ _=>⟨g1,g2,g3,g4,g5,bD,bC,bW,bP',bA,bM⟩,fun h=>absurd h he⟩
abbrev dgE(f:Int):PV:=dgP f [] (.sl []) (.sl []) (.sl []) .nilm (.sl [])
abbrev rtup(a b:PV):RV:= .tup [.one (.p a), .one (.p b)]
def readR(f:Int)(ls:List Let):RV:=if checkR f ls=0 then rtup (if ls=[] then dgE f else dgV f.toNat ls) (.int .i64 0) else rtup .nilp (.int .i64 (checkR f ls))
theorem land_tup{blk:Blk}{s:Nat}{a b:PV}{l:Bool}:land blk [] s ((rtup a b).pureIf l)=some (.tup [.one (.p a), .one (.p b)],[]):=by
 cases l<;>rfl
theorem readR_bad{f:Int}{e:Int}(h:checkR f ls=e)(he:e≠0):readR f ls=rtup .nilp (.int .i64 e):=by
 unfold readR;rw[h,if_neg he]
theorem readR_good{f:Int}(h:checkR f ls=0):readR f ls=rtup (if ls=[] then dgE f else dgV f.toNat ls) (.int .i64 0):=by
 unfold readR;rw[if_pos h]
theorem read_p(f:Int)(ls:List Let)(hl:ls.length≤1000000):PEv S 38 [codeV f ls] (readR f ls):=by
 have pc:=crosses_p f ls hl;refine pev1 c38 ?_;by_cases h1:400<ls.length
 ·have h1':(400:Int)<(ls.length:Int):=by omega
  rw[readR_bad (e:=7) (by unfold checkR;rw[if_pos (Or.inl h1)]) (by decide)];simp only[go_sem,i38,h1'];rfl
 have h1': ¬ (400:Int)<(ls.length:Int):=by omega
 by_cases h2:200<cnt Let.isC ls
 ·have h2':(200:Int)<(cnt Let.isC ls:Int):=by omega
  rw[readR_bad (e:=7) (by unfold checkR;rw[if_pos (Or.inr h2)]) (by decide)];simp only[go_sem,i38,h1',h2',s33,gP_int pc];rfl
 have h2': ¬ (200:Int)<(cnt Let.isC ls:Int):=by omega
 have n1: ¬ (400<ls.length∨200<cnt Let.isC ls):=by omega
 by_cases h3:f<0
 ·rw[readR_bad (e:=2) (by unfold checkR;rw[if_neg n1,if_pos (Or.inl h3)]) (by decide)];simp only[go_sem,i38,h1',h2',h3,s33,gP_int pc];rfl
 by_cases h4:40<f
 ·rw[readR_bad (e:=2) (by unfold checkR;rw[if_neg n1,if_pos (Or.inr h4)]) (by decide)];simp only[go_sem,i38,h1',h2',h3,h4,s33,gP_int pc];rfl
 have n2: ¬ (f<0∨40<f):=by omega
 obtain⟨F,rfl⟩:=Int.eq_ofNat_of_zero_le (show 0≤f by omega);have hsh:S.shared 60=true:=by kernel_rfl
 simp only[go_sem,i38,h1',h2',h3,h4,s33,gP_int pc,hsh];refine gP_sc2 (P:=vdPost F ls 1 _) holds_all (valid_p (F:=F) (ls:=ls) ?_ ?_ ?_ ?_ hl (by omega) ?_) ?_
 ·refine allow_okI ?_;rw[List.map_cons,List.map_nil,reach_var (g0:=1) (cs:=dgC F ls (.p .nils) (.p .nils) (.p .nils) (.p .nilm) (.p .nils)) (by simp only[go_sem])];simp
 ·intro id h;refine allow_ok ?_;rw[sitesV];rcases h with h|h|h<;>rw[h]<;>rfl
 ·show(S.sites 60).contains _=true;rw[sitesV];rfl
 ·show(S.sites 60).contains _=true;rw[sitesV];rfl
 ·simp only[go_sem]
 ·rintro v blk' ⟨rfl,hk,hr,hz⟩
  unfold validP;by_cases he:ls=[]
  ·have hc:checkR F ls=0:=by unfold checkR;rw[if_neg n1,if_neg n2,if_pos he]
   have bD:=hz he;rw[readR_good hc,if_pos he];have hde:(decide (ls=[])||validR F ls)=true:=by simp[he]
   rw[hde];subst he;simp only[go_sem] at bD;simp only[go_sem];simp only[go_sem,outV,flatV,flatVs,flatV1,outCs,outC,bD];rfl
  ·have hde:decide (ls=[])=false:=by simp[he]
   cases hv:validR F ls with
   |false=>
    rw[readR_bad (e:=3) (by unfold checkR;rw[if_neg n1,if_neg n2,if_neg he,hv];rfl) (by decide)];rw[hde,Bool.false_or];simp only[go_sem];rfl
   |true=>
    have hc:checkR F ls=0:=by unfold checkR;rw[if_neg n1,if_neg n2,if_neg he,hv];rfl
    rw[readR_good hc,if_neg he];obtain⟨g1,g2,g3,g4,g5,bD,bC,bW,bP',bA,bM⟩:=hr he hv;have hFn:(F:Int).toNat=F:=rfl;rw[hFn];have t1:List.take ls.length (bP (downs ls))=bP (downs ls):=List.take_of_length_le (by simp[downs]);have t2:List.take (axisR ls).length (nP (axisR ls))=nP (axisR ls):=List.take_of_length_le (by simp);have t3:List.take ls.length (nP (plK ls ls.length))=nP (plK ls ls.length):=List.take_of_length_le (by simp[plK]);have t4:List.take (F+1) (nP (counts ls F))=nP (counts ls F):=List.take_of_length_le (by simp[counts]);have n1:ls.length≤(downs ls).length:=by simp[downs]
    have n3:ls.length≤(plK ls ls.length).length:=by simp[plK]
    have n4:F+1≤(counts ls F).length:=by simp[counts]
    rw[hde,Bool.false_or];simp only[go_sem];simp only[go_sem,outV,flatV,flatVs,flatV1,outCs,outC,snap_hmap,bD,bW,bA,bP',bC,bM,snapHmap,t1,t2,t3,t4,n1,n3,n4];rfl
theorem check_p(f:Int)(ls:List Let)(hl:ls.length≤1000000):PEv S 17 [codeV f ls] (ri (checkR f ls)):=by
 have pr:=read_p f ls hl;refine pev1 c17 ?_;unfold readR at pr;by_cases h:checkR f ls=0
 ·rw[if_pos h] at pr;simp only[go_sem,i17,s38,gP_land pr land_tup,h]
 ·rw[if_neg h] at pr;simp only[go_sem,i17,s38,gP_land pr land_tup]
abbrev mvV(k a b c:Int)(l o:Bool)(s:Int):V:= .agg [.p (.int .i64 k), .p (.int .i64 a), .p (.int .i64 b), .p (.int .i64 c), .p (.bool l), .p (.bool o), .p (.int .i64 s)]
abbrev rcode(e:Int):RV:= .tup [.agg [.p (.int .i64 0), .p .nils], .one (.p (.int .i64 e))]
theorem land_code{blk:Blk}{s:Nat}{e:Int}{l:Bool}:land blk [] s ((rcode e).pureIf l)=some (.tup [.agg [.p (.int .i64 0), .p .nils], .one (.p (.int .i64 e))],[]):=by
 cases l<;>rfl
section
variable {f:Int} {ls:List Let} {e:Int}
abbrev kinds(k:Nat):List Nat:=(List.range k).map (· +1)
end
end
end Go.Abs
