/-
  The moves that are tried.
-/
import Derived.Test.YtjjdebhkbfeniaaGreatDoorRa
import Derived.Test.YtjjdebhkbfeniaaGreatDoorVe
set_option linter.unusedSimpArgs false
set_option linter.unusedVariables false
set_option linter.unusedSectionVars false
set_option maxRecDepth 100000
set_option maxHeartbeats 16000000
namespace Go.Abs
abbrev mvT:Nat:=38
abbrev edT:Nat:=3
def okM(k:Int)(av:Nat)(m:Mov):Prop:=m.k=k∧m.a=(av:Int)∧m.l=false∧m.o=false∧m.s=0∧smM m
theorem lI2{l:List Int}(h:l.length=2): ∃ a b,l=[a,b]:=by
 match l,h with
 |[a,b],_=>exact⟨a,b,rfl⟩
theorem lI3{l:List Int}(h:l.length=3): ∃ a b c,l=[a,b,c]:=by
 match l,h with
 |[a,b,c],_=>exact⟨a,b,c,rfl⟩
def niPost(blk:Blk)(v:V)(blk':Blk):Prop:=v= .tup []∧blk'=blk
theorem gP_soN{Q:Post}{al:Al}{env:Env}{blk:Blk}{os:List IOper}{d:Option Nat}{f:Nat}{vs:List V}{P:V→Blk→Prop}(hvs:(vs.map (reachV blk)).flatten=[])(hh:al= .all∨(S.sites f).all al.fs.contains=true)
  (h: ∀ al',al'.fs=S.sites f→ ∃ v blk',SEv S f vs al' blk v blk'∧P v blk') (hK: ∀ v blk',P v blk'→RN S al os Q (put env d v) blk'):gP S al (.sc f vs) d os Q env blk:=by
 refine gP_sc2 (P:=P) ?_ (h _ rfl) hK;rcases hh with rfl|h2
 ·rfl
 ·refine holds_of ?_ h2;show al.oks (vs.map (reachV blk)).flatten=true;rw[hvs];rfl
theorem insM0{al:Al}{blk:Blk}: ∃ v blk',SEv S 178 [.one (.p .nils),vi 0,vi 0,cmF] al blk v blk'∧niPost blk v blk':=by
 refine SEv_fn c178 (Nat.le_of_ble_eq_true rfl) ?_;have w0:IntKind.i64.wrap 1=1:=by decide
 have hz: ¬ ((1:Int)<0):=by decide
 simp only[go_sem,i178];refine R_unroll ?_;simp only[go_sem,i178_l3,w0,hz];first|done|exact⟨rfl,rfl⟩|trace_state
theorem pdqM0{al:Al}{blk:Blk}(f1:al.fs.contains 178=true)(lim:Int): ∃ v blk',SEv S 156 [.one (.p .nils),vi 0,vi 0,vi lim,cmF] al blk v blk'∧niPost blk v blk':=by
 refine SEv_fn c156 (Nat.le_of_ble_eq_true rfl) ?_;have w0:IntKind.i64.wrap (0 - 0)=0:=by decide
 have h12:((0:Int)≤12):=by decide
 simp only[go_sem,i156];refine R_unroll ?_;simp only[go_sem,i156_l1,w0,h12,s178];refine gP_soN (by rfl) (.inr (by rw[show S.sites 178=[178] by kernel_rfl];simp only[List.all_cons,List.all_nil,f1,Bool.and_self])) (P:=niPost blk) (fun al' _=>insM0) fun v blk' hP=> ?_
 obtain⟨rfl,h2⟩:=hP;simp only[go_sem];exact⟨rfl,h2⟩
theorem sortM0{al:Al}{blk:Blk}(f1:(S.sites 156).all al.fs.contains=true): ∃ v blk',SEv S 121 [.one (.p .nils),cmF] al blk v blk'∧niPost blk v blk':=by
 obtain⟨k,pb⟩:=bits_p 0 (by omega);have wu:IntKind.u64.wrap ((0:Nat):Int)=((0:Nat):Int):=by decide
 refine SEv_fn c121 (Nat.le_of_ble_eq_true rfl) ?_;have sbl:S.shared 118=false:=by kernel_rfl
 simp only[go_sem,i121,wu,sbl,gP_pA pb,s156];refine gP_soN (by rfl) (.inr f1) (P:=niPost blk) (fun al' h2=>pdqM0 (by rw[h2];kernel_rfl) k) fun v blk' hP=> ?_
 obtain⟨rfl,h2⟩:=hP;simp only[go_sem];exact⟨rfl,h2⟩
theorem corners_e{F:Nat}{ls:List Let}(g:Fine F ls)(kk:Int){av:Nat}(ha:av<ls.length): ∃ ms:List Mov,(ms.length≤2∧ ∀ m∈ms,okM kk av m)∧PEv S 85 [.one (.p (brdV F ls)),vi kk,vi av] (.one (grownR mvT 7 (mP ms))):=by
 have hlen:=g.len;have hN:nD ls≤1600:=by have:=axisK_len ls ls.length;unfold nD;have:(axisR ls).length≤ls.length:=axisK_len ls ls.length;omega
 suffices h: ∃ r,(∃ ms:List Mov,(ms.length≤2∧ ∀ m∈ms,okM kk av m)∧r= .one (grownR mvT 7 (mP ms)))∧PEv S 85 [.one (.p (brdV F ls)),vi kk,vi av] r by
  obtain⟨r,⟨ms,h1,rfl⟩,h2⟩:=h;exact⟨ms,h1,h2⟩
 refine PEv_ex rfl c85 (Nat.le_of_ble_eq_true rfl) ?_;simp only[go_sem,i85];refine R_for (fun k env blk=>env 0= .one (.p (brdV F ls))∧env 1=vi kk∧env 2=vi av∧env 14=vi k∧ ∃ ms c,ms.length≤k∧(∀ m∈ms,okM kk av m)∧env 7= .one c∧grown 5441280192 mvT 7 (mP ms) (.one c) blk) 0 2 (Nat.zero_le _) ?_ ?_
 ·simp only[go_sem];exact⟨rfl,[], .p .nils,Nat.le_refl _,fun m h=>(by cases h),rfl,grown.nil⟩
 ·rintro k env blk hk ⟨h0,h1,h2,h14,ms,c,hms,hok,h7,gm⟩
  by_cases hlt:k<2
  ·have hlt':((k:Int)<2):=by omega
   obtain⟨j,hj1,hj2,hj3⟩:=faceAt_at g (d:=2*av+k) (by omega);have hmemF:=List.mem_of_getElem? hj2;have hjp:=nP_at hj1;have hfp:=fcP_at hj2;have m2:=wrap_mul2 (a:=av) (by omega);have m3:=wrap_add (a:=2*av) (b:=k) (by omega);have w1:=wrap_succ (n:=k) (by omega);have hdl:2*av+k<(leftL F ls).length:=by rw[leftL_len];omega
   have hdd:=facesL_darts hmemF;have hddl:=facesL_dlen g.ok hmemF;obtain⟨_,_,hdm,_⟩:=faceAt_has (F:=F) (ls:=ls) (d:=2*av+k) (by omega);generalize hfe:faceAt F ls (2*av+k)=f at*;simp only[go_sem,i85_l4,h0,h2,h14,hlt',m2,m3,hjp,hfp,Fc.ps];refine⟨okd,?_⟩;obtain⟨g9,hg9⟩: ∃ g9,(blk 5440321024).fst+1=g9:=⟨_,rfl⟩;rw[hg9]
   refine R_for (fun q env2 blk2=>env2 0= .one (.p (brdV F ls))∧env2 1=vi kk∧env2 2=vi av∧env2 14=vi k∧env2 7= .one c∧grown 5441280192 mvT 7 (mP ms) (.one c) blk2∧env2 9= .one (.href 5440321024 g9 0)∧blk2 5440321024=(g9,some (.var (f.ps.map .p)))∧env2 34= .one (.p (.sl (nP f.darts)))∧env2 35=vi f.darts.length∧env2 36=vi q∧(0<q→f.darts.length≤3)∧ ∃ zs ce,zs.length=q∧(∀ z∈zs,0≤z∧z≤1000000)∧env2 10= .one ce∧grown 5440704256 edT 1 (iP zs) (.one ce) blk2) 0 f.darts.length (Nat.zero_le _) ?_ ?_
   ·have gm':grown 5441280192 mvT 7 (mP ms) (.one c) (upd (upd blk 5440321024 (g9,some (Ob.var [C.p (PV.bool false),C.p PV.nils,C.p PV.nils,C.p PV.nils,C.p (PV.bool false)]))) 5440321024 (g9,some (Ob.var (f.ps.map .p)))):=gm.of_eq ((upd_ne (by decide)).trans (upd_ne (by decide)));simp only[go_sem,h0,h1,h2,h7,h14,Fc.ps] at gm' ⊢;refine⟨gm',rfl,fun h=>h.elim,[], .p .nils,rfl,fun z h=>(by cases h),rfl,grown.nil⟩
   ·rintro q env2 blk2 hq ⟨p0,p1,p2,p14,p7,gm2,p9,b9,p34,p35,p36,h3,zs,ce,hzl,hzb,p10,gz⟩
    simp only[Fc.ps,List.map_cons,List.map_nil] at b9;by_cases hql:q<f.darts.length
    ·have hql':((q:Int)<(f.darts.length:Int)):=by omega
     obtain⟨d,hd⟩:=at_lt hql;have hdp:=nP_at hd;have hdb:=hdd d (List.mem_of_getElem? hd);have wq:=wrap_small (n:=d/2) (by omega);have w2:=wrap_succ (n:=q) (by omega);by_cases c1:d/2<av
     ·have c1':(((d/2:Nat):Int)<(av:Int)):=by omega
      simp only[go_sem,i85_l1,i85_r3,p0,p1,p2,p14,p7,p9,p10,p34,p35,p36,b9,hql,hql',hdp,two_ne,tdiv2,wq,c1',w1,hlt];exact⟨ms,c,by omega,hok,rfl,gm2⟩
     ·have c1': ¬ (((d/2:Nat):Int)<(av:Int)):=by omega
      by_cases c2:3<f.darts.length
      ·have c2':((3:Int)<(f.darts.length:Int)):=by omega
       simp only[go_sem,i85_l1,i85_r3,p0,p1,p2,p14,p7,p9,p10,p34,p35,p36,b9,hql,hql',hdp,two_ne,tdiv2,wq,c1',c2',w1,hlt];exact⟨ms,c,by omega,hok,rfl,gm2⟩
      ·have c2': ¬ ((3:Int)<(f.darts.length:Int)):=by omega
       simp only[go_sem,i85_l1,p2,p9,p10,p34,p35,p36,b9,hql',hdp,two_ne,tdiv2,wq,c1',c2'];refine gP_app (xs:=[[.int .i64 ((d/2:Nat):Int)]]) (gz.of_eq (upd_ne (by decide))) (by simp only[elemsOf,upd_apply,if_true];rfl) (.inl rfl) (by simp only[iP_len,List.length_cons,List.length_nil];omega) fun c2 blk3 gz2 hb=> ?_
       have q9:=hb 5440321024 (by decide) (by decide);have gm3:=gm2.of_eq ((hb 5441280192 (by decide) (by decide)).trans (upd_ne (by decide)));simp only[go_sem,b9] at q9;simp only[go_sem,p0,p1,p2,p14,p7,p9,p34,p35,p36,q9,w2,Fc.ps];refine⟨hql,gm3,fun _=>by omega,zs++[((d/2:Nat):Int)],c2,by simp;omega,fun z hz=> ?_,rfl,?_⟩
       ·rcases List.mem_append.1 hz with h|h
        ·exact hzb z h
        ·have:=List.mem_singleton.1 h;omega
       ·rw[show iP (zs++[((d/2:Nat):Int)])=iP zs++[[.int .i64 ((d/2:Nat):Int)]] by simp[iP]];exact gz2
    ·have:q=f.darts.length:=by omega
     subst this;have hdl0:0<f.darts.length:=List.length_pos_of_mem hdm;have h3':=h3 hdl0;rcases gz with ⟨e,_⟩|⟨_,gg,e,bz⟩
     ·have hz0:(iP zs).length=0:=by rw[e];rfl
      rw[iP_len] at hz0;omega
     cases e
     have sS:S.shared 119=true:=by kernel_rfl
     simp only[go_sem,i85_l1,i85_r2,p10,p35,p36,no_more,sS,iP_len];refine gP_soA bz (by rfl) (.inl rfl) (P:=soPost ltI 5440704256 gg edT zs blk2) (fun al' h1 h2=>sortI_s h1 (by rw[h2];kernel_rfl) (by omega) bz) fun v blk3 hP=> ?_
     obtain⟨rfl,⟨ws,bw,pw,sw⟩,kw⟩:=hP;have gm3:=gm2.of_eq (kw 5441280192 (by decide));have hwl:=pw.length_eq;have hwb: ∀ z∈ws,0≤z∧z≤1000000:=fun z hz=>hzb z (pw.mem_iff.1 hz)
     rw[hzl] at hwl;clear sw pw hzb b9 bz;clear h3 hql hdd hddl hmemF hdm hq;generalize f.darts.length=n at*;have s120:S.shared 120=false:=by kernel_rfl
     have q22:(((2:Nat):Int)==2)=true:=by decide
     have q12:(((1:Nat):Int)==2)=false:=by decide
     have q32:(((3:Nat):Int)==2)=false:=by decide
     have q13:(((1:Nat):Int)==3)=false:=by decide
     have q23:(((2:Nat):Int)==3)=false:=by decide
     have q33:(((3:Nat):Int)==3)=true:=by decide
     rcases(by omega:n=1∨n=2∨n=3) with rfl|rfl|rfl
     ·simp only[go_sem,i85_r3,p0,p1,p2,p14,p7,p10,hzl,q12,q13,w1,hlt];exact⟨ms,c,by omega,hok,rfl,gm3.of_eq ((upd_ne (by decide)).trans (upd_ne (by decide)))⟩
     ·obtain⟨y0,y1,rfl⟩:=lI2 hwl;by_cases h8:kk=8
      ·have e8:(kk !=8)=false:=by rw[h8];rfl
       simp only[go_sem,i85_r3,p0,p1,p2,p14,p7,p10,hzl,q22,q23,e8,w1,hlt];exact⟨ms,c,by omega,hok,rfl,gm3.of_eq ((upd_ne (by decide)).trans (upd_ne (by decide)))⟩
      ·have e8:(kk !=8)=true:=by simpa using h8
       simp only[go_sem,i85_r3,p1,p2,p7,p10,hzl,q22,e8,bw];obtain⟨bb,pcv⟩:=containsV_e ms ⟨kk,av,y1,0,false,false,0⟩ (by omega);have pcv':PEv S 120 [.one (.p (.sl (mP ms))), .agg [.p (.int .i64 kk), .p (.int .i64 av), .p (.int .i64 y1), .p (.int .i64 0), .p (.bool false), .p (.bool false), .p (.int .i64 0)]] (rb bb):=pcv;obtain⟨r,snB,hr⟩:=gm3.snapB;simp only[go_sem,s120,snB,gP_bool pcv'];cases bb with
       |true=>
        simp only[go_sem,p0,p1,p2,p14,p7,w1,hlt];exact⟨ms,c,by omega,hok,rfl,gm3.of_eq (by simp only[upd_apply,Nat.reduceEqDiff,if_false])⟩
       |false=>
        simp only[go_sem,p7];refine gP_app (xs:=[Mov.ps ⟨kk,av,y1,0,false,false,0⟩]) (gm3.of_eq (by simp only[upd_apply,Nat.reduceEqDiff,if_false])) (by simp only[elemsOf,upd_apply,if_true];rfl) (.inl rfl) (by simp only[mP_len,List.length_cons,List.length_nil];omega) fun c2 blk4 gm4 hb4=> ?_
        simp only[go_sem,p0,p1,p2,p14,w1,hlt];refine⟨ms++[⟨kk,av,y1,0,false,false,0⟩],c2,by simp;omega,fun m hm=> ?_,rfl,by rw[show mP (ms++[⟨kk,av,y1,0,false,false,0⟩])=mP ms++[Mov.ps ⟨kk,av,y1,0,false,false,0⟩] by simp[mP]];exact gm4⟩;rcases List.mem_append.1 hm with h|h
        ·exact hok m h
        ·have:=List.mem_singleton.1 h;subst this;exact⟨rfl,rfl,rfl,rfl,rfl,hwb y1 (by simp),by simp⟩
     ·obtain⟨y0,y1,y2,rfl⟩:=lI3 hwl;by_cases h8:kk=8
      ·have e8:(kk==8)=true:=by rw[h8];rfl
       simp only[go_sem,i85_r3,p1,p2,p7,p10,hzl,q32,q33,e8,bw];obtain⟨bb,pcv⟩:=containsV_e ms ⟨kk,av,y1,y2,false,false,0⟩ (by omega);have pcv':PEv S 120 [.one (.p (.sl (mP ms))), .agg [.p (.int .i64 kk), .p (.int .i64 av), .p (.int .i64 y1), .p (.int .i64 y2), .p (.bool false), .p (.bool false), .p (.int .i64 0)]] (rb bb):=pcv;obtain⟨r,snB,hr⟩:=gm3.snapB;refine⟨okd,?_⟩;simp only[go_sem,s120,snB,gP_bool pcv'];cases bb with
       |true=>
        simp only[go_sem,p0,p1,p2,p14,p7,w1,hlt];exact⟨ms,c,by omega,hok,rfl,gm3.of_eq (by simp only[upd_apply,Nat.reduceEqDiff,if_false])⟩
       |false=>
        simp only[go_sem,p7];refine gP_app (xs:=[Mov.ps ⟨kk,av,y1,y2,false,false,0⟩]) (gm3.of_eq (by simp only[upd_apply,Nat.reduceEqDiff,if_false])) (by simp only[elemsOf,upd_apply,if_true];rfl) (.inl rfl) (by simp only[mP_len,List.length_cons,List.length_nil];omega) fun c2 blk4 gm4 hb4=> ?_
        simp only[go_sem,p0,p1,p2,p14,w1,hlt];refine⟨ms++[⟨kk,av,y1,y2,false,false,0⟩],c2,by simp;omega,fun m hm=> ?_,rfl,by rw[show mP (ms++[⟨kk,av,y1,y2,false,false,0⟩])=mP ms++[Mov.ps ⟨kk,av,y1,y2,false,false,0⟩] by simp[mP]];exact gm4⟩;rcases List.mem_append.1 hm with h|h
        ·exact hok m h
        ·have:=List.mem_singleton.1 h;subst this;exact⟨rfl,rfl,rfl,rfl,rfl,hwb y1 (by simp),hwb y2 (by simp)⟩
      ·have e8:(kk==8)=false:=by simpa using h8
       simp only[go_sem,i85_r3,p0,p1,p2,p14,p7,p10,hzl,q32,q33,e8,w1,hlt];exact⟨ms,c,by omega,hok,rfl,gm3.of_eq ((upd_ne (by decide)).trans (upd_ne (by decide)))⟩
  ·have:k=2:=by omega
   subst this;have hge: ¬ (((2:Nat):Int)<2):=by decide
   have sS:S.shared 121=true:=by kernel_rfl
   simp only[go_sem,i85_l4,i85_r5,h7,h14,hge,sS];rcases gm with ⟨e,e2⟩|⟨hne,gg,e2,bm⟩
   ·cases e2
    have:ms=[]:=by simpa [mP] using e
    subst this;refine gP_soN (by rfl) (.inl rfl) (P:=niPost blk) (fun al' h2=>sortM0 (by rw[h2];kernel_rfl)) fun v blk3 hP=> ?_
    obtain⟨rfl,rfl⟩:=hP;simp only[go_sem,h7];exact⟨_,⟨[],⟨by simp,fun m h=>by cases h⟩,rfl⟩,rfl⟩
   ·cases e2
    rw[mP_len] at h7 ⊢;refine gP_soA bm (by rfl) (.inl rfl) (P:=smPost 5441280192 gg mvT ms blk) (fun al' h1 h2=>sortM_s h1 (by rw[h2];kernel_rfl) (by omega) (fun m hm=>(hok m hm).2.2.2.2.2) bm) fun v blk3 hP=> ?_
    obtain⟨rfl,⟨ws,bw,pw,sw⟩,kw⟩:=hP;simp only[go_sem,h7];have hwl:=pw.length_eq;refine⟨_,⟨ws,⟨by omega,fun m hm=>hok m (pw.mem_iff.1 hm)⟩,rfl⟩,?_⟩;rw[← hwl,← mP_len ws];refine grown_out (.inr ⟨fun e=>hne ?_,gg,rfl,bw⟩);have h0:(mP ws).length=0:=by rw[e];rfl
    rw[mP_len,hwl] at h0;rw[List.length_eq_zero_iff.1 h0];rfl
def okN(k:Int)(n:Nat)(m:Mov):Prop:= ∃ a,a<n∧okM k a m
theorem okN_app{k:Int}{n a:Nat}{ms ns:List Mov}(h: ∀ m∈ms,okN k n m)(h2: ∀ m∈ns,okM k a m)(ha:a<n): ∀ m∈ms++ns,okN k n m:=fun m hm=>(List.mem_append.1 hm).elim (h m) fun h3=>⟨a,ha,h2 m h3⟩
section
variable {F:Nat} {ls:List Let}
theorem candD_e(g:Fine F ls)(hne:0<ls.length){kk:Int}(d2:(kk==2)=false)(d5:(kk==5)=false)(d7:(kk==7)=false)(d3:(kk==3)=false)(d6:(kk==6)=false)(d8:(kk==8)=false): ∃ ms:List Mov,(ms.length≤2*ls.length∧ ∀ m∈ms,okN kk ls.length m)∧PEv S 53 [.one (.p (brdV F ls)),vi kk] (.one (grownR mvT 7 (mP ms))):=by
 have hlen:=g.len;have hpl:(pcP (pieces ls)).length=ls.length:=by rw[pcP,List.length_map,pieces_len]
 have hn0:(((ls.length:Nat):Int)==0)=false:=by rw[beq_eq_false_iff_ne];omega
 suffices h: ∃ r,(∃ ms:List Mov,(ms.length≤2*ls.length∧ ∀ m∈ms,okN kk ls.length m)∧r= .one (grownR mvT 7 (mP ms)))∧PEv S 53 [.one (.p (brdV F ls)),vi kk] r by
  obtain⟨r,⟨ms,h1,rfl⟩,h2⟩:=h;exact⟨ms,h1,h2⟩
 refine PEv_ex rfl c53 (Nat.le_of_ble_eq_true rfl) ?_;simp only[go_sem,i53,i53_r12,hpl,hn0];refine R_for (fun k env blk=>env 0= .one (.p (brdV F ls))∧env 1=vi kk∧env 41=vi ls.length∧env 42=vi k∧ ∃ ms c,ms.length≤2*k∧(∀ m∈ms,okN kk ls.length m)∧env 5= .one c∧grown 3392768320 mvT 7 (mP ms) (.one c) blk) 0 ls.length (Nat.zero_le _) ?_ ?_
 ·simp only[go_sem];exact⟨rfl,[], .p .nils,by simp,fun m h=>(by cases h),rfl,grown.nil⟩
 ·rintro k env blk hk ⟨h0,h1,h41,h42,ms,c,hms,hok,h5,gm⟩
  by_cases hlt:k<ls.length
  ·have hlt':((k:Int)<(ls.length:Int)):=by omega
   have w1:=wrap_succ (n:=k) (by omega);simp only[go_sem,i53_l10,i53_r9,h1,h41,h42,h5,hlt',d2,d5,d7,d3,d6,d8];refine gP_app (xs:=[Mov.ps ⟨kk,k,0,0,false,false,0⟩]) (gm.of_eq (by simp only[upd_apply,Nat.reduceEqDiff,if_false])) (by simp only[elemsOf,upd_apply,if_true];rfl) (.inl rfl) (by simp only[mP_len,List.length_cons,List.length_nil];omega) fun c2 blk4 gm4 hb4=> ?_
   simp only[go_sem,h0,h1,h41,h42,w1,hlt];refine⟨ms++[⟨kk,k,0,0,false,false,0⟩],c2,by simp;omega,fun m hm=> ?_,rfl,by rw[show mP (ms++[⟨kk,k,0,0,false,false,0⟩])=mP ms++[Mov.ps ⟨kk,k,0,0,false,false,0⟩] by simp[mP]];exact gm4⟩;rcases List.mem_append.1 hm with h|h
   ·exact hok m h
   ·have:=List.mem_singleton.1 h;subst this;exact⟨k,hlt,rfl,rfl,rfl,rfl,rfl,by simp[smM]⟩
  ·have:k=ls.length:=by omega
   subst this;simp only[go_sem,i53_l10,i53_r11,h41,h42,h5,no_more];exact⟨_,⟨ms,⟨hms,hok⟩,rfl⟩,grown_out gm⟩
theorem candC_e(g:Fine F ls)(hne:0<ls.length){kk:Int}(hkk:kk=3∨kk=6∨kk=8): ∃ ms:List Mov,(ms.length≤2*ls.length∧ ∀ m∈ms,okN kk ls.length m)∧PEv S 53 [.one (.p (brdV F ls)),vi kk] (.one (grownR mvT 7 (mP ms))):=by
 have hlen:=g.len;have lo:S.lone 3394944256=false:=by kernel_rfl
 have hpl:(pcP (pieces ls)).length=ls.length:=by rw[pcP,List.length_map,pieces_len]
 have hn0:(((ls.length:Nat):Int)==0)=false:=by rw[beq_eq_false_iff_ne];omega
 suffices h: ∃ r,(∃ ms:List Mov,(ms.length≤2*ls.length∧ ∀ m∈ms,okN kk ls.length m)∧r= .one (grownR mvT 7 (mP ms)))∧PEv S 53 [.one (.p (brdV F ls)),vi kk] r by
  obtain⟨r,⟨ms,h1,rfl⟩,h2⟩:=h;exact⟨ms,h1,h2⟩
 have d2:(kk==2)=false:=by rw[beq_eq_false_iff_ne];omega
 have d5:(kk==5)=false:=by rw[beq_eq_false_iff_ne];omega
 have d7:(kk==7)=false:=by rw[beq_eq_false_iff_ne];omega
 refine PEv_ex rfl c53 (Nat.le_of_ble_eq_true rfl) ?_;simp only[go_sem,i53,i53_r12,hpl,hn0];refine R_for (fun k env blk=>env 0= .one (.p (brdV F ls))∧env 1=vi kk∧env 41=vi ls.length∧env 42=vi k∧ ∃ ms c,ms.length≤2*k∧(∀ m∈ms,okN kk ls.length m)∧env 5= .one c∧grown 3394944320 mvT 7 (mP ms) (.one c) blk) 0 ls.length (Nat.zero_le _) ?_ ?_
 ·simp only[go_sem];exact⟨rfl,[], .p .nils,by simp,fun m h=>(by cases h),rfl,grown.nil⟩
 ·rintro k env blk hk ⟨h0,h1,h41,h42,ms,c,hms,hok,h5,gm⟩
  by_cases hlt:k<ls.length
  ·have hlt':((k:Int)<(ls.length:Int)):=by omega
   have w1:=wrap_succ (n:=k) (by omega);obtain⟨ns,⟨hns,hnk⟩,pc⟩:=corners_e g kk hlt;cases d3:(kk==3) with
   |true=>
    simp only[go_sem,i53_l10,i53_r9,h0,h1,h41,h42,h5,hlt',d2,d5,d7,d3,s85];refine gP_g1 pc lo (.inl rfl) fun cc blk1 gl hb1=> ?_
    have gm1:=gm.of_eq (hb1 3394944320 (by decide));obtain⟨r,hx,hr⟩:=gl.elems;simp only[go_sem];refine gP_app (xs:=mP ns) gm1 hx gl.szOK (by simp only[mP_len];omega) fun c2 blk4 gm4 hb4=> ?_
    simp only[go_sem,h0,h1,h41,h42,w1,hlt];exact⟨ms++ns,c2,by simp;omega,okN_app hok hnk hlt,rfl,by rw[show mP (ms++ns)=mP ms++mP ns by simp[mP]];exact gm4⟩
   |false=>
    cases d6:(kk==6) with
    |true=>
     simp only[go_sem,i53_l10,i53_r9,h0,h1,h41,h42,h5,hlt',d2,d5,d7,d3,d6,s85];refine gP_g1 pc lo (.inl rfl) fun cc blk1 gl hb1=> ?_
     have gm1:=gm.of_eq (hb1 3394944320 (by decide));obtain⟨r,hx,hr⟩:=gl.elems;simp only[go_sem];refine gP_app (xs:=mP ns) gm1 hx gl.szOK (by simp only[mP_len];omega) fun c2 blk4 gm4 hb4=> ?_
     simp only[go_sem,h0,h1,h41,h42,w1,hlt];exact⟨ms++ns,c2,by simp;omega,okN_app hok hnk hlt,rfl,by rw[show mP (ms++ns)=mP ms++mP ns by simp[mP]];exact gm4⟩
    |false=>
     have d8:(kk==8)=true:=by
      rcases hkk with rfl|rfl|rfl
      ·cases d3
      ·cases d6
      ·rfl
     simp only[go_sem,i53_l10,i53_r9,h0,h1,h41,h42,h5,hlt',d2,d5,d7,d3,d6,d8,s85];refine gP_g1 pc lo (.inl rfl) fun cc blk1 gl hb1=> ?_
     have gm1:=gm.of_eq (hb1 3394944320 (by decide));obtain⟨r,hx,hr⟩:=gl.elems;simp only[go_sem];refine gP_app (xs:=mP ns) gm1 hx gl.szOK (by simp only[mP_len];omega) fun c2 blk4 gm4 hb4=> ?_
     simp only[go_sem,h0,h1,h41,h42,w1,hlt];exact⟨ms++ns,c2,by simp;omega,okN_app hok hnk hlt,rfl,by rw[show mP (ms++ns)=mP ms++mP ns by simp[mP]];exact gm4⟩
  ·have:k=ls.length:=by omega
   subst this;simp only[go_sem,i53_l10,i53_r11,h41,h42,h5,no_more];exact⟨_,⟨ms,⟨hms,hok⟩,rfl⟩,grown_out gm⟩
end
end Go.Abs
