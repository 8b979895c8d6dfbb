/-
  The moves that are possible; a reducing move makes a code shorter.
-/
import Derived.Test.YtjjdebhkbfeniaaGreatDoorRb
import Derived.Test.YtjjdebhkbfeniaaGreatDoorUd
set_option linter.unusedSimpArgs false
set_option linter.unusedVariables false
set_option linter.unusedSectionVars false
set_option maxRecDepth 100000
set_option maxHeartbeats 16000000
namespace Go.Abs
abbrev cdT:Nat:=24
theorem toPss_code{a:PV}{id g z o l:Nat}:toPss [[.p a, .hsl id g z o l]]=none:=rfl
theorem elems_code{blk:Blk}{s g ty sd td zd:Nat}{x:Int}{cd:C}{D:List (List PV)}(hb:blk s=(g,some (.carr ty 2 [[.p (.int .i64 x),cd]])))(gd:grown sd td zd D (.one cd) blk):
  ∃ fr,elemsOf blk (.one (.hsl s g 2 0 1))=some ([[.int .i64 x, .sl D]],[s],fr)∧allArr blk fr∧(fr=[]∨fr=[sd]):=by
 obtain⟨r1,n1,a1,q1⟩:=gd.snapA;refine⟨r1,?_,a1,q1⟩;simp only[elemsOf,hb];simp[collect,n1,snap_p,PV.norm]
abbrev kOK(k:Int):Prop:=k146 k
def okS(F:Nat)(ls:List Let)(want:List Int)(m:Mov):Prop:=m.k∈want∧okN m.k ls.length m∧ ∃ M,appR F ls m.k m.a m.b m.c m.l m.o m.s=rokc F M
section
variable {F:Nat} {ls:List Let}
theorem cand_e(g:Fine F ls)(hne:0<ls.length){kk:Int}(h:kOK kk): ∃ ms:List Mov,(ms.length≤2*ls.length∧ ∀ m∈ms,okN kk ls.length m)∧PEv S 53 [.one (.p (brdV F ls)),vi kk] (.one (grownR mvT 7 (mP ms))):=by
 rcases h with rfl|rfl|rfl
 ·exact candD_e g hne (by decide) (by decide) (by decide) (by decide) (by decide) (by decide)
 ·exact candD_e g hne (by decide) (by decide) (by decide) (by decide) (by decide) (by decide)
 ·exact candC_e g hne (.inr (.inl rfl))
theorem some_e(g:Fine F ls)(hne:0<ls.length)(want:List Int)(hwl:want.length≤10)(hw: ∀ k∈want,kOK k): ∃ ms cs,(ms.length≤8000∧ ∀ m∈ms,okS F ls want m)∧PEv S 32 [.one (.p (brdV F ls)), .one (.p (.sl (iP want)))] (.tup [.one (grownR mvT 7 (mP ms)), .one (grownR cdT 2 cs)]):=by
 have hlen:=g.len;have lo1:S.lone 2048448128=false:=by kernel_rfl
 have lo2:S.lone 2048640128=false:=by kernel_rfl
 suffices h: ∃ r,(∃ ms cs,(ms.length≤8000∧ ∀ m∈ms,okS F ls want m)∧r= .tup [.one (grownR mvT 7 (mP ms)), .one (grownR cdT 2 cs)])∧PEv S 32 [.one (.p (brdV F ls)), .one (.p (.sl (iP want)))] r by
  obtain⟨r,⟨ms,cs,h1,rfl⟩,h2⟩:=h;exact⟨ms,cs,h1,h2⟩
 refine PEv_ex rfl c32 (Nat.le_of_ble_eq_true rfl) ?_;simp only[go_sem,i32];refine R_for (fun k env blk=>env 0= .one (.p (brdV F ls))∧env 1= .one (.p (.sl (iP want)))∧env 8=vi ((k+1:Nat):Int)∧ ∃ ms cs c d,ms.length≤800*k∧cs.length≤800*k∧(∀ m∈ms,okS F ls want m)∧env 6= .one c∧env 7= .one d∧grown 2048768192 mvT 7 (mP ms) (.one c) blk∧grown 2048768448 cdT 2 cs (.one d) blk) 0 10 (Nat.zero_le _) ?_ ?_
 ·simp only[go_sem];exact⟨rfl,[],[], .p .nils, .p .nils,by simp,by simp,fun m h=>(by cases h),rfl,rfl,grown.nil,grown.nil⟩
 ·rintro k env blk hk ⟨e0,e1,e8,ms,cs,c,d,hms,hcs,hok,e6,e7,gm,gc⟩
  by_cases hlt:k<10
  ·have hlt':((k+1:Nat):Int)≤10:=by omega
   have w1:=wrap_succ (n:=k+1) (by omega);have ph:=containsK_p want ((k+1:Nat):Int) (by omega);cases hc:want.contains ((k+1:Nat):Int) with
   |false=>
    rw[hc] at ph;simp only[go_sem,i32_l3,i32_r2,e0,e1,e6,e7,e8,hlt',s52,gP_bool ph,w1];exact⟨hlt,ms,cs,c,d,by omega,by omega,hok,rfl,rfl,gm,gc⟩
   |true=>
    have hmem:((k+1:Nat):Int)∈want:=by simpa using hc
    obtain⟨ns,⟨hns,hnk⟩,pc⟩:=cand_e g hne (hw _ hmem);rw[hc] at ph;simp only[go_sem,i32_l3,e0,e1,e8,hlt',s52,gP_bool ph,s53];refine gP_g1 pc lo1 (.inl rfl) fun cc blk1 gl hb1=> ?_
    have gm1:=gm.of_eq (hb1 2048768192 (by decide));have gc1:=gc.of_eq (hb1 2048768448 (by decide));rcases gl with ⟨e,e2⟩|⟨_,gg,e,hbl⟩
    ·cases e2
     simp only[go_sem];refine R_unroll ?_;simp only[go_sem,i32_l1,i32_r2,e0,e1,e6,e7,e8,zz,w1];exact⟨hlt,ms,cs,c,d,by omega,by omega,hok,rfl,rfl,gm1,gc1⟩
    ·cases e
     rw[mP_len];simp only[go_sem];refine R_for (fun j env blk=>env 0= .one (.p (brdV F ls))∧env 1= .one (.p (.sl (iP want)))∧env 8=vi ((k+1:Nat):Int)∧env 23= .one (.hsl 2048448128 gg 7 0 ns.length)∧env 24=vi ns.length∧env 25=vi j∧blk 2048448128=(gg,some (.arr mvT 7 (mP ns)))∧ ∃ ms cs c d,ms.length≤800*k+j∧cs.length≤800*k+j∧(∀ m∈ms,okS F ls want m)∧env 6= .one c∧env 7= .one d∧grown 2048768192 mvT 7 (mP ms) (.one c) blk∧grown 2048768448 cdT 2 cs (.one d) blk) 0 ns.length (Nat.zero_le _) ?_ ?_
     ·simp only[go_sem,e0,e1,e6,e7,e8];exact⟨rfl,hbl,ms,cs,c,d,by omega,by omega,hok,rfl,rfl,gm1,gc1⟩
     ·clear gm gc gm1 gc1 hok hms hcs hbl hb1 e0 e1 e6 e7 e8;rintro j env blk hj ⟨q0,q1,q8,q23,q24,q25,bL,ms,cs,c,d,hms,hcs,hok,q6,q7,gm,gc⟩
      by_cases hlj:j<ns.length
      ·have hlj':((j:Int)<(ns.length:Int)):=by omega
       have w2:=wrap_succ (n:=j) (by omega);obtain⟨m,hm1⟩:=at_lt hlj;have hat:=mov_at hm1;have hmk:=hnk m (List.mem_of_getElem? hm1);have hkm:m.k=((k+1:Nat):Int):=hmk.choose_spec.2.1;have hmlen:(mP ns).length=ns.length:=mP_len ns;have hk3:k146 m.k:=by rw[hkm];exact hw _ hmem
       have pd:=do3 g hk3 m.a m.b m.c m.l m.o m.s;rcases app3 g hk3 m.a m.b m.c m.l m.o m.s with ⟨e,he,ha⟩|⟨M,ha,_⟩
       ·rw[ha] at pd;have he':(e==0)=false:=by simpa using he
        simp only[go_sem,i32_l1,q0,q1,q6,q7,q8,q23,q24,q25,bL,hlj,hlj',hat,Mov.ps,s50,gP_land pd land_codeR,he',w2];exact⟨ms,cs,c,d,by omega,by omega,hok,rfl,rfl,gm.of_eq (by simp only[upd_apply,Nat.reduceEqDiff,if_false]),gc.of_eq (by simp only[upd_apply,Nat.reduceEqDiff,if_false])⟩
       ·have hokm:okS F ls want m:=⟨by rw[hkm];exact hmem,by rw[hkm];exact hmk,M,ha⟩;rw[ha] at pd;simp only[go_sem,i32_l1,q0,q23,q24,q25,bL,hlj,hlj',hat,Mov.ps,s50];refine gP_gT pd lo2 fun cx blk2 gx hb2=> ?_
        have b10:=hb2 2048576128 (by decide);simp only[go_sem] at b10;have bL2:=(hb2 2048448128 (by decide)).trans ((upd_ne (by decide)).trans ((upd_ne (by decide)).trans bL));have gm2:=gm.of_eq ((hb2 2048768192 (by decide)).trans (by simp only[upd_apply,Nat.reduceEqDiff,if_false]));have gc2:=gc.of_eq ((hb2 2048768448 (by decide)).trans (by simp only[upd_apply,Nat.reduceEqDiff,if_false]));have hmm: ∀ m'∈ms++[m],okS F ls want m':=fun m' h=>(List.mem_append.1 h).elim (hok m') fun h=>(List.mem_singleton.1 h)▸hokm
        have hmp:mP (ms++[m])=mP ms++[Mov.ps m]:=by simp[mP]
        rcases gx with ⟨eM,e2⟩|⟨hneM,g2,e2,hbx⟩
        ·cases e2
         simp only[go_sem,b10,q6];refine dP_app (site:=2048768192) (id:=2048768192) (bytes:=48) (xs:=[Mov.ps m]) (rd:=[2048768128]) (gm2.of_eq (by simp only[upd_apply,Nat.reduceEqDiff,if_false])) (by simp[elemsOf,upd_apply,Mov.ps]) (.inl rfl) (by simp only[mP_len,List.length_cons,List.length_nil];omega) fun c' blk3 r1 u1 hc1 hb3 hr1=> ?_
         have b11:=hb3 2048640384 (by decide) (by decide);simp only[go_sem] at b11;simp only[go_sem,b11,q7];have gc3:=gc2.of_eq ((hb3 2048768448 (by decide) (by decide)).trans (by simp only[upd_apply,Nat.reduceEqDiff,if_false]:_=blk2 2048768448));refine dP_app (site:=2048768448) (id:=2048768448) (bytes:=32) (xs:=[[.int .i64 F, .sl []]]) (rd:=[2048768384]) (gc3.of_eq (upd_ne (by decide))) (by simp[elemsOf,upd_apply]) (.inl rfl) (by simp only[List.length_cons,List.length_nil];omega) fun d' blk4 r2 u2 hd1 hb4 hr2=> ?_
         have bL4:=(hb4 2048448128 (by decide) (by decide)).trans ((upd_ne (by decide)).trans (hb3 2048448128 (by decide) (by decide)));simp only[upd_apply,Nat.reduceEqDiff,if_false] at bL4;have bL5:=bL4.trans bL2;simp only[go_sem,q0,q1,q6,q7,q8,q23,q24,q25,bL5,w2,hlj];refine⟨?_,ms++[m],_,c',d',by simp;omega,by simp;omega,hmm,rfl,rfl,?_,hd1⟩
         ·rcases hr1 with ⟨rfl,rfl⟩|⟨rfl,rfl⟩|⟨rfl,rfl⟩<;>rcases hr2 with ⟨rfl,rfl⟩|⟨rfl,rfl⟩|⟨rfl,rfl⟩<;>kernel_rfl
         ·rw[hmp];exact hc1.of_eq ((hb4 2048768192 (by decide) (by decide)).trans (upd_ne (by decide)))
        ·cases e2
         simp only[go_sem,b10,q6];refine dP_app (site:=2048768192) (id:=2048768192) (bytes:=48) (xs:=[Mov.ps m]) (rd:=[2048768128]) (gm2.of_eq (by simp only[upd_apply,Nat.reduceEqDiff,if_false])) (by simp[elemsOf,upd_apply,Mov.ps]) (.inl rfl) (by simp only[mP_len,List.length_cons,List.length_nil];omega) fun c' blk3 r1 u1 hc1 hb3 hr1=> ?_
         have b11:=hb3 2048640384 (by decide) (by decide);simp only[go_sem] at b11;simp only[go_sem,b11,q7];have bx3:=(hb3 (2048640128+1) (by decide) (by decide));simp only[Nat.reduceAdd,upd_apply,Nat.reduceEqDiff,if_false] at bx3 hbx;have hx3:=bx3.trans hbx;have gx3:grown (2048640128+1) lsTy 6 (letP M) (.one (.hsl (2048640128+1) g2 6 0 M.length)) blk3:= .inr ⟨hneM,g2,by rw[letP,List.length_map],hx3⟩
         obtain⟨fr,hx,hfa,hfi⟩:=elems_code (blk:=upd blk3 2048768384 ((blk3 2048768384).1+1,some (.carr cdT 2 [[.p (.int .i64 F), .hsl (2048640128+1) g2 6 0 M.length]]))) (s:=2048768384) upd_eq (gx3.of_eq (upd_ne (by decide)));have gc3:=gc2.of_eq ((hb3 2048768448 (by decide) (by decide)).trans (by simp only[upd_apply,Nat.reduceEqDiff,if_false]:_=blk2 2048768448));have nf: ∀ i,i≠2048640128+1→i∉fr:=fun i a h=>by
          rcases hfi with rfl|rfl
          ·cases h
          ·exact a (List.mem_singleton.1 h)
         refine dP_appF (site:=2048768448) (id:=2048768448) (bytes:=32) (gc3.of_eq (upd_ne (by decide))) hx hfa (nf _ (by decide)) (nf _ (by decide)) (.inl rfl) (by simp only[List.length_cons,List.length_nil];omega) fun d' blk4 r2 u2 hd1 hb4 hr2=> ?_
         have bL4:=(hb4 2048448128 (by decide) (by decide) (nf _ (by decide))).trans ((upd_ne (by decide)).trans (hb3 2048448128 (by decide) (by decide)));simp only[upd_apply,Nat.reduceEqDiff,if_false] at bL4;have bL5:=bL4.trans bL2;simp only[go_sem,q0,q1,q6,q7,q8,q23,q24,q25,bL5,w2,hlj];refine⟨?_,ms++[m],_,c',d',by simp;omega,by simp;omega,hmm,rfl,rfl,?_,hd1⟩
         ·rcases hfi with rfl|rfl<;>rcases hr1 with ⟨rfl,rfl⟩|⟨rfl,rfl⟩|⟨rfl,rfl⟩<;>rcases hr2 with ⟨rfl,rfl⟩|⟨rfl,rfl⟩|⟨rfl,rfl⟩<;>kernel_rfl
         ·rw[hmp];exact hc1.of_eq ((hb4 2048768192 (by decide) (by decide) (nf _ (by decide))).trans (upd_ne (by decide)))
      ·have:j=ns.length:=by omega
       subst this;simp only[go_sem,i32_l1,i32_r2,q0,q1,q6,q7,q8,q24,q25,no_more,w1];exact⟨hlt,ms,cs,c,d,by omega,by omega,hok,rfl,rfl,gm,gc⟩
  ·have:k=10:=by omega
   subst this;have hnl: ¬ (((10+1:Nat):Int)≤10):=by decide
   simp only[go_sem,i32_l3,i32_r4,e6,e7,e8,hnl];exact⟨_,⟨ms,cs,⟨hms,hok⟩,rfl⟩,grown_out2 (by decide) gm gc⟩
end
theorem keepL_lt{l:List Pc}{drop:Nat→Pc→Bool}{i:Nat}{p:Pc}(hp:l[i]? =some p)(hd:drop i p=true):(keepL l drop).length<l.length:=by
 have hi:=(List.getElem?_eq_some_iff.1 hp).1;have key: ∀ k,k≤l.length→i<k→(keepK l drop k).length<k:=by
  intro k
  induction k with
  |zero=>intro _ h;exact absurd h (Nat.not_lt_zero i)
  |succ k ih=>
   intro hk hik;by_cases e:i=k
   ·subst e;rw[keepK_drop hp hd];have:=keepK_len l drop i;omega
   ·obtain⟨q,hq⟩:=at_lt (ls:=l) (k:=k) (by omega);have:=ih (by omega) (by omega);cases hdq:drop k q
    ·rw[keepK_keep hq hdq,List.length_append];simp only[List.length_cons,List.length_nil];omega
    ·rw[keepK_drop hq hdq];omega
 exact key l.length (Nat.le_refl _) hi
theorem fin_cnt{q:Let→Bool}(l:List Pc):cnt q (finL l)=l.countP fun p=>q p.l:=by
 have e:cnt q (l.map Pc.l)=l.countP fun p=>q p.l:=by
  show List.countP _ (List.map _ _)=_;rw[List.countP_map];rfl
 rw[← e];have hf:(firstD l).getD 0≤l.length:=by
  cases h:firstD l with
  |none=>exact Nat.zero_le _
  |some f=>
   have:=List.mem_of_find?_eq_some h;simp at this;simp only[Option.getD_some];omega
 unfold finL;rw[rot_eq2 hf];show List.countP _ _=List.countP _ _;rw[List.map_append,List.countP_append,Nat.add_comm,← List.countP_append,← List.map_append,List.take_append_drop]
section
variable {F:Nat} {ls:List Let}
theorem moveR_less{k:Int}(hk:k=1∨k=4∨k=6){a b c:Nat}{l o:Bool}{sg:Int}(ha:a<ls.length){L:List Pc}(h:moveR F ls k a b c l o sg=some L):L.length<ls.length:=by
 obtain⟨p,hp⟩:=at_lt (ls:=pieces ls) (k:=a) (by rw[pieces_len];exact ha);have hpl:=pieces_len ls;have hg:(pieces ls).getD a ⟨noLet,false⟩=p:=by simp[List.getD_eq_getElem?_getD,hp]
 rcases hk with rfl|rfl|rfl
 ·have h:acR ls a=some L:=h;unfold acR at h;simp only at h;split at h
  ·cases h
   show(List.map _ _).length<_;rw[List.length_map,← hpl];exact keepL_lt hp (by simp)
  ·cases h
 ·have h:lcR ls a=some L:=h;unfold lcR at h;simp only at h;rw[hg] at h;split at h
  ·rename_i hc;cases h
   show(List.map _ _).length<_;rw[List.length_map,← hpl];simp only[Bool.and_eq_true] at hc;exact keepL_lt hp (by unfold dropI;rw[hc.1];simp)
  ·cases h
 ·have h:pcR F ls a b=some L:=h;unfold pcR at h;rw[pA_of hp] at h;split at h
  ·rename_i hc;cases h
   show(List.map _ _).length<_;rw[List.length_map,← hpl];have hk2:(p.l.kind==2)=true:=by
    simp only[Bool.and_eq_true,Bool.or_eq_true] at hc;unfold boR at hc;rw[pA_of hp] at hc;simp only[Bool.and_eq_true] at hc;rcases hc.1 with h|h
    ·exact h.1.1
    ·exact h.1.1
   exact keepL_lt hp (by unfold dropI;rw[hk2];simp)
  ·cases h
theorem cut_law(g:Fine F ls){want:List Int}{m:Mov}(hm:okS F ls want m)(hk:m.k=1∨m.k=4∨m.k=6): ∃ M,appR F ls m.k m.a m.b m.c m.l m.o m.s=rokc F M∧checkR F M=0∧M.length<ls.length∧cnt Let.isP M≤cnt Let.isP ls∧cnt Let.isC M≤cnt Let.isC ls:=by
 obtain⟨_,⟨av,ha,_,ea,_⟩,M0,e0⟩:=hm;rcases app3 g hk m.a m.b m.c m.l m.o m.s with ⟨e,he,h⟩|⟨M,h,hc,_,L,hL,rfl⟩
 ·rw[e0] at h;unfold rokc rcode at h;simp only[RV.tup.injEq,List.cons.injEq,RV.one.injEq,RC.p.injEq,PV.int.injEq,and_true,true_and] at h;exact absurd h.2.symm he
 ·rw[ea,Int.toNat_natCast] at hL;have hpl:=pieces_len ls;have hlt:=moveR_less hk ha hL;have kC:kindT (fun p=>p.l.isC):=fun p p' h=>by show(p.l.kind==2)=(p'.l.kind==2);rw[h]
  have kP:kindT (fun p=>p.l.isP):=fun p p' h=>by show(p.l.kind==1)=(p'.l.kind==1);rw[h]
  have pq: ∀ q:Let→Bool,(pieces ls).countP (fun p=>q p.l)=cnt q ls:=fun q=>by
   rw[← pcl_cnt (ls:=ls) q];show _=List.countP _ (List.map _ _);rw[List.countP_map];rfl
  have c1:=moveR_cnt3 kP hk hL;have c2:=moveR_cnt3 kC hk hL;rw[pq] at c1 c2;exact⟨_,h,hc,by rw[finL_len];exact hlt,by rw[fin_cnt];exact c1,by rw[fin_cnt];exact c2⟩
end
section
variable {F:Nat}
theorem candZ_p{k:Int}(hk:(k==2)=false):PEv S 53 [.one (.p (brdV F [])),vi k] (.one (grownR mvT 7 [])):=by
 have hpl:(pcP (pieces [])).length=0:=rfl;have h7:(((0:Nat):Int)==0)=true:=by decide
 refine pev1 c53 ?_;simp only[go_sem,i53,i53_r12,hpl,h7,hk];refine R_unroll ?_;simp only[go_sem,i53_l10,i53_r11,zz];rfl
theorem someZ_p(want:List Int)(hwl:want.length≤10)(hw: ∀ k∈want,kOK k):PEv S 32 [.one (.p (brdV F [])), .one (.p (.sl (iP want)))] (.tup [.one (grownR mvT 7 []), .one (grownR cdT 2 [])]):=by
 have lo1:S.lone 2048448128=false:=by kernel_rfl
 refine pev1 c32 ?_;simp only[go_sem,i32];refine R_for (fun k env blk=>env 0= .one (.p (brdV F []))∧env 1= .one (.p (.sl (iP want)))∧env 8=vi ((k+1:Nat):Int)∧env 6= .one (.p .nils)∧env 7= .one (.p .nils)) 0 10 (Nat.zero_le _) ?_ ?_
 ·simp only[go_sem];rfl
 ·rintro k env blk hk ⟨e0,e1,e8,e6,e7⟩
  by_cases hlt:k<10
  ·have hlt':((k+1:Nat):Int)≤10:=by omega
   have w1:=wrap_succ (n:=k+1) (by omega);have ph:=containsK_p want ((k+1:Nat):Int) (by omega);cases hc:want.contains ((k+1:Nat):Int) with
   |false=>
    rw[hc] at ph;simp only[go_sem,i32_l3,i32_r2,e0,e1,e6,e7,e8,hlt',s52,gP_bool ph,w1];exact hlt
   |true=>
    have hmem:((k+1:Nat):Int)∈want:=by simpa using hc
    have pc:=candZ_p (F:=F) (k:=((k+1:Nat):Int)) (beq_eq_false_iff_ne.2 (by rcases hw _ hmem with h|h|h<;>omega));rw[hc] at ph;simp only[go_sem,i32_l3,e0,e1,e8,hlt',s52,gP_bool ph,s53];refine gP_g1 pc lo1 (.inl rfl) fun cc blk1 gl hb1=> ?_
    rcases gl with ⟨e,e2⟩|⟨h,_⟩
    ·cases e2
     simp only[go_sem];refine R_unroll ?_;simp only[go_sem,i32_l1,i32_r2,e0,e1,e6,e7,e8,zz,w1];exact hlt
    ·exact absurd rfl h
  ·have:k=10:=by omega
   subst this;have hnl: ¬ (((10+1:Nat):Int)≤10):=by decide
   simp only[go_sem,i32_l3,i32_r4,e6,e7,e8,hnl];rfl
end
section
variable {F:Nat} {ls:List Let}
theorem chk_fing(h:checkR (F:Int) []=0):F≤40:=by
 unfold checkR at h;rw[if_neg (by decide)] at h;by_cases hf:(F:Int)<0∨40<(F:Int)
 ·rw[if_pos hf] at h;cases h
 ·omega
theorem some_a(h:checkR (F:Int) ls=0)(want:List Int)(hwl:want.length≤10)(hw: ∀ k∈want,kOK k): ∃ ms cs,(ms.length≤8000∧ ∀ m∈ms,okS F ls want m)∧PEv S 32 [.one (.p (brdV F ls)), .one (.p (.sl (iP want)))] (.tup [.one (grownR mvT 7 (mP ms)), .one (grownR cdT 2 cs)]):=by
 by_cases hne:ls=[]
 ·subst hne;exact⟨[],[],⟨by simp,fun m h=>by cases h⟩,someZ_p want hwl hw⟩
 ·obtain⟨G,e,g⟩:=fine_of h hne;have:F=G:=by omega
  subst this;exact some_e g (List.length_pos_iff.2 hne) want hwl hw
theorem open_a(h:checkR (F:Int) ls=0):PEv S 31 [codeV F ls] (rtup (brdV F ls) (.int .i64 0)):=by
 by_cases hne:ls=[]
 ·subst hne;exact open0 (chk_fing h)
 ·obtain⟨G,e,g⟩:=fine_of h hne;have:F=G:=by omega
  subst this;exact open_p g
theorem Some_a(h:checkR (F:Int) ls=0)(want:List Int)(hwl:want.length≤10)(hw: ∀ k∈want,kOK k): ∃ ms,(ms.length≤8000∧ ∀ m∈ms,okS F ls want m)∧PEv S 10 [codeV F ls, .one (.p (.sl (iP want)))] (.tup [.one (grownR mvT 7 (mP ms)), .one (.p (.int .i64 0))]):=by
 obtain⟨ms,cs,hm,ps⟩:=some_a h want hwl hw;have po:=open_a h;have lo:S.lone 640256128=false:=by kernel_rfl
 refine⟨ms,hm,?_⟩;refine pev1 c10 ?_;simp only[go_sem,i10,s31,gP_land po land_tup,s32];refine gP_g2 ps lo fun c d blk1 gc gd hb=> ?_
 simp only[go_sem];exact grown_out1 gc
abbrev redK:List Int:=[1,4,6]
theorem redK_ok: ∀ k∈redK,kOK k:=by
 intro k h;simp only[List.mem_cons,List.not_mem_nil,or_false] at h;exact h
abbrev redV(m:Mov)(b:Bool):RV:= .tup [.agg (m.ps.map .p), .one (.p (.bool b))]
theorem sc_mP(ms:List Mov):((mP ms).all fun e=>e.all PV.scalar)=true:=by
 rw[List.all_eq_true];intro e he;obtain⟨i,_,rfl⟩:=List.mem_map.1 he;rfl
abbrev zMov:Mov:=⟨0,0,0,0,false,false,0⟩
theorem reducing_e(h:checkR (F:Int) ls=0):(∃ m,okS F ls redK m∧PEv S 48 [codeV F ls] (redV m true))∨(PEv S 10 [codeV F ls, .one (.p (.sl (iP redK)))] (.tup [.one (grownR mvT 7 []), .one (.p (.int .i64 0))])∧PEv S 48 [codeV F ls] (redV zMov false)):=by
 obtain⟨ms,⟨_,hm⟩,ps⟩:=Some_a h redK (by decide) redK_ok;have ps':PEv S 10 [codeV F ls, .one (.p (.sl [[.int .i64 1],[.int .i64 4],[.int .i64 6]]))] (.tup [.one (grownR mvT 7 (mP ms)), .one (.p (.int .i64 0))]):=ps;have lo:S.lone 3072064128=false:=by kernel_rfl
 cases ms with
 |nil=>
  refine .inr ⟨ps,?_⟩;refine pev1 c48 ?_;simp only[go_sem,i48,s10];refine gP_g1pr ps' lo (sc_mP _) rfl fun c blk1 gc hb=> ?_
  have b2:=hb 3072000064 (by decide);simp only[go_sem] at b2;rcases gc with ⟨_,e2⟩|⟨h,_⟩
  ·cases e2
   have h00:(((0:Nat):Int)==0)=true:=by decide
   simp only[go_sem,h00,b2];rfl
  ·exact absurd rfl h
 |cons m r=>
  refine .inl ⟨m,hm m (by simp),?_⟩;refine pev1 c48 ?_;simp only[go_sem,i48,s10];refine gP_g1pr ps' lo (sc_mP _) rfl fun c blk1 gc hb=> ?_
  have b2:=hb 3072000064 (by decide);simp only[go_sem] at b2;rcases gc with ⟨h,_⟩|⟨_,gg,e2,hC⟩
  ·cases h
  ·cases e2
   have hl:(mP (m::r)).length=r.length+1:=by simp[mP]
   have h00:(((r.length+1:Nat):Int)==0)=false:=by rw[beq_eq_false_iff_ne];omega
   have hlt:0<r.length+1:=by omega
   have hat:(mP (m::r))[0]? =some m.ps:=rfl;rw[hl];generalize mP (m::r)=es at*;simp only[go_sem,h00,b2,hC,hat,hlt,Mov.ps];rfl
end
end Go.Abs
