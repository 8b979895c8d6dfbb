/-
  A part of a proof.
-/
import Derived.Test.YtjjdebhkbfeniaaGreatDoorWc
set_option linter.unusedSimpArgs false
set_option linter.unusedVariables false
set_option linter.unusedSectionVars false
set_option maxRecDepth 100000
set_option maxHeartbeats 16000000
namespace Go.Abs
section
variable{F:Nat}{ls:List Let}
theorem lettersSw{f:Int}{l:Let}{g i:Nat}{env:Env}{blk:Blk}{Q:Post}(hl:ls.length≤1000000)(h1:env 1= .one (.href 2752000000 1 0))(hB:blk 2752000000=(1,some (.var (codeC f ls))))(h3:env 3=vi i)(h4:env 4= .one (.href 2752256320 g 0))(hL:blk 2752256320=(g,some (.var (letC l))))
  (h5:env 5=vi (cnt (sameB l) ls)) (h6:env 6=vi (cnt (pairB l) ls))
  (hq:okL f ls l=true→ ∀ env',env' 1=env 1→env' 3=env 3→Q .normal env' blk) (hr:okL f ls l=false→ ∀ env',env' 2= .one (.p (.bool false))→Q .ret env' blk):
  W S .all i43_r2 Q env blk:=by
 have pin:=in_r f ls hl l.gate;have pvi:=visits_r f ls hl;have pti:=times_r f ls hl l.id;have hcv:=cnt_le Let.isC ls;have wv:=wrap_small (n:=cnt Let.isC ls/2) (by omega);cases k1:(l.kind==1) with
 |true=>
  cases a1:(l.id !=0) with
  |true=>
   have hok:okL f ls l=false:=by simp only[okL,k1,okP,a1];rfl
   simp only[go_sem,i43_r2,h1,hB,h3,h4,hL,h5,h6,s65,s41,s66,dP_int pin,dP_int pvi,dP_int pti,tdiv2,two_ne,wv,k1,a1,planAppend,szOK];refine⟨by kernel_rfl,hr hok _ ?_⟩;simp only[go_sem]
  |false=>
   cases a2:(l.sign !=0) with
   |true=>
    have hok:okL f ls l=false:=by simp only[okL,k1,okP,a1,a2];rfl
    simp only[go_sem,i43_r2,h1,hB,h3,h4,hL,h5,h6,s65,s41,s66,dP_int pin,dP_int pvi,dP_int pti,tdiv2,two_ne,wv,k1,a1,a2,planAppend,szOK];refine⟨by kernel_rfl,hr hok _ ?_⟩;simp only[go_sem]
   |false=>
    cases a3:(l.over) with
    |true=>
     have hok:okL f ls l=false:=by simp only[okL,k1,okP,a1,a2,a3];rfl
     simp only[go_sem,i43_r2,h1,hB,h3,h4,hL,h5,h6,s65,s41,s66,dP_int pin,dP_int pvi,dP_int pti,tdiv2,two_ne,wv,k1,a1,a2,a3,planAppend,szOK];refine⟨by kernel_rfl,hr hok _ ?_⟩;simp only[go_sem]
    |false=>
     cases a4:(decide (l.gate<0)) with
     |true=>
      have a4':(l.gate<0):=of_decide_eq_true a4;have hok:okL f ls l=false:=by simp only[okL,k1,okP,a1,a2,a3,a4];rfl
      simp only[go_sem,i43_r2,h1,hB,h3,h4,hL,h5,h6,s65,s41,s66,dP_int pin,dP_int pvi,dP_int pti,tdiv2,two_ne,wv,k1,a1,a2,a3,a4',planAppend,szOK];refine⟨by kernel_rfl,hr hok _ ?_⟩;simp only[go_sem]
     |false=>
      cases a5:(decide (f<l.gate)) with
      |true=>
       have a4': ¬ (l.gate<0):=of_decide_eq_false a4;have a5':(f<l.gate):=of_decide_eq_true a5;have hok:okL f ls l=false:=by simp only[okL,k1,okP,a1,a2,a3,a4,a5];rfl
       simp only[go_sem,i43_r2,h1,hB,h3,h4,hL,h5,h6,s65,s41,s66,dP_int pin,dP_int pvi,dP_int pti,tdiv2,two_ne,wv,k1,a1,a2,a3,a4',a5',planAppend,szOK];refine⟨by kernel_rfl,hr hok _ ?_⟩;simp only[go_sem]
      |false=>
       cases a6:(decide (l.rank<1)) with
       |true=>
        have a4': ¬ (l.gate<0):=of_decide_eq_false a4;have a5': ¬ (f<l.gate):=of_decide_eq_false a5;have a6':(l.rank<1):=of_decide_eq_true a6;have hok:okL f ls l=false:=by simp only[okL,k1,okP,a1,a2,a3,a4,a5,a6];rfl
        simp only[go_sem,i43_r2,h1,hB,h3,h4,hL,h5,h6,s65,s41,s66,dP_int pin,dP_int pvi,dP_int pti,tdiv2,two_ne,wv,k1,a1,a2,a3,a4',a5',a6',planAppend,szOK];refine⟨by kernel_rfl,hr hok _ ?_⟩;simp only[go_sem]
       |false=>
        cases a7:(decide ((cnt (inG l.gate) ls:Int)<l.rank)) with
        |true=>
         have a4': ¬ (l.gate<0):=of_decide_eq_false a4;have a5': ¬ (f<l.gate):=of_decide_eq_false a5;have a6': ¬ (l.rank<1):=of_decide_eq_false a6;have a7':((cnt (inG l.gate) ls:Int)<l.rank):=of_decide_eq_true a7;have hok:okL f ls l=false:=by simp only[okL,k1,okP,a1,a2,a3,a4,a5,a6,a7];rfl
         simp only[go_sem,i43_r2,h1,hB,h3,h4,hL,h5,h6,s65,s41,s66,dP_int pin,dP_int pvi,dP_int pti,tdiv2,two_ne,wv,k1,a1,a2,a3,a4',a5',a6',a7',planAppend,szOK];refine⟨by kernel_rfl,hr hok _ ?_⟩;simp only[go_sem]
        |false=>
         cases a8:(((cnt (sameB l) ls:Nat):Int)!=1) with
         |true=>
          have a4': ¬ (l.gate<0):=of_decide_eq_false a4;have a5': ¬ (f<l.gate):=of_decide_eq_false a5;have a6': ¬ (l.rank<1):=of_decide_eq_false a6;have a7': ¬ ((cnt (inG l.gate) ls:Int)<l.rank):=of_decide_eq_false a7;have hok:okL f ls l=false:=by simp only[okL,k1,okP,a1,a2,a3,a4,a5,a6,a7,a8];rfl
          simp only[go_sem,i43_r2,h1,hB,h3,h4,hL,h5,h6,s65,s41,s66,dP_int pin,dP_int pvi,dP_int pti,tdiv2,two_ne,wv,k1,a1,a2,a3,a4',a5',a6',a7',a8,planAppend,szOK];refine⟨by kernel_rfl,hr hok _ ?_⟩;simp only[go_sem]
         |false=>
          have a4': ¬ (l.gate<0):=of_decide_eq_false a4;have a5': ¬ (f<l.gate):=of_decide_eq_false a5;have a6': ¬ (l.rank<1):=of_decide_eq_false a6;have a7': ¬ ((cnt (inG l.gate) ls:Int)<l.rank):=of_decide_eq_false a7;have hok:okL f ls l=true:=by simp only[okL,k1,okP,a1,a2,a3,a4,a5,a6,a7,a8];rfl
          simp only[go_sem,i43_r2,h1,hB,h3,h4,hL,h5,h6,s65,s41,s66,dP_int pin,dP_int pvi,dP_int pti,tdiv2,two_ne,wv,k1,a1,a2,a3,a4',a5',a6',a7',a8,planAppend,szOK];refine⟨by kernel_rfl,hq hok _ ?_ ?_⟩;all_goals simp only[go_sem]
 |false=>
  cases k2:(l.kind==2) with
  |true=>
   cases a1:(l.gate !=0) with
   |true=>
    have hok:okL f ls l=false:=by simp only[okL,k1,k2,okC,a1];rfl
    simp only[go_sem,i43_r2,h1,hB,h3,h4,hL,h5,h6,s65,s41,s66,dP_int pin,dP_int pvi,dP_int pti,tdiv2,two_ne,wv,k1,k2,a1,planAppend,szOK];refine⟨by kernel_rfl,hr hok _ ?_⟩;simp only[go_sem]
   |false=>
    cases a2:(l.rank !=0) with
    |true=>
     have hok:okL f ls l=false:=by simp only[okL,k1,k2,okC,a1,a2];rfl
     simp only[go_sem,i43_r2,h1,hB,h3,h4,hL,h5,h6,s65,s41,s66,dP_int pin,dP_int pvi,dP_int pti,tdiv2,two_ne,wv,k1,k2,a1,a2,planAppend,szOK];refine⟨by kernel_rfl,hr hok _ ?_⟩;simp only[go_sem]
    |false=>
     cases a3:(l.sign !=1) with
     |true=>
      cases a4:(l.sign != -1) with
      |true=>
       have hok:okL f ls l=false:=by simp only[okL,k1,k2,okC,a1,a2,a3,a4];rfl
       simp only[go_sem,i43_r2,h1,hB,h3,h4,hL,h5,h6,s65,s41,s66,dP_int pin,dP_int pvi,dP_int pti,tdiv2,two_ne,wv,k1,k2,a1,a2,a3,a4,planAppend,szOK];refine⟨by kernel_rfl,hr hok _ ?_⟩;simp only[go_sem]
      |false=>
       cases a5:(decide (l.id<1)) with
       |true=>
        have a5':(l.id<1):=of_decide_eq_true a5;have hok:okL f ls l=false:=by simp only[okL,k1,k2,okC,a1,a2,a3,a4,a5];rfl
        simp only[go_sem,i43_r2,h1,hB,h3,h4,hL,h5,h6,s65,s41,s66,dP_int pin,dP_int pvi,dP_int pti,tdiv2,two_ne,wv,k1,k2,a1,a2,a3,a4,a5',planAppend,szOK];refine⟨by kernel_rfl,hr hok _ ?_⟩;simp only[go_sem]
       |false=>
        cases a6:(decide (((cnt Let.isC ls/2:Nat):Int)<l.id)) with
        |true=>
         have a5': ¬ (l.id<1):=of_decide_eq_false a5;have a6':(((cnt Let.isC ls/2:Nat):Int)<l.id):=of_decide_eq_true a6;have hok:okL f ls l=false:=by simp only[okL,k1,k2,okC,a1,a2,a3,a4,a5,a6];rfl
         simp only[go_sem,i43_r2,h1,hB,h3,h4,hL,h5,h6,s65,s41,s66,dP_int pin,dP_int pvi,dP_int pti,tdiv2,two_ne,wv,k1,k2,a1,a2,a3,a4,a5',a6',planAppend,szOK];refine⟨by kernel_rfl,hr hok _ ?_⟩;simp only[go_sem]
        |false=>
         cases a7:(((cnt (pairB l) ls:Nat):Int)!=1) with
         |true=>
          have a5': ¬ (l.id<1):=of_decide_eq_false a5;have a6': ¬ (((cnt Let.isC ls/2:Nat):Int)<l.id):=of_decide_eq_false a6;have hok:okL f ls l=false:=by simp only[okL,k1,k2,okC,a1,a2,a3,a4,a5,a6,a7];rfl
          simp only[go_sem,i43_r2,h1,hB,h3,h4,hL,h5,h6,s65,s41,s66,dP_int pin,dP_int pvi,dP_int pti,tdiv2,two_ne,wv,k1,k2,a1,a2,a3,a4,a5',a6',a7,planAppend,szOK];refine⟨by kernel_rfl,hr hok _ ?_⟩;simp only[go_sem]
         |false=>
          cases a8:(((cnt (isId l.id) ls:Nat):Int)!=2) with
          |true=>
           have a5': ¬ (l.id<1):=of_decide_eq_false a5;have a6': ¬ (((cnt Let.isC ls/2:Nat):Int)<l.id):=of_decide_eq_false a6;have hok:okL f ls l=false:=by simp only[okL,k1,k2,okC,a1,a2,a3,a4,a5,a6,a7,a8];rfl
           simp only[go_sem,i43_r2,h1,hB,h3,h4,hL,h5,h6,s65,s41,s66,dP_int pin,dP_int pvi,dP_int pti,tdiv2,two_ne,wv,k1,k2,a1,a2,a3,a4,a5',a6',a7,a8,planAppend,szOK];refine⟨by kernel_rfl,hr hok _ ?_⟩;simp only[go_sem]
          |false=>
           have a5': ¬ (l.id<1):=of_decide_eq_false a5;have a6': ¬ (((cnt Let.isC ls/2:Nat):Int)<l.id):=of_decide_eq_false a6;have hok:okL f ls l=true:=by simp only[okL,k1,k2,okC,a1,a2,a3,a4,a5,a6,a7,a8];rfl
           simp only[go_sem,i43_r2,h1,hB,h3,h4,hL,h5,h6,s65,s41,s66,dP_int pin,dP_int pvi,dP_int pti,tdiv2,two_ne,wv,k1,k2,a1,a2,a3,a4,a5',a6',a7,a8,planAppend,szOK];refine⟨by kernel_rfl,hq hok _ ?_ ?_⟩;all_goals simp only[go_sem]
     |false=>
      cases a5:(decide (l.id<1)) with
      |true=>
       have a5':(l.id<1):=of_decide_eq_true a5;have hok:okL f ls l=false:=by simp only[okL,k1,k2,okC,a1,a2,a3,a5];rfl
       simp only[go_sem,i43_r2,h1,hB,h3,h4,hL,h5,h6,s65,s41,s66,dP_int pin,dP_int pvi,dP_int pti,tdiv2,two_ne,wv,k1,k2,a1,a2,a3,a5',planAppend,szOK];refine⟨by kernel_rfl,hr hok _ ?_⟩;simp only[go_sem]
      |false=>
       cases a6:(decide (((cnt Let.isC ls/2:Nat):Int)<l.id)) with
       |true=>
        have a5': ¬ (l.id<1):=of_decide_eq_false a5;have a6':(((cnt Let.isC ls/2:Nat):Int)<l.id):=of_decide_eq_true a6;have hok:okL f ls l=false:=by simp only[okL,k1,k2,okC,a1,a2,a3,a5,a6];rfl
        simp only[go_sem,i43_r2,h1,hB,h3,h4,hL,h5,h6,s65,s41,s66,dP_int pin,dP_int pvi,dP_int pti,tdiv2,two_ne,wv,k1,k2,a1,a2,a3,a5',a6',planAppend,szOK];refine⟨by kernel_rfl,hr hok _ ?_⟩;simp only[go_sem]
       |false=>
        cases a7:(((cnt (pairB l) ls:Nat):Int)!=1) with
        |true=>
         have a5': ¬ (l.id<1):=of_decide_eq_false a5;have a6': ¬ (((cnt Let.isC ls/2:Nat):Int)<l.id):=of_decide_eq_false a6;have hok:okL f ls l=false:=by simp only[okL,k1,k2,okC,a1,a2,a3,a5,a6,a7];rfl
         simp only[go_sem,i43_r2,h1,hB,h3,h4,hL,h5,h6,s65,s41,s66,dP_int pin,dP_int pvi,dP_int pti,tdiv2,two_ne,wv,k1,k2,a1,a2,a3,a5',a6',a7,planAppend,szOK];refine⟨by kernel_rfl,hr hok _ ?_⟩;simp only[go_sem]
        |false=>
         cases a8:(((cnt (isId l.id) ls:Nat):Int)!=2) with
         |true=>
          have a5': ¬ (l.id<1):=of_decide_eq_false a5;have a6': ¬ (((cnt Let.isC ls/2:Nat):Int)<l.id):=of_decide_eq_false a6;have hok:okL f ls l=false:=by simp only[okL,k1,k2,okC,a1,a2,a3,a5,a6,a7,a8];rfl
          simp only[go_sem,i43_r2,h1,hB,h3,h4,hL,h5,h6,s65,s41,s66,dP_int pin,dP_int pvi,dP_int pti,tdiv2,two_ne,wv,k1,k2,a1,a2,a3,a5',a6',a7,a8,planAppend,szOK];refine⟨by kernel_rfl,hr hok _ ?_⟩;simp only[go_sem]
         |false=>
          have a5': ¬ (l.id<1):=of_decide_eq_false a5;have a6': ¬ (((cnt Let.isC ls/2:Nat):Int)<l.id):=of_decide_eq_false a6;have hok:okL f ls l=true:=by simp only[okL,k1,k2,okC,a1,a2,a3,a5,a6,a7,a8];rfl
          simp only[go_sem,i43_r2,h1,hB,h3,h4,hL,h5,h6,s65,s41,s66,dP_int pin,dP_int pvi,dP_int pti,tdiv2,two_ne,wv,k1,k2,a1,a2,a3,a5',a6',a7,a8,planAppend,szOK];refine⟨by kernel_rfl,hq hok _ ?_ ?_⟩;all_goals simp only[go_sem]
  |false=>
   have hok:okL f ls l=false:=by simp only[okL,k1,k2];rfl
   simp only[go_sem,i43_r2,h4,hL,k1,k2,planAppend,szOK];refine hr hok _ ?_;simp only[go_sem]
def lettersR(f:Int)(ls:List Let):Bool:=ls.all (okL f ls)
theorem letters_r(f:Int)(ls:List Let)(hl:ls.length≤1000000):PEv S 43 [codeV f ls] (rb (lettersR f ls)):=by
 refine pev1 c43 ?_;simp only[go_sem,i43,planAppend,szOK];refine R_for (fun k env blk=>env 1= .one (.href 2752000000 1 0)∧blk 2752000000=(1,some (.var (codeC f ls)))∧env 3=vi k∧ ∀ j l,j<k→ls[j]? =some l→okL f ls l=true) 0 ls.length (Nat.zero_le _) ?_ ?_
 ·simp only[go_sem];exact⟨rfl,fun j l h=>absurd h (Nat.not_lt_zero j)⟩
 ·rintro k env blk hk ⟨h1,hB,h3,hok⟩
  by_cases hlt:k<ls.length
  ·obtain⟨l,ho⟩:=at_lt hlt;have hi:=ps_of ho;have hlt':((k:Int)<(ls.length:Int)):=by omega
   have w1:=wrap_succ (n:=k) (by omega);simp only[go_sem,i43_l4,h1,hB,h3,hi,ps_len,Let.ps,hlt',planAppend,szOK];refine lettersIn (f:=f) (l:=l) (g:=(blk 2752256320).1+1) (i:=k) hl ?_ ?_ ?_ ?_ ?_ ?_ ?_ ?_ ?_
   ·simp only[go_sem,h1]
   ·simp only[go_sem,hB]
   ·simp only[go_sem,h3]
   ·simp only[go_sem]
   ·simp only[go_sem]
   ·simp only[go_sem]
   ·simp only[go_sem]
   ·simp only[go_sem]
   ·intro env' blk' q1 q3 q4 b1 b2 q5 q6;simp only[go_sem,h1,h3] at q1 q3 q4;simp only[go_sem,hB] at b1 b2;simp only[go_sem];refine lettersSw (f:=f) (l:=l) (i:=k) hl q1 b1 q3 q4 b2 q5 q6 ?_ ?_
    ·intro hgood env2 e1 e3;rw[q1] at e1;rw[q3] at e3;simp only[go_sem,i43_r3,e1,b1,e3,w1,planAppend,szOK];refine⟨hlt,fun j l' hj hl'=> ?_⟩;rcases Nat.lt_succ_iff_lt_or_eq.1 hj with hj|rfl
     ·exact hok j l' hj hl'
     ·rw[ho] at hl';cases hl';exact hgood
    ·intro hbad env2 e2;have hf:lettersR f ls=false:=by
      unfold lettersR;rw[List.all_eq_false];exact⟨l,List.mem_of_getElem? ho,by simp[hbad]⟩
     simp only[go_sem,e2,hf,planAppend,szOK]
  ·have:k=ls.length:=by omega
   subst this;have hf:lettersR f ls=true:=by
    unfold lettersR;rw[List.all_eq_true];intro x hx;obtain⟨j,hj,rfl⟩:=List.getElem_of_mem hx;exact hok j _ hj (by simp)
   simp only[go_sem,i43_l4,i43_r5,h1,hB,h3,no_more,hf,planAppend,szOK]
theorem insA_mem{o:List Nat}{i x:Nat}:x∈insA ls o i↔x∈o∨x=i:=by
 unfold insA;generalize (o.takeWhile (leftAt ls i)).length=K;constructor
 ·intro h;rcases List.mem_append.1 h with h|h
  ·exact .inl (List.mem_of_mem_take h)
  ·rcases List.mem_cons.1 h with h|h
   ·exact .inr h
   ·exact .inl (List.mem_of_mem_drop h)
 ·rintro (h|rfl)
  ·rw[← List.take_append_drop K o] at h;rcases List.mem_append.1 h with h|h
   ·exact List.mem_append.2 (.inl h)
   ·exact List.mem_append.2 (.inr (List.mem_cons.2 (.inr h)))
  ·simp
theorem axisK_mem: ∀ {k x:Nat},k≤ls.length→(x∈axisK ls k↔x<k∧ ∃ l,ls[x]? =some l∧l.isP=true):=by
 intro k
 induction k with
 |zero=>intro x _;simp[axisK]
 |succ k ih=>
  intro x hk;rw[axisK_succ];obtain⟨l,hl⟩:=at_lt (ls:=ls) (k:=k) (by omega);have ih:=ih (x:=x) (by omega);unfold axStep;rw[hl];simp only;by_cases hp:l.isP=true
  ·rw[if_pos hp,insA_mem,ih];constructor
   ·rintro (⟨h1,h2⟩|rfl)
    ·exact⟨by omega,h2⟩
    ·exact⟨by omega,l,hl,hp⟩
   ·rintro ⟨h1,h2⟩
    rcases Nat.lt_succ_iff_lt_or_eq.1 h1 with h|rfl
    ·exact .inl ⟨h,h2⟩
    ·exact .inr rfl
  ·rw[if_neg hp,ih];constructor
   ·rintro ⟨h1,h2⟩;exact⟨by omega,h2⟩
   ·rintro ⟨h1,m,hm,hm2⟩
    rcases Nat.lt_succ_iff_lt_or_eq.1 h1 with h|rfl
    ·exact⟨h,m,hm,hm2⟩
    ·rw[hl] at hm;cases hm;exact(hp hm2).elim
theorem axisR_mem{x:Nat}:x∈axisR ls↔ ∃ l,ls[x]? =some l∧l.isP=true:=by
 have:=axisK_mem (ls:=ls) (k:=ls.length) (x:=x) (Nat.le_refl _);have e:axisR ls=axisK ls ls.length:=rfl;rw[e,this];constructor
 ·rintro ⟨_,h⟩;exact h
 ·rintro ⟨l,h,h2⟩;exact⟨(List.getElem?_eq_some_iff.1 h).1,l,h,h2⟩
theorem letters_kind{f:Int}(h:lettersR f ls=true){v:Nat}{l:Let}(hv:ls[v]? =some l):l.isP=true∨l.isC=true:=by
 have:=(List.all_eq_true.1 h) l (List.mem_of_getElem? hv);unfold okL at this;unfold Let.isP Let.isC;cases h1:(l.kind==1) with
 |true=>exact .inl rfl
 |false=>
  cases h2:(l.kind==2) with
  |true=>exact .inr rfl
  |false=>rw[h1,h2] at this;simp at this
def nWalks(ls:List Let):Nat:=(walksL (turnD ls (axisR ls)) (2*ls.length+2*(axisR ls).length)).length
def validR(f:Int)(ls:List Let):Bool:=(match ls[0]? with|some l=>l.kind==1|none=>true)&&(cnt Let.isP ls%2==0)&&lettersR f ls&&(nWalks ls==cnt Let.isP ls+cnt Let.isC ls/2+2)
def checkR(f:Int)(ls:List Let):Int:=if 400<ls.length∨200<cnt Let.isC ls then 7 else if f<0∨40<f then 2 else if ls=[] then 0 else if validR f ls then 0 else 3
theorem check_r(f:Int)(ls:List Let)(hl:ls.length≤1000000):PEv S 20 [codeV f ls] (ri (checkR f ls)):=by
 have pvi:=visits_r f ls hl;have ppa:=passes_r f ls hl;have ple:=letters_r f ls hl;have pcr:=crossings_r f ls hl;have hci:=cnt_le Let.isC ls;have hpi:=cnt_le Let.isP ls;refine pev1 c20 ?_;unfold checkR;by_cases h1:400<ls.length
 ·have h1':(400:Int)<(ls.length:Int):=by omega
  simp only[go_sem,i20,h1,h1']
 have h1': ¬ (400:Int)<(ls.length:Int):=by omega
 by_cases h2:200<cnt Let.isC ls
 ·have h2':(200:Int)<(cnt Let.isC ls:Int):=by omega
  simp only[go_sem,i20,h1,h1',h2,h2',s41,gP_int pvi]
 have h2': ¬ (200:Int)<(cnt Let.isC ls:Int):=by omega
 by_cases h3:f<0
 ·simp only[go_sem,i20,h1,h1',h2,h2',h3,s41,gP_int pvi]
 by_cases h4:40<f
 ·simp only[go_sem,i20,h1,h1',h2,h2',h3,h4,s41,gP_int pvi]
 have hor1: ¬ (400<ls.length∨200<cnt Let.isC ls):=by omega
 have hor2: ¬ (f<0∨40<f):=by omega
 rw[if_neg hor1,if_neg hor2];by_cases he:ls=[]
 ·subst he;have hz:(((0:Nat):Int)==0)=true:=by decide
  have hz3: ¬ ((400:Int)<((0:Nat):Int)):=by decide
  have pvi0:PEv S 41 [.agg [.p (.int .i64 f), .p (.sl [])]] (ri (cnt Let.isC [])):=pvi;simp only[go_sem,i20,hz3,h2',h3,h4,s41,gP_int pvi0,hz]
 ·have hlen:0<ls.length:=List.length_pos_iff.2 he;obtain⟨l0,h0⟩:=at_lt hlen;have hi0:=ps_of h0;have hnz:(((ls.length:Nat):Int)==0)=false:=by simp;omega
  rw[if_neg he];generalize hr:(if validR f ls=true then (0:Int) else 3)=r;cases c1:(l0.kind==1) with
  |false=>
   have c1':(l0.kind !=1)=true:=by simp[bne,c1]
   have hv:validR f ls=false:=by simp only[validR,h0,c1];rfl
   rw[hv] at hr;have hr:(3:Int)=r:=hr;subst hr;simp only[go_sem,i20,h1',h2',h3,h4,s41,gP_int pvi,hnz,s42,gP_int ppa,hi0,Let.ps,c1'];exact okd
  |true=>
   have c1':(l0.kind !=1)=false:=by simp[bne,c1]
   cases c2:(cnt Let.isP ls%2==0) with
   |false=>
    have c2':(((cnt Let.isP ls%2:Nat):Int)!=0)=true:=by simp at c2 ⊢;omega
    have hv:validR f ls=false:=by simp only[validR,h0,c1,c2];rfl
    rw[hv] at hr;have hr:(3:Int)=r:=hr;subst hr;simp only[go_sem,i20,h1',h2',h3,h4,s41,gP_int pvi,hnz,s42,gP_int ppa,hi0,Let.ps,c1',tmod2,two_ne,c2'];exact okd
   |true=>
    have c2':(((cnt Let.isP ls%2:Nat):Int)!=0)=false:=by simp at c2 ⊢;omega
    cases c3:lettersR f ls with
    |false=>
     rw[c3] at ple;have hv:validR f ls=false:=by simp only[validR,h0,c1,c2,c3];rfl
     rw[hv] at hr;have hr:(3:Int)=r:=hr;subst hr;simp only[go_sem,i20,h1',h2',h3,h4,s41,gP_int pvi,hnz,s42,gP_int ppa,hi0,Let.ps,c1',tmod2,two_ne,c2',s43,dP_bool ple];exact okd
    |true=>
     rw[c3] at ple;have hne:axisR ls≠[]:=fun e=>by
      have:(0:Nat)∈axisR ls:=axisR_mem.2 ⟨l0,h0,c1⟩;rw[e] at this;cases this
     have hp: ∀ v l,ls[v]? =some l→(l.kind==2)=false→v∈axisR ls:=fun v l hv h2=>by
      rcases letters_kind c3 hv with h|h
      ·exact axisR_mem.2 ⟨l,hv,h⟩
      ·unfold Let.isC at h;rw[h2] at h;cases h
     have pw:=walks_r f ls hl hne hp;have hnw:nWalks ls=(walksL (turnD ls (axisR ls)) (2*ls.length+2*(axisR ls).length)).length:=rfl;have hwl:=walksK_olen (turnD ls (axisR ls)) (2*ls.length+2*(axisR ls).length) (2*ls.length+2*(axisR ls).length);generalize hW:walksL (turnD ls (axisR ls)) (2*ls.length+2*(axisR ls).length)=ws at pw hwl hnw;have a1:=wrap_add (a:=cnt Let.isP ls) (b:=cnt Let.isC ls/2) (by omega);have a2:IntKind.i64.wrap (((cnt Let.isP ls+cnt Let.isC ls/2:Nat):Int)+2)=((cnt Let.isP ls+cnt Let.isC ls/2+2:Nat):Int):=wrap_add (a:=cnt Let.isP ls+cnt Let.isC ls/2) (b:=2) (by omega)
     have hlo:S.lone 1280513152=false:=by kernel_rfl
     have hl1: ∀ (blk:Blk),land blk [] 1280513152 ((RV.one (.own 102 1 (ws.map fun w=>[natsP w]))).pureIf (S.lone 1280513152))=some (.one (.hsl 1280513152 ((blk 1280513152).1+1) 1 0 ws.length),[(1280513152,((blk 1280513152).1+1,some (.arr 102 1 (ws.map fun w=>[natsP w]))))]):=by
      intro blk;rw[hlo];simp only[RV.pureIf,land,true_or,if_true,inV,flatR,flatR1,inCs,inC,reshV,reshV1,List.length_map,List.append_nil]
     cases c4:(ws.length==cnt Let.isP ls+cnt Let.isC ls/2+2) with
     |false=>
      have c4':(((ws.length:Nat):Int)!=((cnt Let.isP ls+cnt Let.isC ls/2+2:Nat):Int))=true:=by simp at c4 ⊢;omega
      have hv:validR f ls=false:=by simp only[validR,h0,c1,c2,c3,hnw,c4];rfl
      rw[hv] at hr;have hr:(3:Int)=r:=hr;subst hr;simp only[go_sem,i20,h1',h2',h3,h4,s41,gP_int pvi,hnz,s42,gP_int ppa,hi0,Let.ps,c1',tmod2,two_ne,c2',s43,dP_bool ple,s44,dP_land pw (hl1 _),s45,dP_int pcr,a1,a2,c4'];exact okd
     |true=>
      have c4':(((ws.length:Nat):Int)!=((cnt Let.isP ls+cnt Let.isC ls/2+2:Nat):Int))=false:=by simp at c4 ⊢;omega
      have hv:validR f ls=true:=by simp only[validR,h0,c1,c2,c3,hnw,c4];rfl
      rw[hv] at hr;have hr:(0:Int)=r:=hr;subst hr;simp only[go_sem,i20,h1',h2',h3,h4,s41,gP_int pvi,hnz,s42,gP_int ppa,hi0,Let.ps,c1',tmod2,two_ne,c2',s43,dP_bool ple,s44,dP_land pw (hl1 _),s45,dP_int pcr,a1,a2,c4'];exact okd
def badL(f:Int)(l:Let):Bool:=if l.kind==1 then (((decide (l.gate<0)||decide (f<l.gate))||l.id !=0)||l.sign !=0)||l.over else if l.kind==2 then (l.gate !=0||l.rank !=0)||(l.sign !=1&&l.sign != -1) else true
theorem badL_p(f:Int)(l:Let)(x1 x2 x3 x4 x5 x6:PV):PEv S 124 [letV l, .one (.p (.box [.box [.int .i64 f,x1,x2,x3,x4,x5,x6]]))] (rb (badL f l)):=by
 refine pev1 c124 ?_;cases k1:(l.kind==1) with
 |true=>
  cases a1:(decide (l.gate<0)) with
  |true=>
   have a1':(l.gate<0):=of_decide_eq_true a1;have hb:badL f l=true:=by simp only[badL,k1,a1];rfl
   simp only[go_sem,i124,k1,a1',hb];exact okd
  |false=>
   cases a2:(decide (f<l.gate)) with
   |true=>
    have a1': ¬ (l.gate<0):=of_decide_eq_false a1;have a2':(f<l.gate):=of_decide_eq_true a2;have hb:badL f l=true:=by simp only[badL,k1,a1,a2];rfl
    simp only[go_sem,i124,k1,a1',a2',hb];exact okd
   |false=>
    cases a3:(l.id !=0) with
    |true=>
     have a1': ¬ (l.gate<0):=of_decide_eq_false a1;have a2': ¬ (f<l.gate):=of_decide_eq_false a2;have hb:badL f l=true:=by simp only[badL,k1,a1,a2,a3];rfl
     simp only[go_sem,i124,k1,a1',a2',a3,hb];exact okd
    |false=>
     cases a4:(l.sign !=0) with
     |true=>
      have a1': ¬ (l.gate<0):=of_decide_eq_false a1;have a2': ¬ (f<l.gate):=of_decide_eq_false a2;have hb:badL f l=true:=by simp only[badL,k1,a1,a2,a3,a4];rfl
      simp only[go_sem,i124,k1,a1',a2',a3,a4,hb];exact okd
     |false=>
      cases a5:(l.over) with
      |true=>
       have a1': ¬ (l.gate<0):=of_decide_eq_false a1;have a2': ¬ (f<l.gate):=of_decide_eq_false a2;have hb:badL f l=true:=by simp only[badL,k1,a1,a2,a3,a4,a5];rfl
       simp only[go_sem,i124,k1,a1',a2',a3,a4,a5,hb];exact okd
      |false=>
       have a1': ¬ (l.gate<0):=of_decide_eq_false a1;have a2': ¬ (f<l.gate):=of_decide_eq_false a2;have hb:badL f l=false:=by simp only[badL,k1,a1,a2,a3,a4,a5];rfl
       simp only[go_sem,i124,k1,a1',a2',a3,a4,a5,hb];exact okd
 |false=>
  cases k2:(l.kind==2) with
  |true=>
   cases a1:(l.gate !=0) with
   |true=>
    have hb:badL f l=true:=by simp only[badL,k1,k2,a1];rfl
    simp only[go_sem,i124,k1,k2,a1,hb]
   |false=>
    cases a2:(l.rank !=0) with
    |true=>
     have hb:badL f l=true:=by simp only[badL,k1,k2,a1,a2];rfl
     simp only[go_sem,i124,k1,k2,a1,a2,hb]
    |false=>
     cases a3:(l.sign !=1) with
     |true=>
      cases a4:(l.sign != -1) with
      |true=>
       have hb:badL f l=true:=by simp only[badL,k1,k2,a1,a2,a3,a4];rfl
       simp only[go_sem,i124,k1,k2,a1,a2,a3,a4,hb]
      |false=>
       have hb:badL f l=false:=by simp only[badL,k1,k2,a1,a2,a3,a4];rfl
       simp only[go_sem,i124,k1,k2,a1,a2,a3,a4,hb]
     |false=>
      have hb:badL f l=false:=by simp only[badL,k1,k2,a1,a2,a3];rfl
      simp only[go_sem,i124,k1,k2,a1,a2,a3,hb]
  |false=>
   have hb:badL f l=true:=by simp only[badL,k1,k2];rfl
   simp only[go_sem,i124,k1,k2,hb]
abbrev dfn(f:Int)(x1 x2 x3 x4 x5 x6:PV):PV:= .fn 124 [] [.box [.box [.int .i64 f,x1,x2,x3,x4,x5,x6]]]
theorem bad_index(f:Int)(ls:List Let)(x1 x2 x3 x4 x5 x6:PV)(hl:ls.length≤1000000)(hn:x1.norm=x1∧x2.norm=x2∧x3.norm=x3∧x4.norm=x4∧x5.norm=x5∧x6.norm=x6):
  ∃ k:Int,(0≤k↔ls.any (badL f)=true)∧PEv S 157 [.one (.p (lsP ls)), .one (.p (dfn f x1 x2 x3 x4 x5 x6))] (ri k):=by
 have main: ∀ r:Int,(∀ (k:Nat) l,ls[k]? =some l→badL f l=true→(∀ (j:Nat) m,j<k→ls[j]? =some m→badL f m=false)→r=k)→((∀ (j:Nat) m,ls[j]? =some m→badL f m=false)→r= -1)→
   PEv S 157 [.one (.p (lsP ls)), .one (.p (dfn f x1 x2 x3 x4 x5 x6))] (ri r):=by
  intro r hr1 hr2;refine pev1 c157 ?_;simp only[go_sem,i157];refine R_for (fun k env blk=>env 0= .one (.p (lsP ls))∧env 1= .one (.p (dfn f x1 x2 x3 x4 x5 x6))∧env 7=vi ls.length∧env 8=vi k∧ ∀ j m,j<k→ls[j]? =some m→badL f m=false) 0 ls.length (Nat.zero_le _) ?_ ?_
  ·simp only[go_sem];exact⟨rfl,fun j m h=>absurd h (Nat.not_lt_zero j)⟩
  ·rintro k env blk hk ⟨h0,h1,h7,h8,hn⟩
   by_cases hlt:k<ls.length
   ·obtain⟨l,hkl⟩:=at_lt hlt;have hi:=ps_of hkl;have hlt':((k:Int)<(ls.length:Int)):=by omega
    have w1:=wrap_succ (n:=k) (by omega);have pb:=badL_p f l x1 x2 x3 x4 x5 x6;cases hb:badL f l with
    |true=>
     rw[hb] at pb;have hr:=hr1 k l hkl hb hn;subst hr;simp only[go_sem,i157_l1,h0,h1,h7,h8,hi,Let.ps,hlt',s124,gP_bool pb]
    |false=>
     rw[hb] at pb;simp only[go_sem,i157_l1,h0,h1,h7,h8,hi,Let.ps,hlt',w1,s124,gP_bool pb];refine⟨hlt,fun j m hj hm=> ?_⟩;rcases Nat.lt_succ_iff_lt_or_eq.1 hj with hj|rfl
     ·exact hn j m hj hm
     ·rw[hkl] at hm;cases hm;exact hb
   ·have:k=ls.length:=by omega
    subst this;have hr:=hr2 fun j m hm=>hn j m (List.getElem?_eq_some_iff.1 hm).1 hm
    subst hr;simp only[go_sem,i157_l1,i157_r2,h7,h8,no_more]
 cases ha:ls.any (badL f) with
 |true=>
  have hx:ls.findIdx (badL f)<ls.length:=List.findIdx_lt_length_of_exists (by simpa using ha);refine⟨(ls.findIdx (badL f):Nat),⟨fun _=>rfl,fun _=>by omega⟩,main _ ?_ ?_⟩
  ·intro k l hkl hb hn;have hk:=(List.getElem?_eq_some_iff.1 hkl).1;have h1:badL f ls[ls.findIdx (badL f)]=true:=List.findIdx_getElem;rcases Nat.lt_trichotomy (ls.findIdx (badL f)) k with h|h|h
   ·have:=hn _ _ h (List.getElem?_eq_getElem hx);rw[h1] at this;cases this
   ·rw[h]
   ·have:=List.not_of_lt_findIdx h;have e:ls[k]=l:=by rw[List.getElem?_eq_getElem hk] at hkl;exact Option.some.inj hkl
    rw[e,hb] at this;simp at this
  ·intro hn;have h1:badL f ls[ls.findIdx (badL f)]=true:=List.findIdx_getElem;have:=hn _ _ (List.getElem?_eq_getElem hx);rw[h1] at this;cases this
 |false=>
  refine⟨-1,⟨fun h=>by omega,fun h=>by cases h⟩,main _ ?_ (fun _=>rfl)⟩;intro k l hkl hb _;have:=List.any_eq_false.1 ha l (List.mem_of_getElem? hkl);exact(this hb).elim
theorem contains_p(f:Int)(ls:List Let)(x1 x2 x3 x4 x5 x6:PV)(hl:ls.length≤1000000)(hn:x1.norm=x1∧x2.norm=x2∧x3.norm=x3∧x4.norm=x4∧x5.norm=x5∧x6.norm=x6):
  PEv S 123 [.one (.p (lsP ls)), .one (.p (dfn f x1 x2 x3 x4 x5 x6))] (rb (ls.any (badL f))):=by
 obtain⟨k,hk,pk⟩:=bad_index f ls x1 x2 x3 x4 x5 x6 hl hn;refine pev1 c123 ?_;cases ha:ls.any (badL f) with
 |true=>
  have h0:=hk.2 ha;simp only[go_sem,i123,s157,gP_int pk,h0]
 |false=>
  have h0: ¬ 0≤k:=fun h=>by rw[hk.1 h] at ha;cases ha
  simp only[go_sem,i123,s157,gP_int pk,h0]
abbrev dgP(f:Int)(ls:List Let)(x2 x3 x4 x5 x6:PV):PV:= .box [.int .i64 f,lsP ls,x2,x3,x4,x5,x6]
theorem dletters_p(f:Int)(ls:List Let)(x2 x3 x4 x5 x6:PV)(hl:ls.length≤1000000)(hn:x2.norm=x2∧x3.norm=x3∧x4.norm=x4∧x5.norm=x5∧x6.norm=x6):
  PEv S 87 [.one (.p (dgP f ls x2 x3 x4 x5 x6))] (rb (!ls.any (badL f))):=by
 have pc:=contains_p f ls (lsP ls) x2 x3 x4 x5 x6 hl ⟨rfl,hn.1,hn.2.1,hn.2.2.1,hn.2.2.2.1,hn.2.2.2.2⟩;refine pev1 c87 ?_;simp only[go_sem,i87,s123,gP_bool pc]
theorem dbegins_p(f:Int)(ls:List Let)(l0:Let)(x2 x3 x4 x5 x6:PV)(hl:ls.length≤1000000)(h0:ls[0]? =some l0):
  PEv S 88 [.one (.p (dgP f ls x2 x3 x4 x5 x6))] (rb (l0.kind==1&&cnt Let.isP ls%2==0)):=by
 have pp:=passes_p f ls hl;have hi0:=ps_of h0;refine pev1 c88 ?_;have e2:((((cnt Let.isP ls)%2:Nat):Int)==0)=(cnt Let.isP ls%2==0):=by
  cases h:(cnt Let.isP ls%2==0) with
  |true=>simp at h ⊢;omega
  |false=>simp at h ⊢;omega
 cases hk:(l0.kind==1) with
 |true=>simp only[go_sem,i88,hi0,Let.ps,hk,s12,gP_int pp,tmod2,two_ne,e2]
 |false=>simp only[go_sem,i88,hi0,Let.ps,hk]
end
end Go.Abs
