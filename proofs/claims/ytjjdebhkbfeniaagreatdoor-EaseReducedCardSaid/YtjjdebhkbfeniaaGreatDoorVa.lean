/-
  A part of a proof.
-/
import Derived.Test.YtjjdebhkbfeniaaGreatDoorWz
set_option linter.unusedSimpArgs false
set_option linter.unusedVariables false
set_option linter.unusedSectionVars false
set_option maxRecDepth 100000
set_option maxHeartbeats 16000000
namespace Go.Abs
attribute [local go_sem ↓] fm1 fm2
section
variable {F:Nat} {ls:List Let} {a b c:Int} {l o:Bool} {sg:Int}
theorem argk6_p:PEv S 75 [.one (.p (brdV F ls)),mvV 6 a b c l o sg] (rb (argB F ls 6 a b c l o sg)):=by
 obtain⟨v,hv⟩: ∃ v,argB F ls 6 a b c l o sg=v:=⟨_,rfl⟩;rw[hv];refine pev1 c75 ?_;simp only[go_sem,i75,pieces_len];refine gW_env [0,3,4,5,6,7,8,9,10,41] fun e1 hh1=> ?_
 simp only[go_sem] at hh1;cases l with
 |true=>
  obtain rfl:v=false:=by rw[← hv];simp[argB]
  simp only[go_sem,hh1]
 |false=>
  simp only[go_sem,hh1];refine gW_env [0,3,4,5,6,7,8,9,10,53] fun e2 hh2=> ?_
  simp only[go_sem,hh1] at hh2;cases o with
  |true=>
   obtain rfl:v=false:=by rw[← hv];simp[argB]
   simp only[go_sem,hh2]
  |false=>
   simp only[go_sem,hh2];refine gW_env [0,3,4,5,6,7,8,9,10,60] fun e3 hh3=> ?_
   simp only[go_sem,hh2] at hh3;by_cases hs:sg=0
   rotate_left
   ·have hs1:=(eq0 hs).1;have hs2:=(eq0 hs).2;obtain rfl:v=false:=by rw[← hv];simp[argB,hs]
    simp only[go_sem,hh3,hs2]
   subst hs;cases hA:isI ls.length a with
   |false=>
    have pA:=is_q hA;obtain rfl:v=false:=by rw[← hv];simp[argB,hA]
    simp only[go_sem,s101,hh3,gP_bool pA]
   |true=>
    have pA:=is_q hA;simp only[go_sem,s101,hh3,gP_bool pA];refine gW_env [3,4,6,7,9,142] fun e4 hh4=> ?_
    simp only[go_sem,hh3] at hh4;by_cases hc:c=0
    rotate_left
    ·have hc1:=(eq0 hc).2;obtain rfl:v=false:=by rw[← hv];simp[argB,hA,hc]
     simp only[go_sem,hh4,hc1]
    subst hc;cases hB:isI ls.length b with
    |false=>
     have pB:=is_q hB;obtain rfl:v=false:=by rw[← hv];simp[argB,hA,hB]
     simp only[go_sem,s101,hh4,gP_bool pB]
    |true=>
     have pB:=is_q hB;simp only[go_sem,s101,hh4,gP_bool pB];refine gW_env [3,4,7,172,178] fun e5 hh5=> ?_
     simp only[go_sem,hh4] at hh5;by_cases hl:a<b
     rotate_left
     ·obtain rfl:v=false:=by rw[← hv];simp[argB,hA,hB,hl]
      simp only[go_sem,hh5,hl]
     obtain rfl:v=true:=by rw[← hv];simp[argB,hA,hB,hl]
     simp only[go_sem,hh5,hl]
theorem argk7_p:PEv S 75 [.one (.p (brdV F ls)),mvV 7 a b c l o sg] (rb (argB F ls 7 a b c l o sg)):=by
 obtain⟨v,hv⟩: ∃ v,argB F ls 7 a b c l o sg=v:=⟨_,rfl⟩;rw[hv];refine pev1 c75 ?_;simp only[go_sem,i75,pieces_len];refine gW_env [0,3,4,5,6,7,8,9,10,60] fun e1 hh1=> ?_
 simp only[go_sem] at hh1;by_cases hs:sg=0
 rotate_left
 ·have hs1:=(eq0 hs).1;have hs2:=(eq0 hs).2;obtain rfl:v=false:=by rw[← hv];simp[argB,hs]
  simp only[go_sem,hh1,hs2]
 subst hs;cases hA:isI ls.length a with
 |false=>
  have pA:=is_q hA;obtain rfl:v=false:=by rw[← hv];simp[argB,hA]
  simp only[go_sem,s101,hh1,gP_bool pA]
 |true=>
  have pA:=is_q hA;simp only[go_sem,s101,hh1,gP_bool pA];refine gW_env [3,4,6,7,9,142] fun e2 hh2=> ?_
  simp only[go_sem,hh1] at hh2;by_cases hc:c=0
  rotate_left
  ·have hc1:=(eq0 hc).2;obtain rfl:v=false:=by rw[← hv];simp[argB,hA,hc]
   simp only[go_sem,hh2,hc1]
  subst hc;cases hB:isI ls.length b with
  |false=>
   have pB:=is_q hB;obtain rfl:v=false:=by rw[← hv];simp[argB,hA,hB]
   simp only[go_sem,s101,hh2,gP_bool pB]
  |true=>
   have pB:=is_q hB;simp only[go_sem,s101,hh2,gP_bool pB];by_cases hn:a=b
   ·subst hn;obtain rfl:v=false:=by rw[← hv];simp[argB,hA]
    simp only[go_sem]
   have hn1:=(eqI hn).2;obtain rfl:v=true:=by rw[← hv];simp[argB,hA,hB,hn]
   simp only[go_sem,hn1]
theorem argk8_p:PEv S 75 [.one (.p (brdV F ls)),mvV 8 a b c l o sg] (rb (argB F ls 8 a b c l o sg)):=by
 obtain⟨v,hv⟩: ∃ v,argB F ls 8 a b c l o sg=v:=⟨_,rfl⟩;rw[hv];refine pev1 c75 ?_;simp only[go_sem,i75,pieces_len];refine gW_env [0,3,4,5,6,7,8,9,10,41] fun e1 hh1=> ?_
 simp only[go_sem] at hh1;cases l with
 |true=>
  obtain rfl:v=false:=by rw[← hv];simp[argB]
  simp only[go_sem,hh1]
 |false=>
  simp only[go_sem,hh1];refine gW_env [0,3,4,5,6,7,8,9,10,53] fun e2 hh2=> ?_
  simp only[go_sem,hh1] at hh2;cases o with
  |true=>
   obtain rfl:v=false:=by rw[← hv];simp[argB]
   simp only[go_sem,hh2]
  |false=>
   simp only[go_sem,hh2];refine gW_env [0,3,4,5,6,7,8,9,10,60] fun e3 hh3=> ?_
   simp only[go_sem,hh2] at hh3;by_cases hs:sg=0
   rotate_left
   ·have hs1:=(eq0 hs).1;have hs2:=(eq0 hs).2;obtain rfl:v=false:=by rw[← hv];simp[argB,hs]
    simp only[go_sem,hh3,hs2]
   subst hs;cases hA:isI ls.length a with
   |false=>
    have pA:=is_q hA;obtain rfl:v=false:=by rw[← hv];simp[argB,hA]
    simp only[go_sem,s101,hh3,gP_bool pA]
   |true=>
    have pA:=is_q hA;simp only[go_sem,s101,hh3,gP_bool pA];cases hB:isI ls.length b with
    |false=>
     have pB:=is_q hB;obtain rfl:v=false:=by rw[← hv];simp[argB,hA,hB]
     simp only[go_sem,hh3,gP_bool pB]
    |true=>
     have pB:=is_q hB;cases hD:isI ls.length c with
     |false=>
      have pD:=is_q hD;obtain rfl:v=false:=by rw[← hv];simp[argB,hA,hB,hD]
      simp only[go_sem,s101,hh3,gP_bool pB,gP_bool pD]
     |true=>
      have pD:=is_q hD;simp only[go_sem,s101,hh3,gP_bool pB,gP_bool pD];refine gW_env [3,4,7,172,178] fun e4 hh4=> ?_
      simp only[go_sem,hh3] at hh4;by_cases hl:a<b
      rotate_left
      ·obtain rfl:v=false:=by rw[← hv];simp[argB,hA,hB,hD,hl]
       simp only[go_sem,hh4,hl]
      by_cases hm:b<c
      rotate_left
      ·obtain rfl:v=false:=by rw[← hv];simp[argB,hA,hB,hD,hl,hm]
       simp only[go_sem,hh4,hl,hm]
      obtain rfl:v=true:=by rw[← hv];simp[argB,hA,hB,hD,hl,hm]
      simp only[go_sem,hh4,hl,hm]
theorem argk9_p:PEv S 75 [.one (.p (brdV F ls)),mvV 9 a b c l o sg] (rb (argB F ls 9 a b c l o sg)):=by
 obtain⟨v,hv⟩: ∃ v,argB F ls 9 a b c l o sg=v:=⟨_,rfl⟩;rw[hv];refine pev1 c75 ?_;simp only[go_sem,i75,pieces_len];refine gW_env [0,3,4,5,6,7,8,9,10,41] fun e1 hh1=> ?_
 simp only[go_sem] at hh1;cases l with
 |true=>
  obtain rfl:v=false:=by rw[← hv];simp[argB]
  simp only[go_sem,hh1]
 |false=>
  simp only[go_sem,hh1];refine gW_env [0,3,4,5,6,7,8,9,10,53] fun e2 hh2=> ?_
  simp only[go_sem,hh1] at hh2;cases o with
  |true=>
   obtain rfl:v=false:=by rw[← hv];simp[argB]
   simp only[go_sem,hh2]
  |false=>
   simp only[go_sem,hh2];refine gW_env [0,3,4,5,6,7,8,9,10,60] fun e3 hh3=> ?_
   simp only[go_sem,hh2] at hh3;by_cases hs:sg=0
   rotate_left
   ·have hs1:=(eq0 hs).1;have hs2:=(eq0 hs).2;obtain rfl:v=false:=by rw[← hv];simp[argB,hs]
    simp only[go_sem,hh3,hs2]
   subst hs;cases hA:isI ls.length a with
   |false=>
    have pA:=is_q hA;obtain rfl:v=false:=by rw[← hv];simp[argB,hA]
    simp only[go_sem,s101,hh3,gP_bool pA]
   |true=>
    have pA:=is_q hA;simp only[go_sem,s101,hh3,gP_bool pA];refine gW_env [3,4,6,7,9,133] fun e4 hh4=> ?_
    simp only[go_sem,hh3] at hh4;by_cases hb:b=0
    rotate_left
    ·have hb1:=(eq0 hb).2;obtain rfl:v=false:=by rw[← hv];simp[argB,hA,hb]
     simp only[go_sem,hh4,hb1]
    subst hb;simp only[go_sem,hh4];refine gW_env [3,4,6,7,9,142] fun e5 hh5=> ?_
    simp only[go_sem,hh4] at hh5;by_cases hc:c=0
    rotate_left
    ·have hc1:=(eq0 hc).2;obtain rfl:v=false:=by rw[← hv];simp[argB,hA,hc]
     simp only[go_sem,hh5,hc1]
    subst hc;obtain rfl:v=true:=by rw[← hv];simp[argB,hA]
    simp only[go_sem,hh5]
theorem argk10_p:PEv S 75 [.one (.p (brdV F ls)),mvV 10 a b c l o sg] (rb (argB F ls 10 a b c l o sg)):=by
 obtain⟨v,hv⟩: ∃ v,argB F ls 10 a b c l o sg=v:=⟨_,rfl⟩;rw[hv];refine pev1 c75 ?_;simp only[go_sem,i75,pieces_len];refine gW_env [0,3,4,5,6,7,8,9,10,41] fun e1 hh1=> ?_
 simp only[go_sem] at hh1;cases l with
 |true=>
  obtain rfl:v=false:=by rw[← hv];simp[argB]
  simp only[go_sem,hh1]
 |false=>
  simp only[go_sem,hh1];refine gW_env [0,3,4,5,6,7,8,9,10,53] fun e2 hh2=> ?_
  simp only[go_sem,hh1] at hh2;cases o with
  |true=>
   obtain rfl:v=false:=by rw[← hv];simp[argB]
   simp only[go_sem,hh2]
  |false=>
   simp only[go_sem,hh2];refine gW_env [0,3,4,5,6,7,8,9,10,60] fun e3 hh3=> ?_
   simp only[go_sem,hh2] at hh3;by_cases hs:sg=0
   rotate_left
   ·have hs1:=(eq0 hs).1;have hs2:=(eq0 hs).2;obtain rfl:v=false:=by rw[← hv];simp[argB,hs]
    simp only[go_sem,hh3,hs2]
   subst hs;cases hA:isI ls.length a with
   |false=>
    have pA:=is_q hA;obtain rfl:v=false:=by rw[← hv];simp[argB,hA]
    simp only[go_sem,s101,hh3,gP_bool pA]
   |true=>
    have pA:=is_q hA;simp only[go_sem,s101,hh3,gP_bool pA];refine gW_env [3,4,6,7,9,133] fun e4 hh4=> ?_
    simp only[go_sem,hh3] at hh4;by_cases hb:b=0
    rotate_left
    ·have hb1:=(eq0 hb).2;obtain rfl:v=false:=by rw[← hv];simp[argB,hA,hb]
     simp only[go_sem,hh4,hb1]
    subst hb;simp only[go_sem,hh4];refine gW_env [3,4,6,7,9,142] fun e5 hh5=> ?_
    simp only[go_sem,hh4] at hh5;by_cases hc:c=0
    rotate_left
    ·have hc1:=(eq0 hc).2;obtain rfl:v=false:=by rw[← hv];simp[argB,hA,hc]
     simp only[go_sem,hh5,hc1]
    subst hc;obtain rfl:v=true:=by rw[← hv];simp[argB,hA]
    simp only[go_sem,hh5]
theorem arg_p(k:Int):PEv S 75 [.one (.p (brdV F ls)),mvV k a b c l o sg] (rb (argB F ls k a b c l o sg)):=by
 by_cases h1:k=1
 ·subst h1;exact argk1_p
 by_cases h2:k=2
 ·subst h2;exact argk2_p
 by_cases h3:k=3
 ·subst h3;exact argk3_p
 by_cases h4:k=4
 ·subst h4;exact argk4_p
 by_cases h5:k=5
 ·subst h5;exact argk5_p
 by_cases h6:k=6
 ·subst h6;exact argk6_p
 by_cases h7:k=7
 ·subst h7;exact argk7_p
 by_cases h8:k=8
 ·subst h8;exact argk8_p
 by_cases h9:k=9
 ·subst h9;exact argk9_p
 by_cases h10:k=10
 ·subst h10;exact argk10_p
 rw[show argB F ls k a b c l o sg=false by simp[argB,h1,h2,h3,h4,h5,h6,h7,h8,h9,h10]];have e1:=(eqI h1).1;have e2:=(eqI h2).1;have e3:=(eqI h3).1;have e4:=(eqI h4).1;have e5:=(eqI h5).1;have e6:=(eqI h6).1;have e7:=(eqI h7).1;have e8:=(eqI h8).1;have e9:=(eqI h9).1;have e10:=(eqI h10).1;refine pev1 c75 ?_;simp only[go_sem,i75,pieces_len,e1,e2,e3,e4,e5,e6,e7,e8,e9,e10]
end
end Go.Abs
