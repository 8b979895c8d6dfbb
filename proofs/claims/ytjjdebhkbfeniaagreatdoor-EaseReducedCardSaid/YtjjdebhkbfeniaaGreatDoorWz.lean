/-
  A part of a proof.
-/
import Derived.Test.YtjjdebhkbfeniaaGreatDoorWq
set_option linter.unusedSimpArgs false
set_option linter.unusedVariables false
set_option linter.unusedSectionVars false
set_option maxRecDepth 100000
set_option maxHeartbeats 16000000
namespace Go.Abs
attribute [local go_sem ↓] fm1 fm2
def argB(F:Nat)(ls:List Let)(k a b c:Int)(l o:Bool)(sg:Int):Bool:=
 if k=2 then !l&&(!o&&(sg==0&&((isI ls.length a||(ls.length==0&&a==0))&&(decide (0≤b)&&(decide (b≤(F:Int))&&(decide (0≤c)&&decide (c≤(cg ls b.toNat:Int))))))))
 else if k=3∨k=6 then !l&&(!o&&(sg==0&&(isI ls.length a&&(c==0&&(isI ls.length b&&decide (a<b))))))
 else if k=5 then !l&&((sg==1||sg== -1)&&(isI ls.length a&&(b==0&&c==0)))
 else if k=7 then sg==0&&(isI ls.length a&&(c==0&&(isI ls.length b&& !(a==b))))
 else if k=8 then !l&&(!o&&(sg==0&&(isI ls.length a&&(isI ls.length b&&(isI ls.length c&&(decide (a<b)&&decide (b<c)))))))
 else if k=1∨k=4∨k=9∨k=10 then !l&&(!o&&(sg==0&&(isI ls.length a&&(b==0&&c==0))))
 else false
theorem is_q{ls:List Let}{i:Int}{x:Bool}(h:isI ls.length i=x):PEv S 101 [vi i, .one (.p (.box [.int .i64 ls.length]))] (rb x):=h▸is_p i ls.length
theorem eq0{x:Int}(h: ¬ x=0):(x==0)=false∧(x !=0)=true:=by simp[h]
theorem eqI{x y:Int}(h: ¬ x=y):(x==y)=false∧(x !=y)=true:=by simp[h]
section
variable {F:Nat} {ls:List Let} {a b c:Int} {l o:Bool} {sg:Int}
theorem argk1_p:PEv S 75 [.one (.p (brdV F ls)),mvV 1 a b c l o sg] (rb (argB F ls 1 a b c l o sg)):=by
 obtain⟨v,hv⟩: ∃ v,argB F ls 1 a b c l o sg=v:=⟨_,rfl⟩;rw[hv];refine pev1 c75 ?_;simp only[go_sem,i75,pieces_len];refine gW_env [0,3,4,5,6,7,8,9,10,41] fun e1 hh1=> ?_
 simp only[go_sem] at hh1;cases l with
 |true=>
  obtain rfl:v=false:=by rw[← hv];simp[argB]
  simp only[go_sem,hh1]
 |false=>
  simp only[go_sem,hh1];refine gW_env [0,3,4,5,6,7,8,9,10,53] fun e2 hh2=> ?_
  simp only[go_sem,hh1] at hh2;cases o with
  |true=>
   obtain rfl:v=false:=by rw[← hv];simp[argB]
   simp only[go_sem,hh2]
  |false=>
   simp only[go_sem,hh2];refine gW_env [0,3,4,5,6,7,8,9,10,60] fun e3 hh3=> ?_
   simp only[go_sem,hh2] at hh3;by_cases hs:sg=0
   rotate_left
   ·have hs1:=(eq0 hs).1;have hs2:=(eq0 hs).2;obtain rfl:v=false:=by rw[← hv];simp[argB,hs]
    simp only[go_sem,hh3,hs2]
   subst hs;cases hA:isI ls.length a with
   |false=>
    have pA:=is_q hA;obtain rfl:v=false:=by rw[← hv];simp[argB,hA]
    simp only[go_sem,s101,hh3,gP_bool pA]
   |true=>
    have pA:=is_q hA;simp only[go_sem,s101,hh3,gP_bool pA];refine gW_env [3,4,6,7,9,133] fun e4 hh4=> ?_
    simp only[go_sem,hh3] at hh4;by_cases hb:b=0
    rotate_left
    ·have hb1:=(eq0 hb).2;obtain rfl:v=false:=by rw[← hv];simp[argB,hA,hb]
     simp only[go_sem,hh4,hb1]
    subst hb;simp only[go_sem,hh4];refine gW_env [3,4,6,7,9,142] fun e5 hh5=> ?_
    simp only[go_sem,hh4] at hh5;by_cases hc:c=0
    rotate_left
    ·have hc1:=(eq0 hc).2;obtain rfl:v=false:=by rw[← hv];simp[argB,hA,hc]
     simp only[go_sem,hh5,hc1]
    subst hc;obtain rfl:v=true:=by rw[← hv];simp[argB,hA]
    simp only[go_sem,hh5]
theorem argk2_p:PEv S 75 [.one (.p (brdV F ls)),mvV 2 a b c l o sg] (rb (argB F ls 2 a b c l o sg)):=by
 obtain⟨v,hv⟩: ∃ v,argB F ls 2 a b c l o sg=v:=⟨_,rfl⟩;rw[hv];refine pev1 c75 ?_;simp only[go_sem,i75,pieces_len];refine gW_env [0,3,4,5,6,7,8,9,10,41] fun e1 hh1=> ?_
 simp only[go_sem] at hh1;cases l with
 |true=>
  obtain rfl:v=false:=by rw[← hv];simp[argB]
  simp only[go_sem,hh1]
 |false=>
  simp only[go_sem,hh1];refine gW_env [0,3,4,5,6,7,8,9,10,53] fun e2 hh2=> ?_
  simp only[go_sem,hh1] at hh2;cases o with
  |true=>
   obtain rfl:v=false:=by rw[← hv];simp[argB]
   simp only[go_sem,hh2]
  |false=>
   simp only[go_sem,hh2];refine gW_env [0,3,4,5,6,7,8,9,10,60] fun e3 hh3=> ?_
   simp only[go_sem,hh2] at hh3;by_cases hs:sg=0
   rotate_left
   ·have hs1:=(eq0 hs).1;have hs2:=(eq0 hs).2;obtain rfl:v=false:=by rw[← hv];simp[argB,hs]
    simp only[go_sem,hh3,hs2]
   subst hs;cases hA:isI ls.length a with
   |true=>
    have pA:=is_q hA;simp only[go_sem,s101,hh3,dP_bool pA];refine dW_env [0,3,4,6,7,9,92] fun e4 hh4=> ?_
    simp only[go_sem,hh3] at hh4;by_cases hB1:0≤b
    rotate_left
    ·obtain rfl:v=false:=by rw[← hv];simp[argB,hA,hB1]
     simp only[go_sem,hh4,hB1];exact okd
    simp only[go_sem,hh4,hB1];refine dW_env [0,3,4,6,7,9,101] fun e5 hh5=> ?_
    simp only[go_sem,hh4] at hh5;by_cases hB2:b≤(F:Int)
    rotate_left
    ·obtain rfl:v=false:=by rw[← hv];simp[argB,hA,hB1,hB2]
     simp only[go_sem,hh5,hB2];exact okd
    obtain⟨B,rfl⟩:=Int.eq_ofNat_of_zero_le hB1;have hBF:B≤F:=by omega
    have hca:=nP_at (counts_at (ls:=ls) hBF);have h5:B<F+1:=by omega
    have h6:(counts ls F).length=F+1:=by simp[counts]
    simp only[go_sem,hh5,hB2];refine dW_env [0,3,4,6,7,9,106] fun e6 hh6=> ?_
    simp only[go_sem,hh5] at hh6;by_cases hC1:0≤c
    rotate_left
    ·obtain rfl:v=false:=by rw[← hv];simp[argB,hA,hB1,hB2,hC1]
     simp only[go_sem,hh6,hC1];exact okd
    by_cases hC2:c≤(cg ls B:Int)
    rotate_left
    ·obtain rfl:v=false:=by rw[← hv];simp[argB,hA,hB1,hB2,hC1,hC2]
     simp only[go_sem,hca,hh6,hC1,hC2];exact okd
    obtain rfl:v=true:=by rw[← hv];simp[argB,hA,hB1,hB2,hC1,hC2]
    simp only[go_sem,hca,hh6,hC1,hC2];exact okd
   |false=>
    have pA:=is_q hA;by_cases hn:ls.length=0
    rotate_left
    ·have hn2:((ls.length:Int)==0)=false:=beq_false_of_ne (by omega);have hn3:ls≠[]:=fun h=>hn (by rw[h];rfl)
     obtain rfl:v=false:=by rw[← hv];simp[argB,hA,hn]
     simp only[go_sem,s101,hh3,dP_bool pA,hn2];exact okd
    have hn2:((ls.length:Int)==0)=true:=by rw[hn];rfl
    have hn3:=List.length_eq_zero_iff.mp hn;by_cases ha:a=0
    rotate_left
    ·have ha1:=(eq0 ha).1;obtain rfl:v=false:=by rw[← hv];simp[argB,hn3,ha,show isI 0 a=false by rw[← hn];exact hA]
     simp only[go_sem,s101,hh3,dP_bool pA,hn2,ha1];exact okd
    subst ha;simp only[go_sem,s101,hh3,dP_bool pA,hn2];refine dW_env [0,3,4,6,7,9,92] fun e7 hh7=> ?_
    simp only[go_sem,hh3] at hh7;by_cases hB1:0≤b
    rotate_left
    ·obtain rfl:v=false:=by rw[← hv];simp[argB,hn,hB1]
     simp only[go_sem,hh7,hB1];exact okd
    simp only[go_sem,hh7,hB1];refine dW_env [0,3,4,6,7,9,101] fun e8 hh8=> ?_
    simp only[go_sem,hh7] at hh8;by_cases hB2:b≤(F:Int)
    rotate_left
    ·obtain rfl:v=false:=by rw[← hv];simp[argB,hn,hB1,hB2]
     simp only[go_sem,hh8,hB2];exact okd
    obtain⟨B,rfl⟩:=Int.eq_ofNat_of_zero_le hB1;have hBF:B≤F:=by omega
    have hca:=nP_at (counts_at (ls:=ls) hBF);have h5:B<F+1:=by omega
    have h6:(counts ls F).length=F+1:=by simp[counts]
    simp only[go_sem,hh8,hB2];refine dW_env [0,3,4,6,7,9,106] fun e9 hh9=> ?_
    simp only[go_sem,hh8] at hh9;by_cases hC1:0≤c
    rotate_left
    ·obtain rfl:v=false:=by rw[← hv];simp[argB,hn,hB1,hB2,hC1]
     simp only[go_sem,hh9,hC1];exact okd
    by_cases hC2:c≤(cg ls B:Int)
    rotate_left
    ·obtain rfl:v=false:=by rw[← hv];simp[argB,hn,hB1,hB2,hC1,hC2]
     simp only[go_sem,hca,hh9,hC1,hC2];exact okd
    obtain rfl:v=true:=by rw[← hv];simp[argB,hn,hB1,hB2,hC1,hC2]
    simp only[go_sem,hca,hh9,hC1,hC2];exact okd
theorem argk3_p:PEv S 75 [.one (.p (brdV F ls)),mvV 3 a b c l o sg] (rb (argB F ls 3 a b c l o sg)):=by
 obtain⟨v,hv⟩: ∃ v,argB F ls 3 a b c l o sg=v:=⟨_,rfl⟩;rw[hv];refine pev1 c75 ?_;simp only[go_sem,i75,pieces_len];refine gW_env [0,3,4,5,6,7,8,9,10,41] fun e1 hh1=> ?_
 simp only[go_sem] at hh1;cases l with
 |true=>
  obtain rfl:v=false:=by rw[← hv];simp[argB]
  simp only[go_sem,hh1]
 |false=>
  simp only[go_sem,hh1];refine gW_env [0,3,4,5,6,7,8,9,10,53] fun e2 hh2=> ?_
  simp only[go_sem,hh1] at hh2;cases o with
  |true=>
   obtain rfl:v=false:=by rw[← hv];simp[argB]
   simp only[go_sem,hh2]
  |false=>
   simp only[go_sem,hh2];refine gW_env [0,3,4,5,6,7,8,9,10,60] fun e3 hh3=> ?_
   simp only[go_sem,hh2] at hh3;by_cases hs:sg=0
   rotate_left
   ·have hs1:=(eq0 hs).1;have hs2:=(eq0 hs).2;obtain rfl:v=false:=by rw[← hv];simp[argB,hs]
    simp only[go_sem,hh3,hs2]
   subst hs;cases hA:isI ls.length a with
   |false=>
    have pA:=is_q hA;obtain rfl:v=false:=by rw[← hv];simp[argB,hA]
    simp only[go_sem,s101,hh3,gP_bool pA]
   |true=>
    have pA:=is_q hA;simp only[go_sem,s101,hh3,gP_bool pA];refine gW_env [3,4,6,7,9,142] fun e4 hh4=> ?_
    simp only[go_sem,hh3] at hh4;by_cases hc:c=0
    rotate_left
    ·have hc1:=(eq0 hc).2;obtain rfl:v=false:=by rw[← hv];simp[argB,hA,hc]
     simp only[go_sem,hh4,hc1]
    subst hc;cases hB:isI ls.length b with
    |false=>
     have pB:=is_q hB;obtain rfl:v=false:=by rw[← hv];simp[argB,hA,hB]
     simp only[go_sem,s101,hh4,gP_bool pB]
    |true=>
     have pB:=is_q hB;simp only[go_sem,s101,hh4,gP_bool pB];refine gW_env [3,4,7,172,178] fun e5 hh5=> ?_
     simp only[go_sem,hh4] at hh5;by_cases hl:a<b
     rotate_left
     ·obtain rfl:v=false:=by rw[← hv];simp[argB,hA,hB,hl]
      simp only[go_sem,hh5,hl]
     obtain rfl:v=true:=by rw[← hv];simp[argB,hA,hB,hl]
     simp only[go_sem,hh5,hl]
theorem argk4_p:PEv S 75 [.one (.p (brdV F ls)),mvV 4 a b c l o sg] (rb (argB F ls 4 a b c l o sg)):=by
 obtain⟨v,hv⟩: ∃ v,argB F ls 4 a b c l o sg=v:=⟨_,rfl⟩;rw[hv];refine pev1 c75 ?_;simp only[go_sem,i75,pieces_len];refine gW_env [0,3,4,5,6,7,8,9,10,41] fun e1 hh1=> ?_
 simp only[go_sem] at hh1;cases l with
 |true=>
  obtain rfl:v=false:=by rw[← hv];simp[argB]
  simp only[go_sem,hh1]
 |false=>
  simp only[go_sem,hh1];refine gW_env [0,3,4,5,6,7,8,9,10,53] fun e2 hh2=> ?_
  simp only[go_sem,hh1] at hh2;cases o with
  |true=>
   obtain rfl:v=false:=by rw[← hv];simp[argB]
   simp only[go_sem,hh2]
  |false=>
   simp only[go_sem,hh2];refine gW_env [0,3,4,5,6,7,8,9,10,60] fun e3 hh3=> ?_
   simp only[go_sem,hh2] at hh3;by_cases hs:sg=0
   rotate_left
   ·have hs1:=(eq0 hs).1;have hs2:=(eq0 hs).2;obtain rfl:v=false:=by rw[← hv];simp[argB,hs]
    simp only[go_sem,hh3,hs2]
   subst hs;cases hA:isI ls.length a with
   |false=>
    have pA:=is_q hA;obtain rfl:v=false:=by rw[← hv];simp[argB,hA]
    simp only[go_sem,s101,hh3,gP_bool pA]
   |true=>
    have pA:=is_q hA;simp only[go_sem,s101,hh3,gP_bool pA];refine gW_env [3,4,6,7,9,133] fun e4 hh4=> ?_
    simp only[go_sem,hh3] at hh4;by_cases hb:b=0
    rotate_left
    ·have hb1:=(eq0 hb).2;obtain rfl:v=false:=by rw[← hv];simp[argB,hA,hb]
     simp only[go_sem,hh4,hb1]
    subst hb;simp only[go_sem,hh4];refine gW_env [3,4,6,7,9,142] fun e5 hh5=> ?_
    simp only[go_sem,hh4] at hh5;by_cases hc:c=0
    rotate_left
    ·have hc1:=(eq0 hc).2;obtain rfl:v=false:=by rw[← hv];simp[argB,hA,hc]
     simp only[go_sem,hh5,hc1]
    subst hc;obtain rfl:v=true:=by rw[← hv];simp[argB,hA]
    simp only[go_sem,hh5]
theorem argk5_p:PEv S 75 [.one (.p (brdV F ls)),mvV 5 a b c l o sg] (rb (argB F ls 5 a b c l o sg)):=by
 obtain⟨v,hv⟩: ∃ v,argB F ls 5 a b c l o sg=v:=⟨_,rfl⟩;rw[hv];refine pev1 c75 ?_;simp only[go_sem,i75,pieces_len];refine gW_env [0,3,4,5,6,7,8,9,10,41] fun e1 hh1=> ?_
 simp only[go_sem] at hh1;cases l with
 |true=>
  obtain rfl:v=false:=by rw[← hv];simp[argB]
  simp only[go_sem,hh1]
 |false=>
  simp only[go_sem,hh1];refine gW_env [0,3,4,5,6,7,8,9,10,60] fun e2 hh2=> ?_
  simp only[go_sem,hh1] at hh2;by_cases q0:sg=0
  ·subst q0;obtain rfl:v=false:=by rw[← hv];simp[argB]
   simp only[go_sem,hh2]
  by_cases q1:sg=1
  rotate_left;by_cases q2:sg= -1
  rotate_left
  ·have h00:=(eq0 q0).2;have h11:=(eqI q1).2;have h22:=(eqI q2).2;obtain rfl:v=false:=by rw[← hv];simp[argB,q1,q2]
   simp only[go_sem,hh2,h00,h11,h22]
  ·subst q1;cases hA:isI ls.length a with
   |false=>
    have pA:=is_q hA;obtain rfl:v=false:=by rw[← hv];simp[argB,hA]
    simp only[go_sem,s101,hh2,gP_bool pA]
   |true=>
    have pA:=is_q hA;simp only[go_sem,s101,hh2,gP_bool pA];refine gW_env [3,4,6,7,9,133] fun e3 hh3=> ?_
    simp only[go_sem,hh2] at hh3;by_cases hb:b=0
    rotate_left
    ·have hb1:=(eq0 hb).2;obtain rfl:v=false:=by rw[← hv];simp[argB,hA,hb]
     simp only[go_sem,hh3,hb1]
    subst hb;simp only[go_sem,hh3];refine gW_env [3,4,6,7,9,142] fun e4 hh4=> ?_
    simp only[go_sem,hh3] at hh4;by_cases hc:c=0
    rotate_left
    ·have hc1:=(eq0 hc).2;obtain rfl:v=false:=by rw[← hv];simp[argB,hA,hc]
     simp only[go_sem,hh4,hc1]
    subst hc;obtain rfl:v=true:=by rw[← hv];simp[argB,hA]
    simp only[go_sem,hh4]
  ·subst q2;cases hA:isI ls.length a with
   |false=>
    have pA:=is_q hA;obtain rfl:v=false:=by rw[← hv];simp[argB,hA]
    simp only[go_sem,s101,hh2,gP_bool pA]
   |true=>
    have pA:=is_q hA;simp only[go_sem,s101,hh2,gP_bool pA];refine gW_env [3,4,6,7,9,133] fun e5 hh5=> ?_
    simp only[go_sem,hh2] at hh5;by_cases hb:b=0
    rotate_left
    ·have hb1:=(eq0 hb).2;obtain rfl:v=false:=by rw[← hv];simp[argB,hA,hb]
     simp only[go_sem,hh5,hb1]
    subst hb;simp only[go_sem,hh5];refine gW_env [3,4,6,7,9,142] fun e6 hh6=> ?_
    simp only[go_sem,hh5] at hh6;by_cases hc:c=0
    rotate_left
    ·have hc1:=(eq0 hc).2;obtain rfl:v=false:=by rw[← hv];simp[argB,hA,hc]
     simp only[go_sem,hh6,hc1]
    subst hc;obtain rfl:v=true:=by rw[← hv];simp[argB,hA]
    simp only[go_sem,hh6]
end
end Go.Abs
