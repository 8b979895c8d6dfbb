/-
  The arguments of moves: the second part.
-/
import Derived.Test.YtnbfnkckmfibpaaGreatDoorWz
set_option linter.unusedSimpArgs false
set_option linter.unusedVariables false
set_option linter.unusedSectionVars false
set_option maxRecDepth 100000
set_option maxHeartbeats 16000000
namespace Go.Abs
attribute [local go_sem ↓] fm1 fm2
section
variable {F:Nat} {ls:List ae} {a b c:Int} {l o:Bool} {sg:Int}
theorem O1:aH S 49 [.one (.p (ew F ls)),dL 6 a b c l o sg] (rb (aK F ls 6 a b c l o sg)):=by
 obtain⟨v,hv⟩: ∃ v,aK F ls 6 a b c l o sg=v:=⟨_,rfl⟩;rw[hv];refine aG c49 ?_;simp only[go_sem,i49,aF];refine aX [0,3,4,5,6,7,8,9,10,41] fun e1 TU=> ?_
 simp only[go_sem] at TU;cases l with
 |true=>
  obtain rfl:v=false:=by rw[<- hv];simp[aK]
  simp only[go_sem,TU]
 |false=>
  simp only[go_sem,TU];refine aX [0,3,4,5,6,7,8,9,10,53] fun e2 TO=> ?_
  simp only[go_sem,TU] at TO;cases o with
  |true=>
   obtain rfl:v=false:=by rw[<- hv];simp[aK]
   simp only[go_sem,TO]
  |false=>
   simp only[go_sem,TO];refine aX [0,3,4,5,6,7,8,9,10,60] fun e3 TN=> ?_
   simp only[go_sem,TO] at TN;by_cases hs:sg=0
   rotate_left
   ·have Vz:=(nN hs).1;have Ur:=(nN hs).2;obtain rfl:v=false:=by rw[<- hv];simp[aK,hs]
    simp only[go_sem,TN,Ur]
   subst hs;cases hA:mU ls.length a with
   |false=>
    have pA:=gy hA;obtain rfl:v=false:=by rw[<- hv];simp[aK,hA]
    simp only[go_sem,s74,TN,aa pA]
   |true=>
    have pA:=gy hA;simp only[go_sem,s74,TN,aa pA];refine aX [3,4,6,7,9,142] fun e4 TZ=> ?_
    simp only[go_sem,TN] at TZ;by_cases hc:c=0
    rotate_left
    ·have UP:=(nN hc).2;obtain rfl:v=false:=by rw[<- hv];simp[aK,hA,hc]
     simp only[go_sem,TZ,UP]
    subst hc;cases hB:mU ls.length b with
    |false=>
     have pB:=gy hB;obtain rfl:v=false:=by rw[<- hv];simp[aK,hA,hB]
     simp only[go_sem,s74,TZ,aa pB]
    |true=>
     have pB:=gy hB;simp only[go_sem,s74,TZ,aa pB];refine aX [3,4,7,172,178] fun e5 UZ=> ?_
     simp only[go_sem,TZ] at UZ;by_cases hl:a<b
     rotate_left
     ·obtain rfl:v=false:=by rw[<- hv];simp[aK,hA,hB,hl]
      simp only[go_sem,UZ,hl]
     obtain rfl:v=true:=by rw[<- hv];simp[aK,hA,hB,hl]
     simp only[go_sem,UZ,hl]
theorem O0:aH S 49 [.one (.p (ew F ls)),dL 7 a b c l o sg] (rb (aK F ls 7 a b c l o sg)):=by
 obtain⟨v,hv⟩: ∃ v,aK F ls 7 a b c l o sg=v:=⟨_,rfl⟩;rw[hv];refine aG c49 ?_;simp only[go_sem,i49,aF];refine aX [0,3,4,5,6,7,8,9,10,60] fun e1 TU=> ?_
 simp only[go_sem] at TU;by_cases hs:sg=0
 rotate_left
 ·have Vz:=(nN hs).1;have Ur:=(nN hs).2;obtain rfl:v=false:=by rw[<- hv];simp[aK,hs]
  simp only[go_sem,TU,Ur]
 subst hs;cases hA:mU ls.length a with
 |false=>
  have pA:=gy hA;obtain rfl:v=false:=by rw[<- hv];simp[aK,hA]
  simp only[go_sem,s74,TU,aa pA]
 |true=>
  have pA:=gy hA;simp only[go_sem,s74,TU,aa pA];refine aX [3,4,6,7,9,142] fun e2 TO=> ?_
  simp only[go_sem,TU] at TO;by_cases hc:c=0
  rotate_left
  ·have UP:=(nN hc).2;obtain rfl:v=false:=by rw[<- hv];simp[aK,hA,hc]
   simp only[go_sem,TO,UP]
  subst hc;cases hB:mU ls.length b with
  |false=>
   have pB:=gy hB;obtain rfl:v=false:=by rw[<- hv];simp[aK,hA,hB]
   simp only[go_sem,s74,TO,aa pB]
  |true=>
   have pB:=gy hB;simp only[go_sem,s74,TO,aa pB];by_cases hn:a=b
   ·subst hn;obtain rfl:v=false:=by rw[<- hv];simp[aK,hA]
    simp only[go_sem]
   have UH:=(GR hn).2;obtain rfl:v=true:=by rw[<- hv];simp[aK,hA,hB,hn]
   simp only[go_sem,UH]
theorem OZ:aH S 49 [.one (.p (ew F ls)),dL 8 a b c l o sg] (rb (aK F ls 8 a b c l o sg)):=by
 obtain⟨v,hv⟩: ∃ v,aK F ls 8 a b c l o sg=v:=⟨_,rfl⟩;rw[hv];refine aG c49 ?_;simp only[go_sem,i49,aF];refine aX [0,3,4,5,6,7,8,9,10,41] fun e1 TU=> ?_
 simp only[go_sem] at TU;cases l with
 |true=>
  obtain rfl:v=false:=by rw[<- hv];simp[aK]
  simp only[go_sem,TU]
 |false=>
  simp only[go_sem,TU];refine aX [0,3,4,5,6,7,8,9,10,53] fun e2 TO=> ?_
  simp only[go_sem,TU] at TO;cases o with
  |true=>
   obtain rfl:v=false:=by rw[<- hv];simp[aK]
   simp only[go_sem,TO]
  |false=>
   simp only[go_sem,TO];refine aX [0,3,4,5,6,7,8,9,10,60] fun e3 TN=> ?_
   simp only[go_sem,TO] at TN;by_cases hs:sg=0
   rotate_left
   ·have Vz:=(nN hs).1;have Ur:=(nN hs).2;obtain rfl:v=false:=by rw[<- hv];simp[aK,hs]
    simp only[go_sem,TN,Ur]
   subst hs;cases hA:mU ls.length a with
   |false=>
    have pA:=gy hA;obtain rfl:v=false:=by rw[<- hv];simp[aK,hA]
    simp only[go_sem,s74,TN,aa pA]
   |true=>
    have pA:=gy hA;simp only[go_sem,s74,TN,aa pA];cases hB:mU ls.length b with
    |false=>
     have pB:=gy hB;obtain rfl:v=false:=by rw[<- hv];simp[aK,hA,hB]
     simp only[go_sem,TN,aa pB]
    |true=>
     have pB:=gy hB;cases hD:mU ls.length c with
     |false=>
      have pD:=gy hD;obtain rfl:v=false:=by rw[<- hv];simp[aK,hA,hB,hD]
      simp only[go_sem,s74,TN,aa pB,aa pD]
     |true=>
      have pD:=gy hD;simp only[go_sem,s74,TN,aa pB,aa pD];refine aX [3,4,7,172,178] fun e4 TZ=> ?_
      simp only[go_sem,TN] at TZ;by_cases hl:a<b
      rotate_left
      ·obtain rfl:v=false:=by rw[<- hv];simp[aK,hA,hB,hD,hl]
       simp only[go_sem,TZ,hl]
      by_cases hm:b<c
      rotate_left
      ·obtain rfl:v=false:=by rw[<- hv];simp[aK,hA,hB,hD,hl,hm]
       simp only[go_sem,TZ,hl,hm]
      obtain rfl:v=true:=by rw[<- hv];simp[aK,hA,hB,hD,hl,hm]
      simp only[go_sem,TZ,hl,hm]
theorem OY:aH S 49 [.one (.p (ew F ls)),dL 9 a b c l o sg] (rb (aK F ls 9 a b c l o sg)):=by
 obtain⟨v,hv⟩: ∃ v,aK F ls 9 a b c l o sg=v:=⟨_,rfl⟩;rw[hv];refine aG c49 ?_;simp only[go_sem,i49,aF];refine aX [0,3,4,5,6,7,8,9,10,41] fun e1 TU=> ?_
 simp only[go_sem] at TU;cases l with
 |true=>
  obtain rfl:v=false:=by rw[<- hv];simp[aK]
  simp only[go_sem,TU]
 |false=>
  simp only[go_sem,TU];refine aX [0,3,4,5,6,7,8,9,10,53] fun e2 TO=> ?_
  simp only[go_sem,TU] at TO;cases o with
  |true=>
   obtain rfl:v=false:=by rw[<- hv];simp[aK]
   simp only[go_sem,TO]
  |false=>
   simp only[go_sem,TO];refine aX [0,3,4,5,6,7,8,9,10,60] fun e3 TN=> ?_
   simp only[go_sem,TO] at TN;by_cases hs:sg=0
   rotate_left
   ·have Vz:=(nN hs).1;have Ur:=(nN hs).2;obtain rfl:v=false:=by rw[<- hv];simp[aK,hs]
    simp only[go_sem,TN,Ur]
   subst hs;cases hA:mU ls.length a with
   |false=>
    have pA:=gy hA;obtain rfl:v=false:=by rw[<- hv];simp[aK,hA]
    simp only[go_sem,s74,TN,aa pA]
   |true=>
    have pA:=gy hA;simp only[go_sem,s74,TN,aa pA];refine aX [3,4,6,7,9,133] fun e4 TZ=> ?_
    simp only[go_sem,TN] at TZ;by_cases hb:b=0
    rotate_left
    ·have Tw:=(nN hb).2;obtain rfl:v=false:=by rw[<- hv];simp[aK,hA,hb]
     simp only[go_sem,TZ,Tw]
    subst hb;simp only[go_sem,TZ];refine aX [3,4,6,7,9,142] fun e5 UZ=> ?_
    simp only[go_sem,TZ] at UZ;by_cases hc:c=0
    rotate_left
    ·have UP:=(nN hc).2;obtain rfl:v=false:=by rw[<- hv];simp[aK,hA,hc]
     simp only[go_sem,UZ,UP]
    subst hc;obtain rfl:v=true:=by rw[<- hv];simp[aK,hA]
    simp only[go_sem,UZ]
theorem Ml:aH S 49 [.one (.p (ew F ls)),dL 10 a b c l o sg] (rb (aK F ls 10 a b c l o sg)):=by
 obtain⟨v,hv⟩: ∃ v,aK F ls 10 a b c l o sg=v:=⟨_,rfl⟩;rw[hv];refine aG c49 ?_;simp only[go_sem,i49,aF];refine aX [0,3,4,5,6,7,8,9,10,41] fun e1 TU=> ?_
 simp only[go_sem] at TU;cases l with
 |true=>
  obtain rfl:v=false:=by rw[<- hv];simp[aK]
  simp only[go_sem,TU]
 |false=>
  simp only[go_sem,TU];refine aX [0,3,4,5,6,7,8,9,10,53] fun e2 TO=> ?_
  simp only[go_sem,TU] at TO;cases o with
  |true=>
   obtain rfl:v=false:=by rw[<- hv];simp[aK]
   simp only[go_sem,TO]
  |false=>
   simp only[go_sem,TO];refine aX [0,3,4,5,6,7,8,9,10,60] fun e3 TN=> ?_
   simp only[go_sem,TO] at TN;by_cases hs:sg=0
   rotate_left
   ·have Vz:=(nN hs).1;have Ur:=(nN hs).2;obtain rfl:v=false:=by rw[<- hv];simp[aK,hs]
    simp only[go_sem,TN,Ur]
   subst hs;cases hA:mU ls.length a with
   |false=>
    have pA:=gy hA;obtain rfl:v=false:=by rw[<- hv];simp[aK,hA]
    simp only[go_sem,s74,TN,aa pA]
   |true=>
    have pA:=gy hA;simp only[go_sem,s74,TN,aa pA];refine aX [3,4,6,7,9,133] fun e4 TZ=> ?_
    simp only[go_sem,TN] at TZ;by_cases hb:b=0
    rotate_left
    ·have Tw:=(nN hb).2;obtain rfl:v=false:=by rw[<- hv];simp[aK,hA,hb]
     simp only[go_sem,TZ,Tw]
    subst hb;simp only[go_sem,TZ];refine aX [3,4,6,7,9,142] fun e5 UZ=> ?_
    simp only[go_sem,TZ] at UZ;by_cases hc:c=0
    rotate_left
    ·have UP:=(nN hc).2;obtain rfl:v=false:=by rw[<- hv];simp[aK,hA,hc]
     simp only[go_sem,UZ,UP]
    subst hc;obtain rfl:v=true:=by rw[<- hv];simp[aK,hA]
    simp only[go_sem,UZ]
theorem PW(k:Int):aH S 49 [.one (.p (ew F ls)),dL k a b c l o sg] (rb (aK F ls k a b c l o sg)):=by
 by_cases h1:k=1
 ·subst h1;exact O6
 by_cases h2:k=2
 ·subst h2;exact O5
 by_cases h3:k=3
 ·subst h3;exact O4
 by_cases h4:k=4
 ·subst h4;exact O3
 by_cases h5:k=5
 ·subst h5;exact O2
 by_cases h6:k=6
 ·subst h6;exact O1
 by_cases h7:k=7
 ·subst h7;exact O0
 by_cases h8:k=8
 ·subst h8;exact OZ
 by_cases h9:k=9
 ·subst h9;exact OY
 by_cases TJ:k=10
 ·subst TJ;exact Ml
 rw[show aK F ls k a b c l o sg=false by simp[aK,h1,h2,h3,h4,h5,h6,h7,h8,h9,TJ]];have e1:=(GR h1).1;have e2:=(GR h2).1;have e3:=(GR h3).1;have e4:=(GR h4).1;have e5:=(GR h5).1;have e6:=(GR h6).1;have e7:=(GR h7).1;have e8:=(GR h8).1;have e9:=(GR h9).1;have e10:=(GR TJ).1;refine aG c49 ?_;simp only[go_sem,i49,aF,e1,e2,e3,e4,e5,e6,e7,e8,e9,e10]
end
end Go.Abs
