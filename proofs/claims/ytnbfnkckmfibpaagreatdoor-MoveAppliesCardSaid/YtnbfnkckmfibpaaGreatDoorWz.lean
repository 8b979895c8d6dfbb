/-
  The arguments of moves: the first part.
-/
import Derived.Test.YtnbfnkckmfibpaaGreatDoorWq
set_option linter.unusedSimpArgs false
set_option linter.unusedVariables false
set_option linter.unusedSectionVars false
set_option maxRecDepth 100000
set_option maxHeartbeats 16000000
namespace Go.Abs
attribute [local go_sem ↓] fm1 fm2
def aK(F:Nat)(ls:List ae)(k a b c:Int)(l o:Bool)(sg:Int):Bool:=
 if k=2 then !l&&(!o&&(sg==0&&((mU ls.length a||(ls.length==0&&a==0))&&(decide (0<=b)&&(decide (b<=(F:Int))&&(decide (0<=c)&&decide (c<=(cg ls b.toNat:Int))))))))
 else if k=3\/k=6 then !l&&(!o&&(sg==0&&(mU ls.length a&&(c==0&&(mU ls.length b&&decide (a<b))))))
 else if k=5 then !l&&((sg==1||sg== -1)&&(mU ls.length a&&(b==0&&c==0)))
 else if k=7 then sg==0&&(mU ls.length a&&(c==0&&(mU ls.length b&& !(a==b))))
 else if k=8 then !l&&(!o&&(sg==0&&(mU ls.length a&&(mU ls.length b&&(mU ls.length c&&(decide (a<b)&&decide (b<c)))))))
 else if k=1\/k=4\/k=9\/k=10 then !l&&(!o&&(sg==0&&(mU ls.length a&&(b==0&&c==0))))
 else false
theorem gy{ls:List ae}{i:Int}{x:Bool}(h:mU ls.length i=x):aH S 74 [vi i, .one (.p (.box [.int .i64 ls.length]))] (rb x):=h▸SA i ls.length
theorem nN{x:Int}(h: ¬ x=0):(x==0)=false/\(x !=0)=true:=by simp[h]
theorem GR{x y:Int}(h: ¬ x=y):(x==y)=false/\(x !=y)=true:=by simp[h]
section
variable {F:Nat} {ls:List ae} {a b c:Int} {l o:Bool} {sg:Int}
theorem O6:aH S 49 [.one (.p (ew F ls)),dL 1 a b c l o sg] (rb (aK F ls 1 a b c l o sg)):=by
 obtain⟨v,hv⟩: ∃ v,aK F ls 1 a b c l o sg=v:=⟨_,rfl⟩;rw[hv];refine aG c49 ?_;simp only[go_sem,i49,aF];refine aX [0,3,4,5,6,7,8,9,10,41] fun e1 TU=> ?_
 simp only[go_sem] at TU;cases l with
 |true=>
  obtain rfl:v=false:=by rw[<- hv];simp[aK]
  simp only[go_sem,TU]
 |false=>
  simp only[go_sem,TU];refine aX [0,3,4,5,6,7,8,9,10,53] fun e2 TO=> ?_
  simp only[go_sem,TU] at TO;cases o with
  |true=>
   obtain rfl:v=false:=by rw[<- hv];simp[aK]
   simp only[go_sem,TO]
  |false=>
   simp only[go_sem,TO];refine aX [0,3,4,5,6,7,8,9,10,60] fun e3 TN=> ?_
   simp only[go_sem,TO] at TN;by_cases hs:sg=0
   rotate_left
   ·have Vz:=(nN hs).1;have Ur:=(nN hs).2;obtain rfl:v=false:=by rw[<- hv];simp[aK,hs]
    simp only[go_sem,TN,Ur]
   subst hs;cases hA:mU ls.length a with
   |false=>
    have pA:=gy hA;obtain rfl:v=false:=by rw[<- hv];simp[aK,hA]
    simp only[go_sem,s74,TN,aa pA]
   |true=>
    have pA:=gy hA;simp only[go_sem,s74,TN,aa pA];refine aX [3,4,6,7,9,133] fun e4 TZ=> ?_
    simp only[go_sem,TN] at TZ;by_cases hb:b=0
    rotate_left
    ·have Tw:=(nN hb).2;obtain rfl:v=false:=by rw[<- hv];simp[aK,hA,hb]
     simp only[go_sem,TZ,Tw]
    subst hb;simp only[go_sem,TZ];refine aX [3,4,6,7,9,142] fun e5 UZ=> ?_
    simp only[go_sem,TZ] at UZ;by_cases hc:c=0
    rotate_left
    ·have UP:=(nN hc).2;obtain rfl:v=false:=by rw[<- hv];simp[aK,hA,hc]
     simp only[go_sem,UZ,UP]
    subst hc;obtain rfl:v=true:=by rw[<- hv];simp[aK,hA]
    simp only[go_sem,UZ]
theorem O5:aH S 49 [.one (.p (ew F ls)),dL 2 a b c l o sg] (rb (aK F ls 2 a b c l o sg)):=by
 obtain⟨v,hv⟩: ∃ v,aK F ls 2 a b c l o sg=v:=⟨_,rfl⟩;rw[hv];refine aG c49 ?_;simp only[go_sem,i49,aF];refine aX [0,3,4,5,6,7,8,9,10,41] fun e1 TU=> ?_
 simp only[go_sem] at TU;cases l with
 |true=>
  obtain rfl:v=false:=by rw[<- hv];simp[aK]
  simp only[go_sem,TU]
 |false=>
  simp only[go_sem,TU];refine aX [0,3,4,5,6,7,8,9,10,53] fun e2 TO=> ?_
  simp only[go_sem,TU] at TO;cases o with
  |true=>
   obtain rfl:v=false:=by rw[<- hv];simp[aK]
   simp only[go_sem,TO]
  |false=>
   simp only[go_sem,TO];refine aX [0,3,4,5,6,7,8,9,10,60] fun e3 TN=> ?_
   simp only[go_sem,TO] at TN;by_cases hs:sg=0
   rotate_left
   ·have Vz:=(nN hs).1;have Ur:=(nN hs).2;obtain rfl:v=false:=by rw[<- hv];simp[aK,hs]
    simp only[go_sem,TN,Ur]
   subst hs;cases hA:mU ls.length a with
   |true=>
    have pA:=gy hA;simp only[go_sem,s74,TN,aw pA];refine fA [0,3,4,6,7,9,92] fun e4 TZ=> ?_
    simp only[go_sem,TN] at TZ;by_cases XN:0<=b
    rotate_left
    ·obtain rfl:v=false:=by rw[<- hv];simp[aK,hA,XN]
     simp only[go_sem,TZ,XN];exact au
    simp only[go_sem,TZ,XN];refine fA [0,3,4,6,7,9,101] fun e5 UZ=> ?_
    simp only[go_sem,TZ] at UZ;by_cases YK:b<=(F:Int)
    rotate_left
    ·obtain rfl:v=false:=by rw[<- hv];simp[aK,hA,XN,YK]
     simp only[go_sem,UZ,YK];exact au
    obtain⟨B,rfl⟩:=aa8 XN;have hBF:B<=F:=by omega
    have Wu:=cN (iZ (ls:=ls) hBF);have h5:B<F+1:=by omega
    have h6:(counts ls F).length=F+1:=by simp[counts]
    simp only[go_sem,UZ,YK];refine fA [0,3,4,6,7,9,106] fun e6 hh6=> ?_
    simp only[go_sem,UZ] at hh6;by_cases hC1:0<=c
    rotate_left
    ·obtain rfl:v=false:=by rw[<- hv];simp[aK,hA,XN,YK,hC1]
     simp only[go_sem,hh6,hC1];exact au
    by_cases hC2:c<=(cg ls B:Int)
    rotate_left
    ·obtain rfl:v=false:=by rw[<- hv];simp[aK,hA,XN,YK,hC1,hC2]
     simp only[go_sem,Wu,hh6,hC1,hC2];exact au
    obtain rfl:v=true:=by rw[<- hv];simp[aK,hA,XN,YK,hC1,hC2]
    simp only[go_sem,Wu,hh6,hC1,hC2];exact au
   |false=>
    have pA:=gy hA;by_cases hn:ls.length=0
    rotate_left
    ·have YW:((ls.length:Int)==0)=false:=beq_false_of_ne (by omega);have hn3:ls≠[]:=fun h=>hn (by rw[h];rfl)
     obtain rfl:v=false:=by rw[<- hv];simp[aK,hA,hn]
     simp only[go_sem,s74,TN,aw pA,YW];exact au
    have YW:((ls.length:Int)==0)=true:=by rw[hn];rfl
    have hn3:=adf.mp hn;by_cases ha:a=0
    rotate_left
    ·have ha1:=(nN ha).1;obtain rfl:v=false:=by rw[<- hv];simp[aK,hn3,ha,show mU 0 a=false by rw[<- hn];exact hA]
     simp only[go_sem,s74,TN,aw pA,YW,ha1];exact au
    subst ha;simp only[go_sem,s74,TN,aw pA,YW];refine fA [0,3,4,6,7,9,92] fun e7 hh7=> ?_
    simp only[go_sem,TN] at hh7;by_cases XN:0<=b
    rotate_left
    ·obtain rfl:v=false:=by rw[<- hv];simp[aK,hn,XN]
     simp only[go_sem,hh7,XN];exact au
    simp only[go_sem,hh7,XN];refine fA [0,3,4,6,7,9,101] fun e8 hh8=> ?_
    simp only[go_sem,hh7] at hh8;by_cases YK:b<=(F:Int)
    rotate_left
    ·obtain rfl:v=false:=by rw[<- hv];simp[aK,hn,XN,YK]
     simp only[go_sem,hh8,YK];exact au
    obtain⟨B,rfl⟩:=aa8 XN;have hBF:B<=F:=by omega
    have Wu:=cN (iZ (ls:=ls) hBF);have h5:B<F+1:=by omega
    have h6:(counts ls F).length=F+1:=by simp[counts]
    simp only[go_sem,hh8,YK];refine fA [0,3,4,6,7,9,106] fun e9 hh9=> ?_
    simp only[go_sem,hh8] at hh9;by_cases hC1:0<=c
    rotate_left
    ·obtain rfl:v=false:=by rw[<- hv];simp[aK,hn,XN,YK,hC1]
     simp only[go_sem,hh9,hC1];exact au
    by_cases hC2:c<=(cg ls B:Int)
    rotate_left
    ·obtain rfl:v=false:=by rw[<- hv];simp[aK,hn,XN,YK,hC1,hC2]
     simp only[go_sem,Wu,hh9,hC1,hC2];exact au
    obtain rfl:v=true:=by rw[<- hv];simp[aK,hn,XN,YK,hC1,hC2]
    simp only[go_sem,Wu,hh9,hC1,hC2];exact au
theorem O4:aH S 49 [.one (.p (ew F ls)),dL 3 a b c l o sg] (rb (aK F ls 3 a b c l o sg)):=by
 obtain⟨v,hv⟩: ∃ v,aK F ls 3 a b c l o sg=v:=⟨_,rfl⟩;rw[hv];refine aG c49 ?_;simp only[go_sem,i49,aF];refine aX [0,3,4,5,6,7,8,9,10,41] fun e1 TU=> ?_
 simp only[go_sem] at TU;cases l with
 |true=>
  obtain rfl:v=false:=by rw[<- hv];simp[aK]
  simp only[go_sem,TU]
 |false=>
  simp only[go_sem,TU];refine aX [0,3,4,5,6,7,8,9,10,53] fun e2 TO=> ?_
  simp only[go_sem,TU] at TO;cases o with
  |true=>
   obtain rfl:v=false:=by rw[<- hv];simp[aK]
   simp only[go_sem,TO]
  |false=>
   simp only[go_sem,TO];refine aX [0,3,4,5,6,7,8,9,10,60] fun e3 TN=> ?_
   simp only[go_sem,TO] at TN;by_cases hs:sg=0
   rotate_left
   ·have Vz:=(nN hs).1;have Ur:=(nN hs).2;obtain rfl:v=false:=by rw[<- hv];simp[aK,hs]
    simp only[go_sem,TN,Ur]
   subst hs;cases hA:mU ls.length a with
   |false=>
    have pA:=gy hA;obtain rfl:v=false:=by rw[<- hv];simp[aK,hA]
    simp only[go_sem,s74,TN,aa pA]
   |true=>
    have pA:=gy hA;simp only[go_sem,s74,TN,aa pA];refine aX [3,4,6,7,9,142] fun e4 TZ=> ?_
    simp only[go_sem,TN] at TZ;by_cases hc:c=0
    rotate_left
    ·have UP:=(nN hc).2;obtain rfl:v=false:=by rw[<- hv];simp[aK,hA,hc]
     simp only[go_sem,TZ,UP]
    subst hc;cases hB:mU ls.length b with
    |false=>
     have pB:=gy hB;obtain rfl:v=false:=by rw[<- hv];simp[aK,hA,hB]
     simp only[go_sem,s74,TZ,aa pB]
    |true=>
     have pB:=gy hB;simp only[go_sem,s74,TZ,aa pB];refine aX [3,4,7,172,178] fun e5 UZ=> ?_
     simp only[go_sem,TZ] at UZ;by_cases hl:a<b
     rotate_left
     ·obtain rfl:v=false:=by rw[<- hv];simp[aK,hA,hB,hl]
      simp only[go_sem,UZ,hl]
     obtain rfl:v=true:=by rw[<- hv];simp[aK,hA,hB,hl]
     simp only[go_sem,UZ,hl]
theorem O3:aH S 49 [.one (.p (ew F ls)),dL 4 a b c l o sg] (rb (aK F ls 4 a b c l o sg)):=by
 obtain⟨v,hv⟩: ∃ v,aK F ls 4 a b c l o sg=v:=⟨_,rfl⟩;rw[hv];refine aG c49 ?_;simp only[go_sem,i49,aF];refine aX [0,3,4,5,6,7,8,9,10,41] fun e1 TU=> ?_
 simp only[go_sem] at TU;cases l with
 |true=>
  obtain rfl:v=false:=by rw[<- hv];simp[aK]
  simp only[go_sem,TU]
 |false=>
  simp only[go_sem,TU];refine aX [0,3,4,5,6,7,8,9,10,53] fun e2 TO=> ?_
  simp only[go_sem,TU] at TO;cases o with
  |true=>
   obtain rfl:v=false:=by rw[<- hv];simp[aK]
   simp only[go_sem,TO]
  |false=>
   simp only[go_sem,TO];refine aX [0,3,4,5,6,7,8,9,10,60] fun e3 TN=> ?_
   simp only[go_sem,TO] at TN;by_cases hs:sg=0
   rotate_left
   ·have Vz:=(nN hs).1;have Ur:=(nN hs).2;obtain rfl:v=false:=by rw[<- hv];simp[aK,hs]
    simp only[go_sem,TN,Ur]
   subst hs;cases hA:mU ls.length a with
   |false=>
    have pA:=gy hA;obtain rfl:v=false:=by rw[<- hv];simp[aK,hA]
    simp only[go_sem,s74,TN,aa pA]
   |true=>
    have pA:=gy hA;simp only[go_sem,s74,TN,aa pA];refine aX [3,4,6,7,9,133] fun e4 TZ=> ?_
    simp only[go_sem,TN] at TZ;by_cases hb:b=0
    rotate_left
    ·have Tw:=(nN hb).2;obtain rfl:v=false:=by rw[<- hv];simp[aK,hA,hb]
     simp only[go_sem,TZ,Tw]
    subst hb;simp only[go_sem,TZ];refine aX [3,4,6,7,9,142] fun e5 UZ=> ?_
    simp only[go_sem,TZ] at UZ;by_cases hc:c=0
    rotate_left
    ·have UP:=(nN hc).2;obtain rfl:v=false:=by rw[<- hv];simp[aK,hA,hc]
     simp only[go_sem,UZ,UP]
    subst hc;obtain rfl:v=true:=by rw[<- hv];simp[aK,hA]
    simp only[go_sem,UZ]
theorem O2:aH S 49 [.one (.p (ew F ls)),dL 5 a b c l o sg] (rb (aK F ls 5 a b c l o sg)):=by
 obtain⟨v,hv⟩: ∃ v,aK F ls 5 a b c l o sg=v:=⟨_,rfl⟩;rw[hv];refine aG c49 ?_;simp only[go_sem,i49,aF];refine aX [0,3,4,5,6,7,8,9,10,41] fun e1 TU=> ?_
 simp only[go_sem] at TU;cases l with
 |true=>
  obtain rfl:v=false:=by rw[<- hv];simp[aK]
  simp only[go_sem,TU]
 |false=>
  simp only[go_sem,TU];refine aX [0,3,4,5,6,7,8,9,10,60] fun e2 TO=> ?_
  simp only[go_sem,TU] at TO;by_cases q0:sg=0
  ·subst q0;obtain rfl:v=false:=by rw[<- hv];simp[aK]
   simp only[go_sem,TO]
  by_cases q1:sg=1
  rotate_left;by_cases q2:sg= -1
  rotate_left
  ·have h00:=(nN q0).2;have Ui:=(GR q1).2;have Y7:=(GR q2).2;obtain rfl:v=false:=by rw[<- hv];simp[aK,q1,q2]
   simp only[go_sem,TO,h00,Ui,Y7]
  ·subst q1;cases hA:mU ls.length a with
   |false=>
    have pA:=gy hA;obtain rfl:v=false:=by rw[<- hv];simp[aK,hA]
    simp only[go_sem,s74,TO,aa pA]
   |true=>
    have pA:=gy hA;simp only[go_sem,s74,TO,aa pA];refine aX [3,4,6,7,9,133] fun e3 TN=> ?_
    simp only[go_sem,TO] at TN;by_cases hb:b=0
    rotate_left
    ·have Tw:=(nN hb).2;obtain rfl:v=false:=by rw[<- hv];simp[aK,hA,hb]
     simp only[go_sem,TN,Tw]
    subst hb;simp only[go_sem,TN];refine aX [3,4,6,7,9,142] fun e4 TZ=> ?_
    simp only[go_sem,TN] at TZ;by_cases hc:c=0
    rotate_left
    ·have UP:=(nN hc).2;obtain rfl:v=false:=by rw[<- hv];simp[aK,hA,hc]
     simp only[go_sem,TZ,UP]
    subst hc;obtain rfl:v=true:=by rw[<- hv];simp[aK,hA]
    simp only[go_sem,TZ]
  ·subst q2;cases hA:mU ls.length a with
   |false=>
    have pA:=gy hA;obtain rfl:v=false:=by rw[<- hv];simp[aK,hA]
    simp only[go_sem,s74,TO,aa pA]
   |true=>
    have pA:=gy hA;simp only[go_sem,s74,TO,aa pA];refine aX [3,4,6,7,9,133] fun e5 UZ=> ?_
    simp only[go_sem,TO] at UZ;by_cases hb:b=0
    rotate_left
    ·have Tw:=(nN hb).2;obtain rfl:v=false:=by rw[<- hv];simp[aK,hA,hb]
     simp only[go_sem,UZ,Tw]
    subst hb;simp only[go_sem,UZ];refine aX [3,4,6,7,9,142] fun e6 hh6=> ?_
    simp only[go_sem,UZ] at hh6;by_cases hc:c=0
    rotate_left
    ·have UP:=(nN hc).2;obtain rfl:v=false:=by rw[<- hv];simp[aK,hA,hc]
     simp only[go_sem,hh6,UP]
    subst hc;obtain rfl:v=true:=by rw[<- hv];simp[aK,hA]
    simp only[go_sem,hh6]
end
end Go.Abs
