/- A part. -/
import Derived.Test.YtfgognempokgkaaGreatDoorWw
set_option linter.all false
set_option maxRecDepth 100000
set_option maxHeartbeats 16000000
namespace Go.Abs
section
variable{ls:List Let}{F:Nat}







section
attribute [local go_sem ↓] fm1 fm2
def aV(F:Nat)(ls:List Let)(k a b c:Int)(l o:Bool)(sg:Int):Bool:=
 if k=2 then !l&&(!o&&(sg==0&&((gO ls.length a||(ls.length==0&&a==0))&&(decide (0<=b)&&(decide (b<=(F:Int))&&(decide (0<=c)&&decide (c<=(cg ls b.toNat:Int))))))))
 else if k=3\/k=6 then !l&&(!o&&(sg==0&&(gO ls.length a&&(c==0&&(gO ls.length b&&decide (a<b))))))
 else if k=5 then !l&&((sg==1||sg== -1)&&(gO ls.length a&&(b==0&&c==0)))
 else if k=7 then sg==0&&(gO ls.length a&&(c==0&&(gO ls.length b&& !(a==b))))
 else if k=8 then !l&&(!o&&(sg==0&&(gO ls.length a&&(gO ls.length b&&(gO ls.length c&&(decide (a<b)&&decide (b<c)))))))
 else if k=1\/k=4\/k=9\/k=10 then !l&&(!o&&(sg==0&&(gO ls.length a&&(b==0&&c==0))))
 else false
theorem ij{i:Int}{x:Bool}(h:gO ls.length i=x):aE S 53 [vi i,.one (.p (.box [.int .i64 ls.length]))] (rb x):=h▸Tz i ls.length
theorem gw{x:Int}(h:¬x=0):(x==0)=false/\(x !=0)=true:=by simp[h]
theorem rK{x y:Int}(h:¬x=y):(x==y)=false/\(x !=y)=true:=by simp[h]
section
variable {F:Nat} {ls:List Let} {a b c:Int} {l o:Bool} {sg:Int}
theorem Xt:aE S 35 [.one (.p (cE F ls)),fc 1 a b c l o sg] (rb (aV F ls 1 a b c l o sg)):=by
 obtain⟨v,hv⟩:∃v,aV F ls 1 a b c l o sg=v:=⟨_,rfl⟩;rw[hv];refine bd c35 ?_;simp only[go_sem,i35,eI];refine dG [0,3,4,5,6,7,8,9,10,41] fun e1 cT=>?_;simp only[go_sem] at cT;cases l with
 |true=>
  obtain rfl:v=false:=by rw[<- hv];simp[aV]
  simp only[go_sem,cT]
 |false=>
  simp only[go_sem,cT];refine dG [0,3,4,5,6,7,8,9,10,53] fun e2 cK=>?_;simp only[go_sem,cT] at cK;cases o with
  |true=>
   obtain rfl:v=false:=by rw[<- hv];simp[aV]
   simp only[go_sem,cK]
  |false=>
   simp only[go_sem,cK];refine dG [0,3,4,5,6,7,8,9,10,60] fun e3 cF=>?_;simp only[go_sem,cK] at cF;by_cases hs:sg=0
   rotate_left
   .have jS:=(gw hs).1;have eP:=(gw hs).2;obtain rfl:v=false:=by rw[<- hv];simp[aV,hs]
    simp only[go_sem,cF,eP]
   subst hs;cases hA:gO ls.length a with
   |false=>
    have pA:=ij hA;obtain rfl:v=false:=by rw[<- hv];simp[aV,hA]
    simp only[go_sem,s53,cF,bY pA]
   |true=>
    have pA:=ij hA;simp only[go_sem,s53,cF,bY pA];refine dG [3,4,6,7,9,133] fun e4 dk=>?_;simp only[go_sem,cF] at dk;by_cases hb:b=0
    rotate_left
    .have aQ:=(gw hb).2;obtain rfl:v=false:=by rw[<- hv];simp[aV,hA,hb]
     simp only[go_sem,dk,aQ]
    subst hb;simp only[go_sem,dk];refine dG [3,4,6,7,9,142] fun e5 hU=>?_;simp only[go_sem,dk] at hU;by_cases hc:c=0
    rotate_left
    .have fC:=(gw hc).2;obtain rfl:v=false:=by rw[<- hv];simp[aV,hA,hc]
     simp only[go_sem,hU,fC]
    subst hc;obtain rfl:v=true:=by rw[<- hv];simp[aV,hA]
    simp only[go_sem,hU]
theorem Xu:aE S 35 [.one (.p (cE F ls)),fc 2 a b c l o sg] (rb (aV F ls 2 a b c l o sg)):=by
 obtain⟨v,hv⟩:∃v,aV F ls 2 a b c l o sg=v:=⟨_,rfl⟩;rw[hv];refine bd c35 ?_;simp only[go_sem,i35,eI];refine dG [0,3,4,5,6,7,8,9,10,41] fun e1 cT=>?_;simp only[go_sem] at cT;cases l with
 |true=>
  obtain rfl:v=false:=by rw[<- hv];simp[aV]
  simp only[go_sem,cT]
 |false=>
  simp only[go_sem,cT];refine dG [0,3,4,5,6,7,8,9,10,53] fun e2 cK=>?_;simp only[go_sem,cT] at cK;cases o with
  |true=>
   obtain rfl:v=false:=by rw[<- hv];simp[aV]
   simp only[go_sem,cK]
  |false=>
   simp only[go_sem,cK];refine dG [0,3,4,5,6,7,8,9,10,60] fun e3 cF=>?_;simp only[go_sem,cK] at cF;by_cases hs:sg=0
   rotate_left
   .have jS:=(gw hs).1;have eP:=(gw hs).2;obtain rfl:v=false:=by rw[<- hv];simp[aV,hs]
    simp only[go_sem,cF,eP]
   subst hs;cases hA:gO ls.length a with
   |true=>
    have pA:=ij hA;simp only[go_sem,s53,cF,kn pA];refine mY [0,3,4,6,7,9,92] fun e4 dk=>?_;simp only[go_sem,cF] at dk;by_cases nW:0<=b
    rotate_left
    .obtain rfl:v=false:=by rw[<- hv];simp[aV,hA,nW]
     simp only[go_sem,dk,nW];exact ay
    simp only[go_sem,dk,nW];refine mY [0,3,4,6,7,9,101] fun e5 hU=>?_;simp only[go_sem,dk] at hU;by_cases qd:b<=(F:Int)
    rotate_left
    .obtain rfl:v=false:=by rw[<- hv];simp[aV,hA,nW,qd]
     simp only[go_sem,hU,qd];exact ay
    obtain⟨B,rfl⟩:=nG nW;have hBF:B<=F:=aa;have l6:=fv (zZ (ls:=ls) hBF);have h5:B<F+1:=aa;have h6:(counts ls F).length=F+1:=by simp[counts]
    simp only[go_sem,hU,qd];refine mY [0,3,4,6,7,9,106] fun e6 yH=>?_;simp only[go_sem,hU] at yH;by_cases rU:0<=c
    rotate_left
    .obtain rfl:v=false:=by rw[<- hv];simp[aV,hA,nW,qd,rU]
     simp only[go_sem,yH,rU];exact ay
    by_cases ti:c<=(cg ls B:Int)
    rotate_left
    .obtain rfl:v=false:=by rw[<- hv];simp[aV,hA,nW,qd,rU,ti]
     simp only[go_sem,l6,yH,rU,ti];exact ay
    obtain rfl:v=true:=by rw[<- hv];simp[aV,hA,nW,qd,rU,ti]
    simp only[go_sem,l6,yH,rU,ti];exact ay
   |false=>
    have pA:=ij hA;by_cases hn:ls.length=0
    rotate_left
    .have tA:((ls.length:Int)==0)=false:=beq_false_of_ne aa;have FO:ls≠[]:=fun h=>hn (by rw[h];rfl);obtain rfl:v=false:=by rw[<- hv];simp[aV,hA,hn]
     simp only[go_sem,s53,cF,kn pA,tA];exact ay
    have tA:((ls.length:Int)==0)=true:=by rw[hn];rfl
    have FO:=List.length_eq_zero_iff.mp hn;by_cases ha:a=0
    rotate_left
    .have uq:=(gw ha).1;obtain rfl:v=false:=by rw[<- hv];simp[aV,FO,ha,show gO 0 a=false by rw[<- hn];exact hA]
     simp only[go_sem,s53,cF,kn pA,tA,uq];exact ay
    subst ha;simp only[go_sem,s53,cF,kn pA,tA];refine mY [0,3,4,6,7,9,92] fun e7 hh7=>?_;simp only[go_sem,cF] at hh7;by_cases nW:0<=b
    rotate_left
    .obtain rfl:v=false:=by rw[<- hv];simp[aV,hn,nW]
     simp only[go_sem,hh7,nW];exact ay
    simp only[go_sem,hh7,nW];refine mY [0,3,4,6,7,9,101] fun e8 hh8=>?_;simp only[go_sem,hh7] at hh8;by_cases qd:b<=(F:Int)
    rotate_left
    .obtain rfl:v=false:=by rw[<- hv];simp[aV,hn,nW,qd]
     simp only[go_sem,hh8,qd];exact ay
    obtain⟨B,rfl⟩:=nG nW;have hBF:B<=F:=aa;have l6:=fv (zZ (ls:=ls) hBF);have h5:B<F+1:=aa;have h6:(counts ls F).length=F+1:=by simp[counts]
    simp only[go_sem,hh8,qd];refine mY [0,3,4,6,7,9,106] fun e9 hh9=>?_;simp only[go_sem,hh8] at hh9;by_cases rU:0<=c
    rotate_left
    .obtain rfl:v=false:=by rw[<- hv];simp[aV,hn,nW,qd,rU]
     simp only[go_sem,hh9,rU];exact ay
    by_cases ti:c<=(cg ls B:Int)
    rotate_left
    .obtain rfl:v=false:=by rw[<- hv];simp[aV,hn,nW,qd,rU,ti]
     simp only[go_sem,l6,hh9,rU,ti];exact ay
    obtain rfl:v=true:=by rw[<- hv];simp[aV,hn,nW,qd,rU,ti]
    simp only[go_sem,l6,hh9,rU,ti];exact ay
theorem Xv:aE S 35 [.one (.p (cE F ls)),fc 3 a b c l o sg] (rb (aV F ls 3 a b c l o sg)):=by
 obtain⟨v,hv⟩:∃v,aV F ls 3 a b c l o sg=v:=⟨_,rfl⟩;rw[hv];refine bd c35 ?_;simp only[go_sem,i35,eI];refine dG [0,3,4,5,6,7,8,9,10,41] fun e1 cT=>?_;simp only[go_sem] at cT;cases l with
 |true=>
  obtain rfl:v=false:=by rw[<- hv];simp[aV]
  simp only[go_sem,cT]
 |false=>
  simp only[go_sem,cT];refine dG [0,3,4,5,6,7,8,9,10,53] fun e2 cK=>?_;simp only[go_sem,cT] at cK;cases o with
  |true=>
   obtain rfl:v=false:=by rw[<- hv];simp[aV]
   simp only[go_sem,cK]
  |false=>
   simp only[go_sem,cK];refine dG [0,3,4,5,6,7,8,9,10,60] fun e3 cF=>?_;simp only[go_sem,cK] at cF;by_cases hs:sg=0
   rotate_left
   .have jS:=(gw hs).1;have eP:=(gw hs).2;obtain rfl:v=false:=by rw[<- hv];simp[aV,hs]
    simp only[go_sem,cF,eP]
   subst hs;cases hA:gO ls.length a with
   |false=>
    have pA:=ij hA;obtain rfl:v=false:=by rw[<- hv];simp[aV,hA]
    simp only[go_sem,s53,cF,bY pA]
   |true=>
    have pA:=ij hA;simp only[go_sem,s53,cF,bY pA];refine dG [3,4,6,7,9,142] fun e4 dk=>?_;simp only[go_sem,cF] at dk;by_cases hc:c=0
    rotate_left
    .have fC:=(gw hc).2;obtain rfl:v=false:=by rw[<- hv];simp[aV,hA,hc]
     simp only[go_sem,dk,fC]
    subst hc;cases hB:gO ls.length b with
    |false=>
     have pB:=ij hB;obtain rfl:v=false:=by rw[<- hv];simp[aV,hA,hB]
     simp only[go_sem,s53,dk,bY pB]
    |true=>
     have pB:=ij hB;simp only[go_sem,s53,dk,bY pB];refine dG [3,4,7,172,178] fun e5 hU=>?_;simp only[go_sem,dk] at hU;by_cases hl:a<b
     rotate_left
     .obtain rfl:v=false:=by rw[<- hv];simp[aV,hA,hB,hl]
      simp only[go_sem,hU,hl]
     obtain rfl:v=true:=by rw[<- hv];simp[aV,hA,hB,hl]
     simp only[go_sem,hU,hl]
theorem Xw:aE S 35 [.one (.p (cE F ls)),fc 4 a b c l o sg] (rb (aV F ls 4 a b c l o sg)):=by
 obtain⟨v,hv⟩:∃v,aV F ls 4 a b c l o sg=v:=⟨_,rfl⟩;rw[hv];refine bd c35 ?_;simp only[go_sem,i35,eI];refine dG [0,3,4,5,6,7,8,9,10,41] fun e1 cT=>?_;simp only[go_sem] at cT;cases l with
 |true=>
  obtain rfl:v=false:=by rw[<- hv];simp[aV]
  simp only[go_sem,cT]
 |false=>
  simp only[go_sem,cT];refine dG [0,3,4,5,6,7,8,9,10,53] fun e2 cK=>?_;simp only[go_sem,cT] at cK;cases o with
  |true=>
   obtain rfl:v=false:=by rw[<- hv];simp[aV]
   simp only[go_sem,cK]
  |false=>
   simp only[go_sem,cK];refine dG [0,3,4,5,6,7,8,9,10,60] fun e3 cF=>?_;simp only[go_sem,cK] at cF;by_cases hs:sg=0
   rotate_left
   .have jS:=(gw hs).1;have eP:=(gw hs).2;obtain rfl:v=false:=by rw[<- hv];simp[aV,hs]
    simp only[go_sem,cF,eP]
   subst hs;cases hA:gO ls.length a with
   |false=>
    have pA:=ij hA;obtain rfl:v=false:=by rw[<- hv];simp[aV,hA]
    simp only[go_sem,s53,cF,bY pA]
   |true=>
    have pA:=ij hA;simp only[go_sem,s53,cF,bY pA];refine dG [3,4,6,7,9,133] fun e4 dk=>?_;simp only[go_sem,cF] at dk;by_cases hb:b=0
    rotate_left
    .have aQ:=(gw hb).2;obtain rfl:v=false:=by rw[<- hv];simp[aV,hA,hb]
     simp only[go_sem,dk,aQ]
    subst hb;simp only[go_sem,dk];refine dG [3,4,6,7,9,142] fun e5 hU=>?_;simp only[go_sem,dk] at hU;by_cases hc:c=0
    rotate_left
    .have fC:=(gw hc).2;obtain rfl:v=false:=by rw[<- hv];simp[aV,hA,hc]
     simp only[go_sem,hU,fC]
    subst hc;obtain rfl:v=true:=by rw[<- hv];simp[aV,hA]
    simp only[go_sem,hU]
theorem Xx:aE S 35 [.one (.p (cE F ls)),fc 5 a b c l o sg] (rb (aV F ls 5 a b c l o sg)):=by
 obtain⟨v,hv⟩:∃v,aV F ls 5 a b c l o sg=v:=⟨_,rfl⟩;rw[hv];refine bd c35 ?_;simp only[go_sem,i35,eI];refine dG [0,3,4,5,6,7,8,9,10,41] fun e1 cT=>?_;simp only[go_sem] at cT;cases l with
 |true=>
  obtain rfl:v=false:=by rw[<- hv];simp[aV]
  simp only[go_sem,cT]
 |false=>
  simp only[go_sem,cT];refine dG [0,3,4,5,6,7,8,9,10,60] fun e2 cK=>?_;simp only[go_sem,cT] at cK;by_cases q0:sg=0
  .subst q0;obtain rfl:v=false:=by rw[<- hv];simp[aV]
   simp only[go_sem,cK]
  by_cases q1:sg=1
  rotate_left;by_cases q2:sg= -1
  rotate_left
  .have h00:=(gw q0).2;have hJ:=(rK q1).2;have rT:=(rK q2).2;obtain rfl:v=false:=by rw[<- hv];simp[aV,q1,q2]
   simp only[go_sem,cK,h00,hJ,rT]
  .subst q1;cases hA:gO ls.length a with
   |false=>
    have pA:=ij hA;obtain rfl:v=false:=by rw[<- hv];simp[aV,hA]
    simp only[go_sem,s53,cK,bY pA]
   |true=>
    have pA:=ij hA;simp only[go_sem,s53,cK,bY pA];refine dG [3,4,6,7,9,133] fun e3 cF=>?_;simp only[go_sem,cK] at cF;by_cases hb:b=0
    rotate_left
    .have aQ:=(gw hb).2;obtain rfl:v=false:=by rw[<- hv];simp[aV,hA,hb]
     simp only[go_sem,cF,aQ]
    subst hb;simp only[go_sem,cF];refine dG [3,4,6,7,9,142] fun e4 dk=>?_;simp only[go_sem,cF] at dk;by_cases hc:c=0
    rotate_left
    .have fC:=(gw hc).2;obtain rfl:v=false:=by rw[<- hv];simp[aV,hA,hc]
     simp only[go_sem,dk,fC]
    subst hc;obtain rfl:v=true:=by rw[<- hv];simp[aV,hA]
    simp only[go_sem,dk]
  subst q2;cases hA:gO ls.length a with
  |false=>
   have pA:=ij hA;obtain rfl:v=false:=by rw[<- hv];simp[aV,hA]
   simp only[go_sem,s53,cK,bY pA]
  |true=>
   have pA:=ij hA;simp only[go_sem,s53,cK,bY pA];refine dG [3,4,6,7,9,133] fun e5 hU=>?_;simp only[go_sem,cK] at hU;by_cases hb:b=0
   rotate_left
   .have aQ:=(gw hb).2;obtain rfl:v=false:=by rw[<- hv];simp[aV,hA,hb]
    simp only[go_sem,hU,aQ]
   subst hb;simp only[go_sem,hU];refine dG [3,4,6,7,9,142] fun e6 yH=>?_;simp only[go_sem,hU] at yH;by_cases hc:c=0
   rotate_left
   .have fC:=(gw hc).2;obtain rfl:v=false:=by rw[<- hv];simp[aV,hA,hc]
    simp only[go_sem,yH,fC]
   subst hc;obtain rfl:v=true:=by rw[<- hv];simp[aV,hA]
   simp only[go_sem,yH]
end
end
section
attribute [local go_sem ↓] fm1 fm2
section
variable {F:Nat} {ls:List Let} {a b c:Int} {l o:Bool} {sg:Int}
theorem Xy:aE S 35 [.one (.p (cE F ls)),fc 6 a b c l o sg] (rb (aV F ls 6 a b c l o sg)):=by
 obtain⟨v,hv⟩:∃v,aV F ls 6 a b c l o sg=v:=⟨_,rfl⟩;rw[hv];refine bd c35 ?_;simp only[go_sem,i35,eI];refine dG [0,3,4,5,6,7,8,9,10,41] fun e1 cT=>?_;simp only[go_sem] at cT;cases l with
 |true=>
  obtain rfl:v=false:=by rw[<- hv];simp[aV]
  simp only[go_sem,cT]
 |false=>
  simp only[go_sem,cT];refine dG [0,3,4,5,6,7,8,9,10,53] fun e2 cK=>?_;simp only[go_sem,cT] at cK;cases o with
  |true=>
   obtain rfl:v=false:=by rw[<- hv];simp[aV]
   simp only[go_sem,cK]
  |false=>
   simp only[go_sem,cK];refine dG [0,3,4,5,6,7,8,9,10,60] fun e3 cF=>?_;simp only[go_sem,cK] at cF;by_cases hs:sg=0
   rotate_left
   .have jS:=(gw hs).1;have eP:=(gw hs).2;obtain rfl:v=false:=by rw[<- hv];simp[aV,hs]
    simp only[go_sem,cF,eP]
   subst hs;cases hA:gO ls.length a with
   |false=>
    have pA:=ij hA;obtain rfl:v=false:=by rw[<- hv];simp[aV,hA]
    simp only[go_sem,s53,cF,bY pA]
   |true=>
    have pA:=ij hA;simp only[go_sem,s53,cF,bY pA];refine dG [3,4,6,7,9,142] fun e4 dk=>?_;simp only[go_sem,cF] at dk;by_cases hc:c=0
    rotate_left
    .have fC:=(gw hc).2;obtain rfl:v=false:=by rw[<- hv];simp[aV,hA,hc]
     simp only[go_sem,dk,fC]
    subst hc;cases hB:gO ls.length b with
    |false=>
     have pB:=ij hB;obtain rfl:v=false:=by rw[<- hv];simp[aV,hA,hB]
     simp only[go_sem,s53,dk,bY pB]
    |true=>
     have pB:=ij hB;simp only[go_sem,s53,dk,bY pB];refine dG [3,4,7,172,178] fun e5 hU=>?_;simp only[go_sem,dk] at hU;by_cases hl:a<b
     rotate_left
     .obtain rfl:v=false:=by rw[<- hv];simp[aV,hA,hB,hl]
      simp only[go_sem,hU,hl]
     obtain rfl:v=true:=by rw[<- hv];simp[aV,hA,hB,hl]
     simp only[go_sem,hU,hl]
theorem Xz:aE S 35 [.one (.p (cE F ls)),fc 7 a b c l o sg] (rb (aV F ls 7 a b c l o sg)):=by
 obtain⟨v,hv⟩:∃v,aV F ls 7 a b c l o sg=v:=⟨_,rfl⟩;rw[hv];refine bd c35 ?_;simp only[go_sem,i35,eI];refine dG [0,3,4,5,6,7,8,9,10,60] fun e1 cT=>?_;simp only[go_sem] at cT;by_cases hs:sg=0
 rotate_left
 .have jS:=(gw hs).1;have eP:=(gw hs).2;obtain rfl:v=false:=by rw[<- hv];simp[aV,hs]
  simp only[go_sem,cT,eP]
 subst hs;cases hA:gO ls.length a with
 |false=>
  have pA:=ij hA;obtain rfl:v=false:=by rw[<- hv];simp[aV,hA]
  simp only[go_sem,s53,cT,bY pA]
 |true=>
  have pA:=ij hA;simp only[go_sem,s53,cT,bY pA];refine dG [3,4,6,7,9,142] fun e2 cK=>?_;simp only[go_sem,cT] at cK;by_cases hc:c=0
  rotate_left
  .have fC:=(gw hc).2;obtain rfl:v=false:=by rw[<- hv];simp[aV,hA,hc]
   simp only[go_sem,cK,fC]
  subst hc;cases hB:gO ls.length b with
  |false=>
   have pB:=ij hB;obtain rfl:v=false:=by rw[<- hv];simp[aV,hA,hB]
   simp only[go_sem,s53,cK,bY pB]
  |true=>
   have pB:=ij hB;simp only[go_sem,s53,cK,bY pB];by_cases hn:a=b
   .subst hn;obtain rfl:v=false:=by rw[<- hv];simp[aV,hA]
    simp only[go_sem]
   have fV:=(rK hn).2;obtain rfl:v=true:=by rw[<- hv];simp[aV,hA,hB,hn]
   simp only[go_sem,fV]
theorem XA:aE S 35 [.one (.p (cE F ls)),fc 8 a b c l o sg] (rb (aV F ls 8 a b c l o sg)):=by
 obtain⟨v,hv⟩:∃v,aV F ls 8 a b c l o sg=v:=⟨_,rfl⟩;rw[hv];refine bd c35 ?_;simp only[go_sem,i35,eI];refine dG [0,3,4,5,6,7,8,9,10,41] fun e1 cT=>?_;simp only[go_sem] at cT;cases l with
 |true=>
  obtain rfl:v=false:=by rw[<- hv];simp[aV]
  simp only[go_sem,cT]
 |false=>
  simp only[go_sem,cT];refine dG [0,3,4,5,6,7,8,9,10,53] fun e2 cK=>?_;simp only[go_sem,cT] at cK;cases o with
  |true=>
   obtain rfl:v=false:=by rw[<- hv];simp[aV]
   simp only[go_sem,cK]
  |false=>
   simp only[go_sem,cK];refine dG [0,3,4,5,6,7,8,9,10,60] fun e3 cF=>?_;simp only[go_sem,cK] at cF;by_cases hs:sg=0
   rotate_left
   .have jS:=(gw hs).1;have eP:=(gw hs).2;obtain rfl:v=false:=by rw[<- hv];simp[aV,hs]
    simp only[go_sem,cF,eP]
   subst hs;cases hA:gO ls.length a with
   |false=>
    have pA:=ij hA;obtain rfl:v=false:=by rw[<- hv];simp[aV,hA]
    simp only[go_sem,s53,cF,bY pA]
   |true=>
    have pA:=ij hA;simp only[go_sem,s53,cF,bY pA];cases hB:gO ls.length b with
    |false=>
     have pB:=ij hB;obtain rfl:v=false:=by rw[<- hv];simp[aV,hA,hB]
     simp only[go_sem,cF,bY pB]
    |true=>
     have pB:=ij hB;cases hD:gO ls.length c with
     |false=>
      have pD:=ij hD;obtain rfl:v=false:=by rw[<- hv];simp[aV,hA,hB,hD]
      simp only[go_sem,s53,cF,bY pB,bY pD]
     |true=>
      have pD:=ij hD;simp only[go_sem,s53,cF,bY pB,bY pD];refine dG [3,4,7,172,178] fun e4 dk=>?_;simp only[go_sem,cF] at dk;by_cases hl:a<b
      rotate_left
      .obtain rfl:v=false:=by rw[<- hv];simp[aV,hA,hB,hD,hl]
       simp only[go_sem,dk,hl]
      by_cases hm:b<c
      rotate_left
      .obtain rfl:v=false:=by rw[<- hv];simp[aV,hA,hB,hD,hl,hm]
       simp only[go_sem,dk,hl,hm]
      obtain rfl:v=true:=by rw[<- hv];simp[aV,hA,hB,hD,hl,hm]
      simp only[go_sem,dk,hl,hm]
theorem XB:aE S 35 [.one (.p (cE F ls)),fc 9 a b c l o sg] (rb (aV F ls 9 a b c l o sg)):=by
 obtain⟨v,hv⟩:∃v,aV F ls 9 a b c l o sg=v:=⟨_,rfl⟩;rw[hv];refine bd c35 ?_;simp only[go_sem,i35,eI];refine dG [0,3,4,5,6,7,8,9,10,41] fun e1 cT=>?_;simp only[go_sem] at cT;cases l with
 |true=>
  obtain rfl:v=false:=by rw[<- hv];simp[aV]
  simp only[go_sem,cT]
 |false=>
  simp only[go_sem,cT];refine dG [0,3,4,5,6,7,8,9,10,53] fun e2 cK=>?_;simp only[go_sem,cT] at cK;cases o with
  |true=>
   obtain rfl:v=false:=by rw[<- hv];simp[aV]
   simp only[go_sem,cK]
  |false=>
   simp only[go_sem,cK];refine dG [0,3,4,5,6,7,8,9,10,60] fun e3 cF=>?_;simp only[go_sem,cK] at cF;by_cases hs:sg=0
   rotate_left
   .have jS:=(gw hs).1;have eP:=(gw hs).2;obtain rfl:v=false:=by rw[<- hv];simp[aV,hs]
    simp only[go_sem,cF,eP]
   subst hs;cases hA:gO ls.length a with
   |false=>
    have pA:=ij hA;obtain rfl:v=false:=by rw[<- hv];simp[aV,hA]
    simp only[go_sem,s53,cF,bY pA]
   |true=>
    have pA:=ij hA;simp only[go_sem,s53,cF,bY pA];refine dG [3,4,6,7,9,133] fun e4 dk=>?_;simp only[go_sem,cF] at dk;by_cases hb:b=0
    rotate_left
    .have aQ:=(gw hb).2;obtain rfl:v=false:=by rw[<- hv];simp[aV,hA,hb]
     simp only[go_sem,dk,aQ]
    subst hb;simp only[go_sem,dk];refine dG [3,4,6,7,9,142] fun e5 hU=>?_;simp only[go_sem,dk] at hU;by_cases hc:c=0
    rotate_left
    .have fC:=(gw hc).2;obtain rfl:v=false:=by rw[<- hv];simp[aV,hA,hc]
     simp only[go_sem,hU,fC]
    subst hc;obtain rfl:v=true:=by rw[<- hv];simp[aV,hA]
    simp only[go_sem,hU]
theorem Xs:aE S 35 [.one (.p (cE F ls)),fc 10 a b c l o sg] (rb (aV F ls 10 a b c l o sg)):=by
 obtain⟨v,hv⟩:∃v,aV F ls 10 a b c l o sg=v:=⟨_,rfl⟩;rw[hv];refine bd c35 ?_;simp only[go_sem,i35,eI];refine dG [0,3,4,5,6,7,8,9,10,41] fun e1 cT=>?_;simp only[go_sem] at cT;cases l with
 |true=>
  obtain rfl:v=false:=by rw[<- hv];simp[aV]
  simp only[go_sem,cT]
 |false=>
  simp only[go_sem,cT];refine dG [0,3,4,5,6,7,8,9,10,53] fun e2 cK=>?_;simp only[go_sem,cT] at cK;cases o with
  |true=>
   obtain rfl:v=false:=by rw[<- hv];simp[aV]
   simp only[go_sem,cK]
  |false=>
   simp only[go_sem,cK];refine dG [0,3,4,5,6,7,8,9,10,60] fun e3 cF=>?_;simp only[go_sem,cK] at cF;by_cases hs:sg=0
   rotate_left
   .have jS:=(gw hs).1;have eP:=(gw hs).2;obtain rfl:v=false:=by rw[<- hv];simp[aV,hs]
    simp only[go_sem,cF,eP]
   subst hs;cases hA:gO ls.length a with
   |false=>
    have pA:=ij hA;obtain rfl:v=false:=by rw[<- hv];simp[aV,hA]
    simp only[go_sem,s53,cF,bY pA]
   |true=>
    have pA:=ij hA;simp only[go_sem,s53,cF,bY pA];refine dG [3,4,6,7,9,133] fun e4 dk=>?_;simp only[go_sem,cF] at dk;by_cases hb:b=0
    rotate_left
    .have aQ:=(gw hb).2;obtain rfl:v=false:=by rw[<- hv];simp[aV,hA,hb]
     simp only[go_sem,dk,aQ]
    subst hb;simp only[go_sem,dk];refine dG [3,4,6,7,9,142] fun e5 hU=>?_;simp only[go_sem,dk] at hU;by_cases hc:c=0
    rotate_left
    .have fC:=(gw hc).2;obtain rfl:v=false:=by rw[<- hv];simp[aV,hA,hc]
     simp only[go_sem,hU,fC]
    subst hc;obtain rfl:v=true:=by rw[<- hv];simp[aV,hA]
    simp only[go_sem,hU]
theorem O4(k:Int):aE S 35 [.one (.p (cE F ls)),fc k a b c l o sg] (rb (aV F ls k a b c l o sg)):=by
 by_cases h1:k=1
 .subst h1;exact Xt
 by_cases h2:k=2
 .subst h2;exact Xu
 by_cases h3:k=3
 .subst h3;exact Xv
 by_cases h4:k=4
 .subst h4;exact Xw
 by_cases h5:k=5
 .subst h5;exact Xx
 by_cases h6:k=6
 .subst h6;exact Xy
 by_cases h7:k=7
 .subst h7;exact Xz
 by_cases h8:k=8
 .subst h8;exact XA
 by_cases h9:k=9
 .subst h9;exact XB
 by_cases dK:k=10
 .subst dK;exact Xs
 rw[show aV F ls k a b c l o sg=false by simp[aV,h1,h2,h3,h4,h5,h6,h7,h8,h9,dK]];have e1:=(rK h1).1;have e2:=(rK h2).1;have e3:=(rK h3).1;have e4:=(rK h4).1;have e5:=(rK h5).1;have e6:=(rK h6).1;have e7:=(rK h7).1;have e8:=(rK h8).1;have e9:=(rK h9).1;have Ep:=(rK dK).1;refine bd c35 ?_;simp only[go_sem,i35,eI,e1,e2,e3,e4,e5,e6,e7,e8,e9,Ep]
end
end
abbrev MY:List C:=[.p .fX,.p (.fn 54 [] []),.p (.fn 55 [] []),.p (.fn 56 [] []),.p (.fn 57 [] []),.p (.fn 58 [] []),.p (.fn 59 [] []),.p (.fn 60 [] []),.p (.fn 61 [] []),.p (.fn 62 [] []),.p (.fn 62 [] [])]
theorem aaw(k:Int):0<=(gZ k).1/\(gZ k).1<=4/\0<=(gZ k).2/\(gZ k).2<=2:=by
 unfold gZ;split
 .simp
 split
 .simp
 split<;>simp
theorem u3(hlen:ls.length<=400)(fD:aA Let.aC ls<=200){k f:Nat}{rest:List C}(hk:MY.drop k=.p (.fn f [] [])::rest)(nj:k<11)(CA:S.shared f=false){a b c:Int}{l o:Bool}{sg:Int}{res:Option (List Pc)}(ha:aE S 35 [.one (.p (cE F ls)),fc k a b c l o sg] (rb true))(hm:aE S f [.one (.p (cE F ls)),fc k a b c l o sg] (kR res))(hL:∀L,res=some L->L.length<=1000000):
  aE S 18 [.one (.p (cE F ls)),fc k a b c l o sg] (rJ F ls k res):=by
 have o0:=Sc F;have pg:=SI k;have qn:S.lone 1152192384=false:=ah;have vt:S.lone 1152576128=false:=ah;have Cu:∀(blk:aw),land blk [] 1152192000 ((RV.agg [.p .fX,.p (.fn 54 [] []),.p (.fn 55 [] []),.p (.fn 56 [] []),.p (.fn 57 [] []),.p (.fn 58 [] []),.p (.fn 59 [] []),.p (.fn 60 [] []),.p (.fn 61 [] []),.p (.fn 62 [] []),.p (.fn 62 [] [])]).fx (S.lone 1152192000))=some (.agg MY,[]):=fun blk=>by cases S.lone 1152192000<;>rfl
 have bq:=eI ls;obtain⟨g1,g2,g3,g4⟩:=aaw k;have lg:∀blk:aw,land blk [] 1152384128 ((RV.tup [.one (.p (.int .i64 (gZ k).1)),.one (.p (.int .i64 (gZ k).2))]).fx (S.lone 1152384128))=some (.tup [.one (.p (.int .i64 (gZ k).1)),.one (.p (.int .i64 (gZ k).2))],[]):=fun blk=>fE;obtain⟨EU,EW,yG⟩:∃x y,gZ k=(x,y):=⟨_,_,rfl⟩;have d4:rJ F ls k none=pH 4:=rfl;have d7:∀L,((400:Int)<(ls.length:Int)+EU\/(100:Int)<((aA Let.aC ls/2:Nat):Int)+EW)->rJ F ls k (some L)=pH 7:=fun L h=>by unfold rJ;rw[yG];exact if_pos h
 have d0:∀L,¬((400:Int)<(ls.length:Int)+EU\/(100:Int)<((aA Let.aC ls/2:Nat):Int)+EW)->rJ F ls k (some L)=rj F (pW L):=fun L h=>by unfold rJ;rw[yG];exact if_neg h
 rw[yG] at g1 g2 g3 g4 pg;simp only[yG] at lg;simp only at g1 g2 g3 g4 lg pg;have w1:IntKind.i64.wrap (((pieces ls).length:Int)+EU)=(ls.length:Int)+EU:=by rw[bq];exact nE aa aa
 have w2:IntKind.i64.wrap (((aA Let.aC ls/2:Nat):Int)+EW)=((aA Let.aC ls/2:Nat):Int)+EW:=nE aa aa;unfold kR at hm;generalize MY=kg at hk Cu;refine bd c18 ?_;simp only[go_sem,i18,s35,bY ha,s36,fp TE (Cu _),hk,nj,CA];refine Qd hm qn fun cc aW w gc hb hw=>?_;have b0:=hb 1152000000 ae;have b1:=hb 1152000064 ae;simp only[go_sem] at b0 b1;cases res with
 |none=>rw[d4];simp only[go_sem,b1];refine⟨?_,rfl⟩;rcases hw with rfl|rfl<;>kernel_rfl
 |some L=>
  simp only[kL] at gc;have pfin:=o0 L (hL L rfl) (.sl (aX (pieces ls))) (.sl (kr (cX F ls))) (.sl (nP (fQ F ls))) (.int .i64 (aA Let.aG ls:Nat)) (.int .i64 ((aA Let.aC ls/2:Nat):Int)) (.sl (nP (counts ls F)));obtain⟨rs,pC,_⟩:=gc.dD;by_cases h1:(400:Int)<(ls.length:Int)+EU
  .rw[d7 L (.inl h1)];simp only[go_sem,b0,b1,s37,cN pg (lg _),w1,h1];refine⟨?_,rfl⟩;rcases hw with rfl|rfl<;>kernel_rfl
  by_cases h2:(100:Int)<((aA Let.aC ls/2:Nat):Int)+EW
  .rw[d7 L (.inr h2)];simp only[go_sem,b0,b1,s37,cN pg (lg _),w1,w2,h1,h2];refine⟨?_,rfl⟩;rcases hw with rfl|rfl<;>kernel_rfl
  rw[d0 L (by rintro (h|h);exact h1 h;exact h2 h)];simp only[go_sem,b0,s37,cN pg (lg _),w1,w2,h1,h2,pC,s38];refine⟨?_,?_⟩
  .rcases hw with rfl|rfl<;>kernel_rfl
  refine Sy pfin vt rfl (Vj _) fun c2 aN oR aS=>?_;have b02:=(aS 1152000064 ae).trans b1;simp only[go_sem,b02];exact HL (oR.of_eq (aJ ae))
theorem Qk{k a b c:Int}{l o:Bool}{sg:Int}(ha:aE S 35 [.one (.p (cE F ls)),fc k a b c l o sg] (rb false)):aE S 18 [.one (.p (cE F ls)),fc k a b c l o sg] (pH 2):=by refine bd c18 ?_;simp only[go_sem,i18,s35,bY ha];try rfl
def mZ:List Int->List Int
 |[]=>[]
 |x::r=>if x∈r then mZ r else x::mZ r
theorem Qg{x:Int}:∀ {l:List Int},x∈mZ l↔x∈l:=by
 intro l
 induction l with
 |nil=>simp[mZ]
 |cons y r ih=>
  unfold mZ;split
  .rename_i h;rw[ih,dU];constructor
   .exact .inr
   rintro (rfl|h2)
   .exact h
   exact h2
  rw[dU,dU,ih]
theorem Y1:∀l:List Int,(mZ l).Nodup:=by
 intro l
 induction l with
 |nil=>exact List.nodup_nil
 |cons y r ih=>
  unfold mZ;split
  .exact ih
  rename_i h;exact DK.2 ⟨fun h2=>h (Qg.1 h2),ih⟩
theorem PZ{ws:List Int}{x:Int}:∀k,k<=ws.length->(x∈jx ws k↔x∈ws.take k):=by
 intro k
 induction k with
 |zero=>intro _;simp[jx]
 |succ k ih=>
  intro hk;obtain⟨y,hy⟩:=aL (ls:=ws) (k:=k) aa;have ht:ws.take (k+1)=ws.take k++[y]:=by rw[lR,hy];rfl
  have ih:=ih aa;unfold jx;rw[hy,ht];simp only;split
  .rename_i h;obtain⟨h1,h2⟩:=h;have hm:y∈ws.take k:=by
    rw[List.mem_take_iff_getElem];obtain⟨h3,h4⟩:=bn.1 h2;exact⟨k-1,aa,h4⟩
   rw[ih,fk];constructor
   .exact .inl
   rintro (h|h)
   .exact h
   simp at h;subst h;exact hm
  rw[fk,fk,ih]
theorem YS{ws:List Int}(hs:tU pG ws 0 ws.length):∀k,k<=ws.length->(jx ws k).Nodup:=by
 intro k
 induction k with
 |zero=>intro _;exact List.nodup_nil
 |succ k ih=>
  intro hk;obtain⟨y,hy⟩:=aL (ls:=ws) (k:=k) aa;have ih:=ih aa;unfold jx;rw[hy];simp only;split
  .exact ih
  rename_i h;rw[List.nodup_append];refine⟨ih,af,fun z hz w hw=>?_⟩;simp at hw;subst hw;rintro rfl
  rw[PZ k aa,List.mem_take_iff_getElem] at hz;obtain⟨p,hp,hpz⟩:=hz;have hpk:p<k:=aa;have kS:ws[p]?=some z:=by rw[ry aa,hpz]
  obtain⟨u,hu⟩:=aL (ls:=ws) (k:=k-1) aa;have s1:=hs (k-1) k u z (bc _) aa aa hu hy;have huz:u=z:=by
   by_cases e:p=k-1
   .rw[e,hu] at kS;cases kS;rfl
   have s2:=hs p (k-1) z u (bc _) aa aa kS hu;simp at s1 s2;omega
  rw[huz] at hu;exact h ⟨aa,hu⟩
theorem PH{es ws:List Int}(hp:ws.Perm es)(hs:tU pG ws 0 ws.length):(jx ws ws.length).length=(mZ es).length:=by refine List.Perm.length_eq ((List.perm_ext_iff_of_nodup (YS hs _ (bo _)) (Y1 es)).2 fun x=>?_);rw[PZ _ (bo _),ke,Qg,hp.mem_iff]
def yk(ls:List Let)(e:Nat):Bool:=((pA ls e).l.kind==2)&&((pA ls (nx ls e)).l.kind==2)
def sF(ls:List Let)(es:List Nat):List Int:=es.flatMap fun e:Nat=>[(e:Int),(nx ls e:Int)]
def sE(ls:List Let)(es:List Nat):List Int:=es.flatMap fun e:Nat=>[(pA ls e).l.id,(pA ls (nx ls e)).l.id]
def tgB(F:Nat)(ls:List Let)(a b c:Nat):Bool:=[a,b,c].all (yk ls)&&(((mZ (sF ls [a,b,c])).length==6)&&(((mZ (sE ls [a,b,c])).length==3)&&([a,b,c].any (jw ls · true)&&([a,b,c].any (jw ls · false)&&pS F ls 0 [a,b,c] a))))
def zx(F:Nat)(ls:List Let)(a b c:Nat):Option (List Pc):=if tgB F ls a b c then some (lK ls (pieces ls) [a,b,c]) else none
theorem Jc(f:Nat->List Int)(hf:∀e,(f e).length=2):∀l:List Nat,(l.flatMap f).length=2*l.length:=by
 intro l
 induction l with
 |nil=>rfl
 |cons a r ih=>rw[List.flatMap_cons,iW,ih,hf,dN];omega
theorem Si(f:Nat->List Int)(l:List Nat)(k e:Nat)(h:l[k]?=some e):(l.take (k+1)).flatMap f=(l.take k).flatMap f++f e:=by rw[lR,h];simp
theorem O2(f:Nat->Bool)(l:List Nat)(k e:Nat)(h:l[k]?=some e):(l.take (k+1)).any f=((l.take k).any f||f e):=by rw[lR,h];simp
theorem W8(f:Nat->Bool)(l:List Nat)(k e:Nat)(h:l[k]?=some e):(l.take (k+1)).all f=((l.take k).all f&&f e):=by rw[lR,h];simp
theorem Wj(f:Nat->List Int)(es:List Nat)(x y:Int):iP (es.flatMap f)++[[PV.int .i64 x],[PV.int .i64 y]]=iP (es.flatMap f++[x,y]):=af
theorem agJ(g:cS F ls){av bv cv:Nat}(ha:av<ls.length)(hb:bv<ls.length)(hc:cv<ls.length){k:Int}{l o:Bool}{sg:Int}:
  aE S 61 [.one (.p (cE F ls)),fc k av bv cv l o sg] (kR (zx F ls av bv cv)):=by
 have hlen:=g.len;have bq:=eI ls;have ig:∀e∈[av,bv,cv],e<ls.length:=fun e h=>by simp at h;rcases h with rfl|rfl|rfl<;>assumption
 generalize hE:[av,bv,cv]=es at*;have cJ:es.length=3:=by rw[<- hE];rfl
 have FO:nP [av,bv,cv]=[[.int .i64 av],[.int .i64 bv],[.int .i64 cv]]:=rfl;rw[hE] at FO;have w3:((3:Nat):Int)=3:=rfl;refine bd c61 ?_;simp only[go_sem,i61];refine ck (fun j aj blk=>aj 0=.one (.p (cE F ls))/\aj 6=.one (.hsl 3904064384 1 1 0 3)/\aj 22=.one (.hsl 3904064384 1 1 0 3)/\aj 23=vi 3/\aj 24=vi j/\blk 3904064384=(1,some (.arr 3 1 (nP es)))/\(es.take j).all (yk ls)=true/\
  aj 9=vb ((es.take j).any (jw ls · true))/\aj 10=vb ((es.take j).any (jw ls · false))/\ ∃c7 c8,aj 7=.one c7/\aj 8=.one c8/\grown 3904640256 3 1 (iP (sF ls (es.take j))) (.one c7) blk/\grown 3904705280 3 1 (iP (sE ls (es.take j))) (.one c8) blk) 0 3 (bc _) ?_ ?_
 .simp only[go_sem];exact⟨rfl,rfl,by rw[FO],rfl,rfl,_,_,rfl,rfl,grown.nil,grown.nil⟩
 rintro j aj blk hj ⟨h0,h6,rT,te,oU,b6,dI,h9,dK,c7,c8,h7,h8,g7,g8⟩
 by_cases au:j<3
 .have aF:((j:Int)<3):=aa;obtain⟨e,he⟩:=aL (ls:=es) (k:=j) aa;have HN:=ig e (ba he);have hnp:=fv he;have pe:=wB g HN;have hm:=eJ (e+1) (show 0<ls.length by omega);obtain⟨P,hP⟩:=aL (ls:=pieces ls) (k:=e) aa;obtain⟨Q,hQ⟩:=aL (ls:=pieces ls) (k:=(e+1)%ls.length) aa;have tk:=fM hP;have haq:=fM hQ;have w1:=bj (n:=j) aa;have po:=BR g HN true;have pu:=BR g HN false;have fD:yk ls e=((P.l.kind==2)&&(Q.l.kind==2)):=by unfold yk;rw[mK hP,mK hQ]
  have hl7:(iP (sF ls (es.take j))).length<=100:=by unfold sF;rw[sb,Jc _ (fun _=>rfl),jt];omega
  have hl8:(iP (sE ls (es.take j))).length<=100:=by unfold sE;rw[sb,Jc _ (fun _=>rfl),jt];omega
  have dB:yk ls e=false->zx F ls av bv cv=none:=fun h=>by
   have:es.all (yk ls)=false:=by
    cases hh:es.all (yk ls) with
    |false=>rfl
    |true=>rw[im.1 hh e (ba he)] at h;cases h
   unfold zx tgB;rw[hE,this];rfl
  cases k1:(P.l.kind==2) with
  |false=>
   rw[k1] at fD;have k1':(P.l.kind !=2)=true:=by simp only[bne,k1];rfl
   rw[dB fD];simp only[go_sem,i61_l1,h0,rT,te,oU,b6,au,aF,hnp,s80,cN pe fE,tk,Pc.ps,k1'];rfl
  |true=>
   have k1':(P.l.kind !=2)=false:=by simp only[bne,k1];rfl
   cases k2:(Q.l.kind==2) with
   |false=>
    rw[k1,k2] at fD;have k2':(Q.l.kind !=2)=true:=by simp only[bne,k2];rfl
    rw[dB fD];simp only[go_sem,i61_l1,h0,rT,te,oU,b6,au,aF,hnp,s80,cN pe fE,tk,haq,Pc.ps,k1',k2'];rfl
   |true=>
    rw[k1,k2] at fD;have k2':(Q.l.kind !=2)=false:=by simp only[bne,k2];rfl
    simp only[go_sem,i61_l1,h0,h7,rT,te,oU,b6,au,aF,hnp,s80,cN pe fE,tk,haq,Pc.ps,k1',k2'];refine nU (xs:=[[.int .i64 (e:Nat)],[.int .i64 ((e+1)%ls.length:Nat)]]) (g7.of_eq (aJ ae)) (by simp only[eK,aP,if_true];rfl) (.inl rfl) (by simp only[dN,fj];omega) fun d7 aW gd7 aQ=>?_;have q6:=aQ 3904064384 ae ae;simp only[go_sem,b6] at q6;have g8':=g8.of_eq ((aQ 3904705280 ae ae).trans (aJ ae));simp only[go_sem,h0,h8,tk,haq,Pc.ps];refine wy (xs:=[[.int .i64 P.l.id],[.int .i64 Q.l.id]]) (g8'.of_eq (aJ ae)) (by simp only[eK,aP,if_true];rfl) (.inl rfl) (by simp only[dN,fj];omega) fun d8 aN r w gd8 aS hw=>?_
    have p6:=(aS 3904064384 ae ae).trans ((aJ ae).trans q6);have aao:=gd7.of_eq ((aS 3904640256 ae ae).trans (aJ ae));simp only[go_sem];refine⟨?_,?_⟩
    .rcases hw with ⟨rfl,rfl⟩|⟨rfl,rfl⟩|⟨rfl,rfl⟩<;>kernel_rfl
    generalize hx9:(es.take j).any (jw ls · true)=x9 at h9;generalize abE:(es.take j).any (jw ls · false)=x10 at dK;have e9:=O2 (jw ls · true) es j e he;have Ep:=O2 (jw ls · false) es j e he;have eA:=W8 (yk ls) es j e he;rw[hx9] at e9;rw[abE] at Ep;rw[dI,fD] at eA;have G7:grown 3904640256 3 1 (iP (sF ls (es.take (j+1)))) (.one d7) aN:=by have:=Wj (fun e:Nat=>[(e:Int),(nx ls e:Int)]) (es.take j) e (nx ls e);have h2:=Si (fun e:Nat=>[(e:Int),(nx ls e:Int)]) es j e he;rw[show sF ls (es.take (j+1))=(es.take j).flatMap (fun e:Nat=>[(e:Int),(nx ls e:Int)])++[(e:Int),(nx ls e:Int)] from h2,<- this];exact aao
    have G8:grown 3904705280 3 1 (iP (sE ls (es.take (j+1)))) (.one d8) aN:=by have:=Wj (fun e:Nat=>[(pA ls e).l.id,(pA ls (nx ls e)).l.id]) (es.take j) (pA ls e).l.id (pA ls (nx ls e)).l.id;have h2:=Si (fun e:Nat=>[(pA ls e).l.id,(pA ls (nx ls e)).l.id]) es j e he;rw[show sE ls (es.take (j+1))=(es.take j).flatMap (fun e:Nat=>[(pA ls e).l.id,(pA ls (nx ls e)).l.id])++[(pA ls e).l.id,(pA ls (nx ls e)).l.id] from h2,<- this,mK hP,show pA ls (nx ls e)=Q from mK hQ];exact gd8
    cases x9<;>cases x10<;>simp only[go_sem,h0,h9,dK,rT,te,oU,s91,bY po,bY pu,w1,au]<;>exact⟨h6,p6,by rw[eA];rfl,by rw[e9];rfl,by rw[Ep];rfl,d7,d8,rfl,rfl,G7,G8⟩
 have:j=3:=aa;subst this;have ht:es.take 3=es:=by rw[<- hE];rfl
 rw[ht] at dI h9 dK g7 g8;have n7:(sF ls es).length=6:=by unfold sF;rw[Jc _ (fun _=>rfl),cJ]
 have n8:(sE ls es).length=6:=by unfold sE;rw[Jc _ (fun _=>rfl),cJ]
 rcases g7 with ⟨e,_⟩|⟨_,gg7,e,b7⟩
 .have:=congrArg List.length e;rw[sb,n7] at this;cases this
 cases e;rcases g8 with ⟨e,_⟩|⟨_,gg8,e,b8⟩
 .have:=congrArg List.length e;rw[sb,n8] at this;cases this
 cases e;have s506:S.shared 93=true:=ah;have s507:S.shared 94=true:=ah;have E0:¬(((3:Nat):Int)<3):=ae;simp only[go_sem,i61_l1,i61_r2,h7,te,oU,E0,s506,sb];refine s0 b7 (by rfl) (.inl rfl) (P:=zw pG 3904640256 gg7 3 (sF ls es) blk) (fun ki h1 h2=>Oc h1 (by rw[h2];kernel_rfl) aa b7) fun v aW hP=>?_;obtain⟨rfl,⟨ws,bw,pw,sw⟩,kw⟩:=hP;have b8':=(kw 3904705280 ae).trans b8;have DX:=(kw 3904064384 ae).trans b6;simp only[go_sem,h8,s506,sb];refine s0 b8' (by rfl) (.inl rfl) (P:=zw pG 3904705280 gg8 3 (sE ls es) aW) (fun ki h1 h2=>Oc h1 (by rw[h2];kernel_rfl) aa b8') fun v aN hP=>?_
 obtain⟨rfl,⟨us,bu,pu,su⟩,ku⟩:=hP;have bw':=(ku 3904640256 ae).trans bw;have XW:=(ku 3904064384 ae).trans DX;have wl:=pw.length_eq;have ul:=pu.length_eq;have cw:=PH pw sw;have cu:=PH pu su;have pcn:=JX g es aa (e0:=av) (by rw[<- hE];rfl) ha 0;have c00:((0:Nat):Int)=0:=rfl;rw[c00] at pcn;have psw:=agr g es ig aa;have ht3:List.take 3 (nP es)=nP es:=fS (by rw[Ng];omega);have hB:tgB F ls av bv cv=((((mZ (sF ls es)).length:Int)==6)&&((((mZ (sE ls es)).length:Int)==3)&&(es.any (jw ls · true)&&(es.any (jw ls · false)&&pS F ls 0 es av)))):=by unfold tgB;rw[hE,dI,Ic,Ic];rfl
 unfold zx;rw[hB];clear hB;simp only[go_sem,h7,s507,sb,<- wl];refine s0 bw' (by rfl) (.inl rfl) (P:=JP 3904640256 gg7 3 ws aN) (fun ki h1 h2=>PI h1 aa bw') fun v iG hP=>?_;obtain⟨rfl,_,kc⟩:=hP;have bu':=(kc 3904705280 ae).trans bu;have b63:=(kc 3904064384 ae).trans XW;rw[cw];have lo:S.lone 3905152128=false:=ah;cases q1:(((mZ (sF ls es)).length:Int)==6) with
 |false=>
  have q1':(((mZ (sF ls es)).length:Int)!=6)=true:=by simp only[bne,q1];rfl
  simp only[go_sem,q1'];rfl
 |true=>
  have q1':(((mZ (sF ls es)).length:Int)!=6)=false:=by simp only[bne,q1];rfl
  simp only[go_sem,h8,q1',s507,sb,<- ul];refine s0 bu' (by rfl) (.inl rfl) (P:=JP 3904705280 gg8 3 us iG) (fun ki h1 h2=>PI h1 aa bu') fun v nN hP=>?_;obtain⟨rfl,_,kd⟩:=hP;have b64:=(kd 3904064384 ae).trans b63;rw[cu];cases q2:(((mZ (sE ls es)).length:Int)==3) with
  |false=>
   have Dd:(((mZ (sE ls es)).length:Int)!=3)=true:=by simp only[bne,q2];rfl
   simp only[go_sem,Dd];rfl
  |true=>
   have Dd:(((mZ (sE ls es)).length:Int)!=3)=false:=by simp only[bne,q2];rfl
   cases q3:es.any (jw ls · true) with
   |false=>rw[q3] at h9;simp only[go_sem,h9,Dd];rfl
   |true=>
    rw[q3] at h9;cases q4:es.any (jw ls · false) with
    |false=>rw[q4] at dK;simp only[go_sem,h9,dK,Dd];rfl
    |true=>
     rw[q4] at dK;cases q5:pS F ls 0 es av with
     |false=>rw[q5] at pcn;simp only[go_sem,h0,h6,h9,dK,Dd,b64,s88,bY pcn,cJ,Ng,ht3];rfl
     |true=>rw[q5] at pcn;simp only[go_sem,h0,h6,h9,dK,Dd,b64,s88,bY pcn,s95,cJ,Ng,ht3];refine jz psw lo (.inr (eu (eT _))) fun cc v8 gc u7=>?_;simp only[go_sem];rw[<- hE] at gc;exact gY gc
abbrev wm(F:Nat):V:=.agg [.p (.int .i64 F),.p (.sl [])]
theorem zz:¬(((0:Int))<((0:Nat):Int)):=ae
theorem zm:IntKind.i64.wrap (2*((0:Nat):Int))=((0:Nat):Int):=ae
theorem zr:(0:Nat)<=140737488355328:=ae
theorem zr8:(0:Nat)*8<=140737488355328:=ae
section
variable {F:Nat}
theorem Yv(hF:F<=40):jN (F:Int) []=0:=by unfold jN;rw[if_neg (by simp[aA]),if_neg aa,if_pos rfl]
theorem aex(hF:F<=40):aE S 43 [wm F] (tN (dgE F) (.int .i64 0)):=by have pr:=Vb F [] (bc _);rw[IT (Yv hF),if_pos rfl] at pr;exact pr
theorem X3:aE S 50 [.one (.p (dgE F))] (.one (.own 4 1 [])):=by refine bd c50 ?_;simp only[go_sem,i50];refine k8 ?_;simp only[go_sem,i50_l1,i50_r2,zz];rfl
theorem ZP(hF:F<=40):aE S 32 [wm F] (.tup [.one (bg u6 5 []),.one (.p (.int .i64 0))]):=by
 have pr:=aex hF;have hLB:∀blk:aw,land blk [] 2048384064 ((RV.one (.own 4 1 [])).fx (S.lone 2048384064))=some (.one (.hsl 2048384064 ((blk 2048384064).1+1) 1 0 0),[(2048384064,((blk 2048384064).1+1,some (.arr 4 1 [])))]):=by intro blk;rw[show S.lone 2048384064=false by kernel_rfl];rfl
 refine bd c32 ?_;simp only[go_sem,i32,s43,cN pr fE,s50,cN X3 (hLB _),zm,zr];refine k8 ?_;simp only[go_sem,i32_l1,i32_r2,zz];rfl
theorem Np(hF:F<=40):aE S 17 [wm F] (tN (cE F []) (.int .i64 0)):=by
 have pf:=ZP hF;have pps:aE S 33 [wm F] (ri ((0:Nat):Int)):=Ns F [] (bc _);have pcs:aE S 34 [wm F] (ri ((0:Nat):Int)):=P9 F [] (bc _);have lo:S.lone 1088064064=false:=ah;have wF:=bj (n:=F) aa;have r2:(F+1)*8<=140737488355328:=aa;have e2:List.replicate (F+1) [PV.int .i64 0]=nP (counts [] F):=by rw[<- JZ,fj,Ka];simp
 refine bd c17 ?_;simp only[go_sem,i17,s32];refine Sw pf lo fun cf jv qF gC=>?_;have DW:=gC 1088000000 ae;simp only[go_sem] at DW;obtain⟨_,hv⟩|⟨h,_⟩:=qF
 .cases hv;simp only[go_sem,DW,wF,r2,zm,zr,s33,s34,gT pps,gT pcs,e2];refine⟨ay,?_⟩;refine k8 ?_;simp only[go_sem,i17_l1,i17_r6,zz];refine k8 ?_;simp only[go_sem,i17_l4,i17_r5,zz];have t2:List.take (F+1) (nP (counts [] F))=nP (counts [] F):=fS (by simp[counts]);have n2:F+1<=(counts [] F).length:=by simp[counts]
  simp only[go_sem,ji,qB,sX,lX,kV,jF,t2,n2];rfl
 exact absurd rfl h
end
section
variable {F:Nat}
theorem wz1:IntKind.i64.wrap (1:Int)=1:=ae
theorem wz2:IntKind.i64.wrap (2:Int)=2:=ae
abbrev wa(F:Nat):V:=.one (.p (.box [.int .i64 F,.sl [],.sl [],.sl [],.int .i64 ((0:Nat):Int),.int .i64 ((0:Nat):Int),.sl (nP (counts [] F))]))
theorem Xm{b:Nat}(hb:b<=F):aE S 35 [wa F,fc 2 0 b 0 false false 0] (rb true):=by
 have kQ:aE S 53 [vi 0,.one (.p (.box [.int .i64 ((0:Nat):Int)]))] (rb false):=Tz 0 0;have l6:=fv (zZ (ls:=[]) hb);have h1:(0:Int)<=(b:Int):=aa;have h2:(b:Int)<=(F:Int):=aa;have h4:(0:Int)<=(cg [] b:Int):=aa;have h5:b<F+1:=aa;have h6:(counts [] F).length=F+1:=by simp[counts]
 have h7:(((0:Nat):Int)==0)=true:=ae;refine bd c35 ?_;simp only[go_sem,i35,s53,kn kQ,l6,h1,h2,h4,h7];exact ay
abbrev BW(b:Nat):List Pc:=[⟨⟨1,b,1,0,0,false⟩,true⟩,⟨⟨1,b,2,0,0,false⟩,false⟩]
theorem XO{b:Nat}{l o:Bool}{sg:Int}:aE S 55 [wa F,fc 2 0 b 0 l o sg] (kR (some (BW b))):=by have h7:(((0:Nat):Int)==0)=true:=ae;refine bd c55 ?_;simp only[go_sem,i55,h7,wz1,wz2];rfl
end
theorem Y5(hlen:ls.length<=400)(fD:aA Let.aC ls<=200){a b c:Int}{l o:Bool}{sg:Int}{res:Option (List Pc)}(ha:aE S 35 [.one (.p (cE F ls)),fc 2 a b c l o sg] (rb true))(hm:aE S 55 [.one (.p (cE F ls)),fc 2 a b c l o sg] (kR res))(hL:∀L,res=some L->L.length<=1000000):
  aE S 18 [.one (.p (cE F ls)),fc 2 a b c l o sg] (rJ F ls 2 res):=by
 have o0:=Sc F;have pg:=SI 2;have qn:S.lone 1152192384=false:=ah;have vt:S.lone 1152576128=false:=ah;have Cu:∀(blk:aw),land blk [] 1152192000 ((RV.agg [.p .fX,.p (.fn 54 [] []),.p (.fn 55 [] []),.p (.fn 56 [] []),.p (.fn 57 [] []),.p (.fn 58 [] []),.p (.fn 59 [] []),.p (.fn 60 [] []),.p (.fn 61 [] []),.p (.fn 62 [] []),.p (.fn 62 [] [])]).fx (S.lone 1152192000))=some (.agg [.p .fX,.p (.fn 54 [] []),.p (.fn 55 [] []),.p (.fn 56 [] []),.p (.fn 57 [] []),.p (.fn 58 [] []),.p (.fn 59 [] []),.p (.fn 60 [] []),.p (.fn 61 [] []),.p (.fn 62 [] []),.p (.fn 62 [] [])],[]):=fun blk=>by cases S.lone 1152192000<;>rfl
 have bq:=eI ls;have w1:IntKind.i64.wrap (((pieces ls).length:Int)+(gZ 2).1)=(ls.length:Int)+(gZ 2).1:=by rw[bq];exact nE (by simp only[gZ];simp;omega) (by simp only[gZ];simp;omega)
 have w2:IntKind.i64.wrap (((aA Let.aC ls/2:Nat):Int)+(gZ 2).2)=((aA Let.aC ls/2:Nat):Int)+(gZ 2).2:=nE (by simp only[gZ];simp;omega) (by simp only[gZ];simp;omega);have lg:∀blk:aw,land blk [] 1152384128 ((RV.tup [.one (.p (.int .i64 (gZ 2).1)),.one (.p (.int .i64 (gZ 2).2))]).fx (S.lone 1152384128))=some (.tup [.one (.p (.int .i64 (gZ 2).1)),.one (.p (.int .i64 (gZ 2).2))],[]):=fun blk=>fE;unfold kR at hm;refine bd c18 ?_;simp only[go_sem,i18,s35,bY ha,s36,fp TE (Cu _),s55];refine Qd hm qn fun cc aW w gc hb hw=>?_;have b0:=hb 1152000000 ae;have b1:=hb 1152000064 ae;simp only[go_sem] at b0 b1;cases res with
 |none=>simp only[go_sem,b1];refine⟨?_,rfl⟩;rcases hw with rfl|rfl<;>kernel_rfl
 |some L=>
  simp only[kL] at gc;have pfin:=o0 L (hL L rfl) (.sl (aX (pieces ls))) (.sl (kr (cX F ls))) (.sl (nP (fQ F ls))) (.int .i64 (aA Let.aG ls:Nat)) (.int .i64 ((aA Let.aC ls/2:Nat):Int)) (.sl (nP (counts ls F)));obtain⟨rs,pC,_⟩:=gc.dD;by_cases h1:(400:Int)<(ls.length:Int)+(gZ 2).1
  .rw[show rJ F ls 2 (some L)=pH 7 from if_pos (.inl h1)];simp only[go_sem,b0,b1,s37,cN pg (lg _),w1,h1];refine⟨?_,rfl⟩;rcases hw with rfl|rfl<;>kernel_rfl
  by_cases h2:(100:Int)<((aA Let.aC ls/2:Nat):Int)+(gZ 2).2
  .rw[show rJ F ls 2 (some L)=pH 7 from if_pos (.inr h2)];simp only[go_sem,b0,b1,s37,cN pg (lg _),w1,w2,h1,h2];refine⟨?_,rfl⟩;rcases hw with rfl|rfl<;>kernel_rfl
  rw[show rJ F ls 2 (some L)=rj F (pW L) from if_neg (by rintro (h|h);exact h1 h;exact h2 h)];simp only[go_sem,b0,s37,cN pg (lg _),w1,w2,h1,h2,pC,s38];refine⟨?_,?_⟩
  .rcases hw with rfl|rfl<;>kernel_rfl
  refine Sy pfin vt rfl (Vj _) fun c2 aN oR aS=>?_;have b02:=(aS 1152000064 ae).trans b1;simp only[go_sem,b02];exact HL (oR.of_eq (aJ ae))
abbrev yf(b:Nat):List Let:=[⟨1,b,1,0,0,false⟩,⟨1,b,2,0,0,false⟩]
theorem Yy(b:Nat):pW (BW b)=yf b:=by unfold pW;rw[show pX (BW b)=some 0 from rfl];rfl
theorem doR0(F b:Nat):rJ F [] 2 (some (BW b))=rj F (yf b):=by rw[<- Yy];rfl
theorem Qj{b:Nat}(hb:b<=F):aE S 18 [wa F,fc 2 0 b 0 false false 0] (rj F (yf b)):=by have:=Y5 (F:=F) (ls:=[]) ae ae (a:=0) (b:=b) (c:=0) (l:=false) (o:=false) (sg:=0) (res:=some (BW b)) (Xm hb) XO (fun L h=>by cases h;exact(by simp:(BW b).length<=1000000));rw[doR0] at this;exact this
theorem Xj{b:Nat}(hF:F<=40)(hb:b<=F):aE S 7 [wm F,fc 2 0 b 0 false false 0] (rj F (yf b)):=by have po:aE S 17 [wm F] (tN (.box [.int .i64 F,.sl [],.sl [],.sl [],.int .i64 ((0:Nat):Int),.int .i64 ((0:Nat):Int),.sl (nP (counts [] F))]) (.int .i64 0)):=Np hF;have hd:=Qj hb;have lo:S.lone 448256128=false:=ah;refine bd c7 ?_;simp only[go_sem,i7,s17,cN po fE,s18];refine EN hd lo fun cc aW gc hb=>?_;have b4:=hb 448000128 ae;simp only[go_sem] at b4;simp only[go_sem,b4];exact HL (gc.of_eq (aJ ae))
def xv(F:Nat)(ls:List Let)(k:Int)(a b c:Nat)(l o:Bool)(sg:Int):Option (List Pc):=if k=1 then BG ls a else if k=2 then tY F ls a b c else if k=3 then BM F ls a b else if k=4 then CN ls a else if k=5 then some (A2 ls a sg o) else if k=6 then CX F ls a b else if k=7 then CZ F ls a b l o else if k=8 then zx F ls a b c else if k=9 then Dx F ls a else Dv ls a
def sR(F:Nat)(ls:List Let)(k a b c:Int)(l o:Bool)(sg:Int):RV:=if aV F ls k a b c l o sg then rJ F ls k (xv F ls k a.toNat b.toNat c.toNat l o sg) else pH 2
theorem Xe{k a b c:Int}{l o:Bool}{sg:Int}:(∃e,sR F ls k a b c l o sg=pH e)\/ ∃L,sR F ls k a b c l o sg=rj F L:=by
 unfold sR;split
 .cases xv F ls k a.toNat b.toNat c.toNat l o sg with
  |none=>exact .inl ⟨4,rfl⟩
  |some L=>
   by_cases h:(400:Int)<(ls.length:Int)+(gZ k).1\/(100:Int)<((aA Let.aC ls/2:Nat):Int)+(gZ k).2
   .exact .inl ⟨7,if_pos h⟩
   exact .inr ⟨pW L,if_neg h⟩
 exact .inl ⟨2,rfl⟩
theorem O3{k a b c:Int}{l o:Bool}{sg:Int}{res:RV}(po:aE S 17 [eQ F ls] (tN (cE F ls) (.int .i64 0)))(hd:aE S 18 [.one (.p (cE F ls)),fc k a b c l o sg] res)(fin:(∃e,res=pH e)\/ ∃L,res=rj F L):
  aE S 7 [eQ F ls,fc k a b c l o sg] res:=by
 have lo:S.lone 448256128=false:=ah;refine bd c7 ?_;rcases fin with ⟨e,rfl⟩|⟨L,rfl⟩
 .simp only[go_sem,i7,s17,cN po fE,s18,cN hd acg];rfl
 simp only[go_sem,i7,s17,cN po fE,s18];refine EN hd lo fun cc aW gc hb=>?_;have b4:=hb 448000128 ae;simp only[go_sem] at b4;simp only[go_sem,b4];exact HL (gc.of_eq (aJ ae))
theorem j5{n:Nat}{i:Int}(h:gO n i=true):∃k:Nat,i=(k:Int)/\k<n:=by unfold gO at h;simp at h;exact⟨i.toNat,aa,aa⟩
theorem M6(l:List Pc)(drop:Nat->Pc->Bool):(se l drop).length<=l.length:=CK l drop l.length
theorem Vn(l:List Pc)(i:Nat)(g r:Int):(xF l i g r).length=l.length:=by simp[xF]
theorem Ua{k:Int}{a b c:Nat}{l o:Bool}{sg:Int}{L:List Pc}(h:xv F ls k a b c l o sg=some L):L.length<=ls.length+4:=by
 have hp:=eI ls;unfold xv at h;repeat' split at h
 .unfold BG at h;simp only at h;split at h
  .cases h;have:=M6 (pieces ls) (fun k _=>decide (k=a)||decide (k=(a+1)%ls.length));simp only[ed,cq];omega
  cases h
 .unfold tY at h;split at h
  .cases h;simp only[zR,fW,ed,cq,dN,fj];omega
  split at h
  .cases h;simp only[zR,fW,ed,cq,dN,fj];omega
  cases h
 .unfold BM at h;split at h
  .cases h;simp only[Du,GD];omega
  cases h
 .unfold CN at h;simp only at h;split at h
  .cases h;have:=M6 (pieces ls) (ug [((pieces ls).getD a ⟨iK,false⟩).l.id]);simp only[B3,cq];omega
  cases h
 .cases h;simp only[A2,fW,dN,fj];omega
 .unfold CX at h;split at h
  .cases h;have:=M6 (pieces ls) (ug [(pA ls a).l.id,(pA ls (nx ls a)).l.id]);simp only[B3,cq];omega
  cases h
 .have key:∀s t,fN ls a b l o s t=some L->L.length<=ls.length+4:=fun s t h=>by
   unfold fN at h;split at h
   .cases h
   simp only[dV] at h;subst h;have h2:∀x sg o s,(j7 x sg o s).length=2:=fun x sg o s=>by unfold j7;split<;>rfl
   split<;>simp only[fW,h2,dN,fj]<;>omega
  unfold CZ at h;split at h
  .exact key _ _ h
  exact key _ _ h
 .unfold zx at h;split at h
  .cases h;simp only[Du];omega
  cases h
 .unfold Dx at h;split at h
  .cases h;simp only[Vn,ed,cq];omega
  cases h
 unfold Dv at h;split at h
 .cases h;simp only[Vn,ed,cq];omega
 cases h
theorem Ql(g:cS F ls)(k a b c:Int)(l o:Bool)(sg:Int):aE S 18 [.one (.p (cE F ls)),fc k a b c l o sg] (sR F ls k a b c l o sg):=by
 have pa:=O4 (F:=F) (ls:=ls) (a:=a) (b:=b) (c:=c) (l:=l) (o:=o) (sg:=sg) k;have hlen:=g.len;have fD:=g.cr;unfold sR;cases hA:aV F ls k a b c l o sg with
 |false=>rw[hA] at pa;exact Qk pa
 |true=>
  rw[hA] at pa;rw[if_pos rfl];have hL:∀L,xv F ls k a.toNat b.toNat c.toNat l o sg=some L->L.length<=1000000:=fun L h=>by have:=Ua h;omega
  have ne:=g.ne;have jd:¬ls.length=0:=by have:=nH.2 ne;omega
  unfold aV at hA;by_cases h1:k=1
  .subst h1;simp only[Int.reduceEq,if_true,if_false,or_false,or_self] at hA;simp only[cA,jU,beq_iff_eq] at hA;obtain⟨rfl,rfl,rfl,hx,rfl,rfl⟩:=hA;obtain⟨av,rfl,ha⟩:=j5 hx;simp only[oE] at hL ⊢;exact u3 hlen fD (k:=1) rfl ae ah pa (XK g ha) hL
  by_cases h2:k=2
  .subst h2;simp only[Int.reduceEq,if_true,if_false,or_self] at hA;simp only[cA,sG,jU,beq_iff_eq,decide_eq_true_eq] at hA;obtain⟨rfl,rfl,rfl,hx,gC,Ff,hc0,tm⟩:=hA;rcases hx with hx|⟨hx,_⟩
   rotate_left
   .exact absurd hx jd
   obtain⟨av,rfl,ha⟩:=j5 hx;obtain⟨bv,rfl⟩:=nG gC;obtain⟨cv,rfl⟩:=nG hc0;simp only[oE] at hL tm ⊢;have:=oH (sU bv) ls;exact u3 hlen fD (k:=2) rfl ae ah pa (XP g ha aa (by simp only[cg] at tm;omega)) hL
  by_cases h3:k=3
  .subst h3;simp only[Int.reduceEq,if_true,if_false,or_false,or_self] at hA;simp only[cA,jU,beq_iff_eq,decide_eq_true_eq] at hA;obtain⟨rfl,rfl,rfl,hx,rfl,hy,au⟩:=hA;obtain⟨av,rfl,ha⟩:=j5 hx;obtain⟨bv,rfl,hb⟩:=j5 hy;simp only[oE] at hL ⊢;exact u3 hlen fD (k:=3) rfl ae ah pa (XR g ha hb) hL
  by_cases h4:k=4
  .subst h4;simp only[Int.reduceEq,if_true,if_false,or_false,or_true,or_self] at hA;simp only[cA,jU,beq_iff_eq] at hA;obtain⟨rfl,rfl,rfl,hx,rfl,rfl⟩:=hA;obtain⟨av,rfl,ha⟩:=j5 hx;simp only[oE] at hL ⊢;exact u3 hlen fD (k:=4) rfl ae ah pa (acN g ha) hL
  by_cases h5:k=5
  .subst h5;simp only[Int.reduceEq,if_true,if_false,or_self] at hA;simp only[cA,sG,jU,beq_iff_eq] at hA;obtain⟨rfl,hs,hx,rfl,rfl⟩:=hA;obtain⟨av,rfl,ha⟩:=j5 hx;simp only[oE] at hL ⊢;exact u3 hlen fD (k:=5) rfl ae ah pa (acO g ha) hL
  by_cases h6:k=6
  .subst h6;simp only[Int.reduceEq,if_true,if_false,or_true,or_self] at hA;simp only[cA,jU,beq_iff_eq,decide_eq_true_eq] at hA;obtain⟨rfl,rfl,rfl,hx,rfl,hy,au⟩:=hA;obtain⟨av,rfl,ha⟩:=j5 hx;obtain⟨bv,rfl,hb⟩:=j5 hy;simp only[oE] at hL ⊢;exact u3 hlen fD (k:=6) rfl ae ah pa (adk g ha hb) hL
  by_cases h7:k=7
  .subst h7;simp only[Int.reduceEq,if_true,if_false,or_self] at hA;simp only[cA,jU,beq_iff_eq,beq_eq_false_iff_ne] at hA;obtain⟨rfl,hx,rfl,hy,aR⟩:=hA;obtain⟨av,rfl,ha⟩:=j5 hx;obtain⟨bv,rfl,hb⟩:=j5 hy;simp only[oE] at hL ⊢;exact u3 hlen fD (k:=7) rfl ae ah pa (adl g ha hb aa) hL
  by_cases h8:k=8
  .subst h8;simp only[Int.reduceEq,if_true,if_false,or_self] at hA;simp only[cA,jU,beq_iff_eq,decide_eq_true_eq] at hA;obtain⟨rfl,rfl,rfl,hx,hy,hz,_,_⟩:=hA;obtain⟨av,rfl,ha⟩:=j5 hx;obtain⟨bv,rfl,hb⟩:=j5 hy;obtain⟨cv,rfl,hc⟩:=j5 hz;simp only[oE] at hL ⊢;exact u3 hlen fD (k:=8) rfl ae ah pa (agJ g ha hb hc) hL
  by_cases h9:k=9
  .subst h9;simp only[Int.reduceEq,if_true,if_false,or_false,or_true,or_self] at hA;simp only[cA,jU,beq_iff_eq] at hA;obtain⟨rfl,rfl,rfl,hx,rfl,rfl⟩:=hA;obtain⟨av,rfl,ha⟩:=j5 hx;simp only[oE] at hL ⊢;exact u3 hlen fD (k:=9) rfl ae ah pa (agB g ha) hL
  by_cases dK:k=10
  .subst dK;simp only[Int.reduceEq,if_true,if_false,or_true,or_self] at hA;simp only[cA,jU,beq_iff_eq] at hA;obtain⟨rfl,rfl,rfl,hx,rfl,rfl⟩:=hA;obtain⟨av,rfl,ha⟩:=j5 hx;simp only[oE] at hL ⊢;exact u3 hlen fD (k:=10) rfl ae ah pa (agA g ha) hL
  simp[h1,h2,h3,h4,h5,h6,h7,h8,h9,dK] at hA
theorem Xl(g:cS F ls)(k a b c:Int)(l o:Bool)(sg:Int):aE S 7 [eQ F ls,fc k a b c l o sg] (sR F ls k a b c l o sg):=O3 (UC g) (Ql g k a b c l o sg) Xe
def Jv(F:Nat)(k a b c:Int)(l o:Bool)(sg:Int):RV:=if aV F [] k a b c l o sg then rj F (yf b.toNat) else pH 2
theorem Xn{k a b c:Int}{l o:Bool}{sg:Int}(h:aV F [] k a b c l o sg=true):∃bv:Nat,k=2/\a=0/\b=(bv:Int)/\bv<=F/\c=0/\l=false/\o=false/\sg=0:=by
 have hi:∀i:Int,gO 0 i=false:=fun i=>by unfold gO;simp
 unfold aV at h;by_cases h2:k=2
 .subst h2;simp only[if_true,fj,hi,xM,cA,jU,beq_iff_eq,decide_eq_true_eq] at h;obtain⟨rfl,rfl,rfl,⟨_,rfl⟩,gC,Ff,hc0,tm⟩:=h;obtain⟨bv,rfl⟩:=nG gC;have:cg [] ((bv:Int).toNat)=0:=rfl;rw[this] at tm;exact⟨bv,rfl,rfl,rfl,aa,aa,rfl,rfl,rfl⟩
 simp[h2,hi] at h
theorem Xk(hF:F<=40)(k a b c:Int)(l o:Bool)(sg:Int):aE S 7 [eQ F [],fc k a b c l o sg] (Jv F k a b c l o sg):=by
 unfold Jv;cases hA:aV F [] k a b c l o sg with
 |false=>have pa:=O4 (F:=F) (ls:=[]) (a:=a) (b:=b) (c:=c) (l:=l) (o:=o) (sg:=sg) k;rw[hA] at pa;exact O3 (Np hF) (Qk pa) (.inl ⟨2,rfl⟩)
 |true=>obtain⟨bv,rfl,rfl,rfl,hb,rfl,rfl,rfl,rfl⟩:=Xn hA;exact Xj hF hb

structure cG where
 k:Int
 a:Int
 b:Int
 c:Int
 l:Bool
 o:Bool
 s:Int
def cG.ps(m:cG):List PV:=[.int .i64 m.k,.int .i64 m.a,.int .i64 m.b,.int .i64 m.c,.bool m.l,.bool m.o,.int .i64 m.s]
theorem Gk{ms:List cG}{k:Nat}{m:cG}(h:ms[k]?=some m):(ms.map cG.ps)[k]?=some m.ps:=by rw[js,h];rfl
def Eh(L:List Let)(c:C)(blk:aw):Prop:=grown 832256128 xu 6 (si L) (.one c) blk\/grown 832512129 xu 6 (si L) (.one c) blk\/(L=[]/\c=.p (.sl []))
theorem Eh.snap{L:List Let}{c:C}{blk:aw}(h:Eh L c blk):∃r,Go.Abs.snap blk dD c=some (mJ L,r):=by
 rcases h with h|h|⟨rfl,rfl⟩
 .obtain⟨r,h1,_⟩:=h.dD;exact⟨r,h1⟩
 .obtain⟨r,h1,_⟩:=h.dD;exact⟨r,h1⟩
 exact⟨[],rfl⟩
theorem Eh.of_eq{L:List Let}{c:C}{blk ak:aw}(h:Eh L c blk)(h1:ak 832256128=blk 832256128)(h2:ak 832512129=blk 832512129):Eh L c ak:=by
 rcases h with h|h|h
 .exact .inl (h.of_eq h1)
 .exact .inr (.inl (h.of_eq h2))
 exact .inr (.inr h)
theorem ach{blk:aw}{rd:List Nat}{s:Nat}{e:Int}{l:Bool}:land blk rd s ((pH e).fx l)=some (.tup [.agg [.p (.int .i64 0),.p .nils],.one (.p (.int .i64 e))],[]):=by cases l<;>(unfold land;rw[if_pos (.inr rfl)];rfl)
def isN(r:RV):Prop:= ∃i:Int,r=ri i
abbrev Gj(m:cG):V:=fc m.k m.a m.b m.c m.l m.o m.s
section
variable {Q:dF} {aj:Env} {blk:aw} {os:List aI} {d:Option Nat}
end
def Eg(s:Nat)(L:List Let)(c:C)(blk:aw):Prop:=grown s xu 6 (si L) (.one c) blk\/(L=[]/\c=.p (.sl []))
theorem Eg.snap{s:Nat}{L:List Let}{c:C}{blk:aw}(h:Eg s L c blk):∃r,Go.Abs.snap blk dD c=some (mJ L,r):=by
 rcases h with h|⟨rfl,rfl⟩
 .obtain⟨r,h1,_⟩:=h.dD;exact⟨r,h1⟩
 exact⟨[],rfl⟩
theorem Eg.of_eq{s:Nat}{L:List Let}{c:C}{blk ak:aw}(h:Eg s L c blk)(h1:ak s=blk s):Eg s L c ak:=by
 rcases h with h|h
 .exact .inl (h.of_eq h1)
 exact .inr h
section
variable {Q:dF} {aj:Env} {blk:aw} {os:List aI} {d:Option Nat}
end
end
end Go.Abs
