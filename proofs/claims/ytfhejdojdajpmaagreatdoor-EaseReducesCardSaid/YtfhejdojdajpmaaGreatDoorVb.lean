/- A part. -/
import Derived.Test.YtfhejdojdajpmaaGreatDoorWw
set_option linter.all false
set_option maxRecDepth 100000
set_option maxHeartbeats 16000000
namespace Go.Abs
section
variable{ls:List Let}{x:Int}{ws:List Int}
section
attribute [local go_sem ↓] fm1 fm2
def cD(F:Nat)(ls:List Let)(k a b c:Int)(l o:Bool)(sg:Int):Bool:=
 if k=2 then !l&&(!o&&(sg==0&&((iv ls.length a||(ls.length==0&&a==0))&&(decide (0<=b)&&(decide (b<=(F:Int))&&(decide (0<=c)&&decide (c<=(cg ls b.toNat:Int))))))))
 else if k=3\/k=6 then !l&&(!o&&(sg==0&&(iv ls.length a&&(c==0&&(iv ls.length b&&decide (a<b))))))
 else if k=5 then !l&&((sg==1||sg== -1)&&(iv ls.length a&&(b==0&&c==0)))
 else if k=7 then sg==0&&(iv ls.length a&&(c==0&&(iv ls.length b&& !(a==b))))
 else if k=8 then !l&&(!o&&(sg==0&&(iv ls.length a&&(iv ls.length b&&(iv ls.length c&&(decide (a<b)&&decide (b<c)))))))
 else if k=1\/k=4\/k=9\/k=10 then !l&&(!o&&(sg==0&&(iv ls.length a&&(b==0&&c==0))))
 else false
theorem mQ{i:Int}{x:Bool}(h:iv ls.length i=x):aJ S 129 [vi i,.one (.p (.box [.int .i64 ls.length]))] (rb x):=h▸is_p i ls.length
theorem od(h:¬x=0):(x==0)=false/\(x !=0)=true:=by simp[h]
theorem tN{y:Int}(h:¬x=y):(x==y)=false/\(x !=y)=true:=by simp[h]
section
variable {F:Nat} {ls:List Let} {a b c:Int} {l o:Bool} {sg:Int}
theorem Mu{k:Int}(hk:k=1\/k=4\/k=9\/k=10):aJ S 111 [.one (.p (ek F ls)),ft k a b c l o sg] (rb (cD F ls k a b c l o sg)):=by
 obtain⟨v,hv⟩:∃v,cD F ls k a b c l o sg=v:=⟨_,rfl⟩;rw[hv];rcases hk with rfl|rfl|rfl|rfl
 all_goals
  refine bc c111 ?_;simp only[go_sem,i111,fG];refine hJ [0,3,4,5,6,7,8,9,10,41] fun e1 jA=>?_;simp only[go_sem] at jA;cases l with
  |true=>
   obtain rfl:v=false:=by rw[<- hv];simp[cD]
   simp only[go_sem,jA]
  |false=>
   simp only[go_sem,jA];refine hJ [0,3,4,5,6,7,8,9,10,53] fun e2 iC=>?_;simp only[go_sem,jA] at iC;cases o with
   |true=>
    obtain rfl:v=false:=by rw[<- hv];simp[cD]
    simp only[go_sem,iC]
   |false=>
    simp only[go_sem,iC];refine hJ [0,3,4,5,6,7,8,9,10,60] fun e3 iD=>?_;simp only[go_sem,iC] at iD;by_cases hs:sg=0
    rotate_left
    .have jk:=(od hs).1;have eW:=(od hs).2;obtain rfl:v=false:=by rw[<- hv];simp[cD,hs]
     simp only[go_sem,iD,eW]
    subst hs;cases hA:iv ls.length a with
    |false=>
     have pA:=mQ hA;obtain rfl:v=false:=by rw[<- hv];simp[cD,hA]
     simp only[go_sem,s129,iD,cq pA]
    |true=>
     have pA:=mQ hA;simp only[go_sem,s129,iD,cq pA];refine hJ [3,4,6,7,9,133] fun e4 lB=>?_;simp only[go_sem,iD] at lB;by_cases hb:b=0
     rotate_left
     .have cQ:=(od hb).2;obtain rfl:v=false:=by rw[<- hv];simp[cD,hA,hb]
      simp only[go_sem,lB,cQ]
     subst hb;simp only[go_sem,lB];refine hJ [3,4,6,7,9,142] fun e5 qZ=>?_;simp only[go_sem,lB] at qZ;by_cases hc:c=0
     rotate_left
     .have gK:=(od hc).2;obtain rfl:v=false:=by rw[<- hv];simp[cD,hA,hc]
      simp only[go_sem,qZ,gK]
     subst hc;obtain rfl:v=true:=by rw[<- hv];simp[cD,hA]
     simp only[go_sem,qZ]
theorem agS:aJ S 111 [.one (.p (ek F ls)),ft 2 a b c l o sg] (rb (cD F ls 2 a b c l o sg)):=by
 obtain⟨v,hv⟩:∃v,cD F ls 2 a b c l o sg=v:=⟨_,rfl⟩;rw[hv];refine bc c111 ?_;simp only[go_sem,i111,fG];refine hJ [0,3,4,5,6,7,8,9,10,41] fun e1 jA=>?_;simp only[go_sem] at jA;cases l with
 |true=>
  obtain rfl:v=false:=by rw[<- hv];simp[cD]
  simp only[go_sem,jA]
 |false=>
  simp only[go_sem,jA];refine hJ [0,3,4,5,6,7,8,9,10,53] fun e2 iC=>?_;simp only[go_sem,jA] at iC;cases o with
  |true=>
   obtain rfl:v=false:=by rw[<- hv];simp[cD]
   simp only[go_sem,iC]
  |false=>
   simp only[go_sem,iC];refine hJ [0,3,4,5,6,7,8,9,10,60] fun e3 iD=>?_;simp only[go_sem,iC] at iD;by_cases hs:sg=0
   rotate_left
   .have jk:=(od hs).1;have eW:=(od hs).2;obtain rfl:v=false:=by rw[<- hv];simp[cD,hs]
    simp only[go_sem,iD,eW]
   subst hs;cases hA:iv ls.length a with
   |true=>
    have pA:=mQ hA;simp only[go_sem,s129,iD,kJ pA];refine tK [0,3,4,6,7,9,92] fun e4 lB=>?_;simp only[go_sem,iD] at lB;by_cases qW:0<=b
    rotate_left
    .obtain rfl:v=false:=by rw[<- hv];simp[cD,hA,qW]
     simp only[go_sem,lB,qW];exact aH
    simp only[go_sem,lB,qW];refine tK [0,3,4,6,7,9,101] fun e5 qZ=>?_;simp only[go_sem,lB] at qZ;by_cases sT:b<=(F:Int)
    rotate_left
    .obtain rfl:v=false:=by rw[<- hv];simp[cD,hA,qW,sT]
     simp only[go_sem,qZ,sT];exact aH
    obtain⟨B,rfl⟩:=tu qW;have hBF:B<=F:=aa;have uZ:=ia (MD (ls:=ls) hBF);have h5:B<F+1:=aa;have h6:(counts ls F).length=F+1:=by simp[counts]
    simp only[go_sem,qZ,sT];refine tK [0,3,4,6,7,9,106] fun e6 Cv=>?_;simp only[go_sem,qZ] at Cv;by_cases uW:0<=c
    rotate_left
    .obtain rfl:v=false:=by rw[<- hv];simp[cD,hA,qW,sT,uW]
     simp only[go_sem,Cv,uW];exact aH
    by_cases AS:c<=(cg ls B:Int)
    rotate_left
    .obtain rfl:v=false:=by rw[<- hv];simp[cD,hA,qW,sT,uW,AS]
     simp only[go_sem,uZ,Cv,uW,AS];exact aH
    obtain rfl:v=true:=by rw[<- hv];simp[cD,hA,qW,sT,uW,AS]
    simp only[go_sem,uZ,Cv,uW,AS];exact aH
   |false=>
    have pA:=mQ hA;by_cases hn:ls.length=0
    rotate_left
    .have tY:((ls.length:Int)==0)=false:=beq_false_of_ne aa;have KH:ls≠[]:=fun h=>hn (by rw[h];rfl);obtain rfl:v=false:=by rw[<- hv];simp[cD,hA,hn]
     simp only[go_sem,s129,iD,kJ pA,tY];exact aH
    have tY:((ls.length:Int)==0)=true:=by rw[hn];rfl
    have KH:=BJ.mp hn;by_cases ha:a=0
    rotate_left
    .have AU:=(od ha).1;obtain rfl:v=false:=by rw[<- hv];simp[cD,KH,ha,show iv 0 a=false by rw[<- hn];exact hA]
     simp only[go_sem,s129,iD,kJ pA,tY,AU];exact aH
    subst ha;simp only[go_sem,s129,iD,kJ pA,tY];refine tK [0,3,4,6,7,9,92] fun e7 hh7=>?_;simp only[go_sem,iD] at hh7;by_cases qW:0<=b
    rotate_left
    .obtain rfl:v=false:=by rw[<- hv];simp[cD,hn,qW]
     simp only[go_sem,hh7,qW];exact aH
    simp only[go_sem,hh7,qW];refine tK [0,3,4,6,7,9,101] fun e8 hh8=>?_;simp only[go_sem,hh7] at hh8;by_cases sT:b<=(F:Int)
    rotate_left
    .obtain rfl:v=false:=by rw[<- hv];simp[cD,hn,qW,sT]
     simp only[go_sem,hh8,sT];exact aH
    obtain⟨B,rfl⟩:=tu qW;have hBF:B<=F:=aa;have uZ:=ia (MD (ls:=ls) hBF);have h5:B<F+1:=aa;have h6:(counts ls F).length=F+1:=by simp[counts]
    simp only[go_sem,hh8,sT];refine tK [0,3,4,6,7,9,106] fun e9 hh9=>?_;simp only[go_sem,hh8] at hh9;by_cases uW:0<=c
    rotate_left
    .obtain rfl:v=false:=by rw[<- hv];simp[cD,hn,qW,sT,uW]
     simp only[go_sem,hh9,uW];exact aH
    by_cases AS:c<=(cg ls B:Int)
    rotate_left
    .obtain rfl:v=false:=by rw[<- hv];simp[cD,hn,qW,sT,uW,AS]
     simp only[go_sem,uZ,hh9,uW,AS];exact aH
    obtain rfl:v=true:=by rw[<- hv];simp[cD,hn,qW,sT,uW,AS]
    simp only[go_sem,uZ,hh9,uW,AS];exact aH
theorem W9{k:Int}(hk:k=3\/k=6):aJ S 111 [.one (.p (ek F ls)),ft k a b c l o sg] (rb (cD F ls k a b c l o sg)):=by
 obtain⟨v,hv⟩:∃v,cD F ls k a b c l o sg=v:=⟨_,rfl⟩;rw[hv];rcases hk with rfl|rfl
 all_goals
  refine bc c111 ?_;simp only[go_sem,i111,fG];refine hJ [0,3,4,5,6,7,8,9,10,41] fun e1 jA=>?_;simp only[go_sem] at jA;cases l with
  |true=>
   obtain rfl:v=false:=by rw[<- hv];simp[cD]
   simp only[go_sem,jA]
  |false=>
   simp only[go_sem,jA];refine hJ [0,3,4,5,6,7,8,9,10,53] fun e2 iC=>?_;simp only[go_sem,jA] at iC;cases o with
   |true=>
    obtain rfl:v=false:=by rw[<- hv];simp[cD]
    simp only[go_sem,iC]
   |false=>
    simp only[go_sem,iC];refine hJ [0,3,4,5,6,7,8,9,10,60] fun e3 iD=>?_;simp only[go_sem,iC] at iD;by_cases hs:sg=0
    rotate_left
    .have jk:=(od hs).1;have eW:=(od hs).2;obtain rfl:v=false:=by rw[<- hv];simp[cD,hs]
     simp only[go_sem,iD,eW]
    subst hs;cases hA:iv ls.length a with
    |false=>
     have pA:=mQ hA;obtain rfl:v=false:=by rw[<- hv];simp[cD,hA]
     simp only[go_sem,s129,iD,cq pA]
    |true=>
     have pA:=mQ hA;simp only[go_sem,s129,iD,cq pA];refine hJ [3,4,6,7,9,142] fun e4 lB=>?_;simp only[go_sem,iD] at lB;by_cases hc:c=0
     rotate_left
     .have gK:=(od hc).2;obtain rfl:v=false:=by rw[<- hv];simp[cD,hA,hc]
      simp only[go_sem,lB,gK]
     subst hc;cases hB:iv ls.length b with
     |false=>
      have pB:=mQ hB;obtain rfl:v=false:=by rw[<- hv];simp[cD,hA,hB]
      simp only[go_sem,s129,lB,cq pB]
     |true=>
      have pB:=mQ hB;simp only[go_sem,s129,lB,cq pB];refine hJ [3,4,7,172,178] fun e5 qZ=>?_;simp only[go_sem,lB] at qZ;by_cases hl:a<b
      rotate_left
      .obtain rfl:v=false:=by rw[<- hv];simp[cD,hA,hB,hl]
       simp only[go_sem,qZ,hl]
      obtain rfl:v=true:=by rw[<- hv];simp[cD,hA,hB,hl]
      simp only[go_sem,qZ,hl]
theorem agT:aJ S 111 [.one (.p (ek F ls)),ft 5 a b c l o sg] (rb (cD F ls 5 a b c l o sg)):=by
 obtain⟨v,hv⟩:∃v,cD F ls 5 a b c l o sg=v:=⟨_,rfl⟩;rw[hv];refine bc c111 ?_;simp only[go_sem,i111,fG];refine hJ [0,3,4,5,6,7,8,9,10,41] fun e1 jA=>?_;simp only[go_sem] at jA;cases l with
 |true=>
  obtain rfl:v=false:=by rw[<- hv];simp[cD]
  simp only[go_sem,jA]
 |false=>
  simp only[go_sem,jA];refine hJ [0,3,4,5,6,7,8,9,10,60] fun e2 iC=>?_;simp only[go_sem,jA] at iC;by_cases q0:sg=0
  .subst q0;obtain rfl:v=false:=by rw[<- hv];simp[cD]
   simp only[go_sem,iC]
  by_cases q1:sg=1
  rotate_left;by_cases q2:sg= -1
  rotate_left
  .have JV:=(od q0).2;have jL:=(tN q1).2;have uV:=(tN q2).2;obtain rfl:v=false:=by rw[<- hv];simp[cD,q1,q2]
   simp only[go_sem,iC,JV,jL,uV]
  .subst q1;cases hA:iv ls.length a with
   |false=>
    have pA:=mQ hA;obtain rfl:v=false:=by rw[<- hv];simp[cD,hA]
    simp only[go_sem,s129,iC,cq pA]
   |true=>
    have pA:=mQ hA;simp only[go_sem,s129,iC,cq pA];refine hJ [3,4,6,7,9,133] fun e3 iD=>?_;simp only[go_sem,iC] at iD;by_cases hb:b=0
    rotate_left
    .have cQ:=(od hb).2;obtain rfl:v=false:=by rw[<- hv];simp[cD,hA,hb]
     simp only[go_sem,iD,cQ]
    subst hb;simp only[go_sem,iD];refine hJ [3,4,6,7,9,142] fun e4 lB=>?_;simp only[go_sem,iD] at lB;by_cases hc:c=0
    rotate_left
    .have gK:=(od hc).2;obtain rfl:v=false:=by rw[<- hv];simp[cD,hA,hc]
     simp only[go_sem,lB,gK]
    subst hc;obtain rfl:v=true:=by rw[<- hv];simp[cD,hA]
    simp only[go_sem,lB]
  subst q2;cases hA:iv ls.length a with
  |false=>
   have pA:=mQ hA;obtain rfl:v=false:=by rw[<- hv];simp[cD,hA]
   simp only[go_sem,s129,iC,cq pA]
  |true=>
   have pA:=mQ hA;simp only[go_sem,s129,iC,cq pA];refine hJ [3,4,6,7,9,133] fun e5 qZ=>?_;simp only[go_sem,iC] at qZ;by_cases hb:b=0
   rotate_left
   .have cQ:=(od hb).2;obtain rfl:v=false:=by rw[<- hv];simp[cD,hA,hb]
    simp only[go_sem,qZ,cQ]
   subst hb;simp only[go_sem,qZ];refine hJ [3,4,6,7,9,142] fun e6 Cv=>?_;simp only[go_sem,qZ] at Cv;by_cases hc:c=0
   rotate_left
   .have gK:=(od hc).2;obtain rfl:v=false:=by rw[<- hv];simp[cD,hA,hc]
    simp only[go_sem,Cv,gK]
   subst hc;obtain rfl:v=true:=by rw[<- hv];simp[cD,hA]
   simp only[go_sem,Cv]
end
end
section
attribute [local go_sem ↓] fm1 fm2
section
variable {F:Nat} {ls:List Let} {a b c:Int} {l o:Bool} {sg:Int}
theorem agU:aJ S 111 [.one (.p (ek F ls)),ft 7 a b c l o sg] (rb (cD F ls 7 a b c l o sg)):=by
 obtain⟨v,hv⟩:∃v,cD F ls 7 a b c l o sg=v:=⟨_,rfl⟩;rw[hv];refine bc c111 ?_;simp only[go_sem,i111,fG];refine hJ [0,3,4,5,6,7,8,9,10,60] fun e1 jA=>?_;simp only[go_sem] at jA;by_cases hs:sg=0
 rotate_left
 .have jk:=(od hs).1;have eW:=(od hs).2;obtain rfl:v=false:=by rw[<- hv];simp[cD,hs]
  simp only[go_sem,jA,eW]
 subst hs;cases hA:iv ls.length a with
 |false=>
  have pA:=mQ hA;obtain rfl:v=false:=by rw[<- hv];simp[cD,hA]
  simp only[go_sem,s129,jA,cq pA]
 |true=>
  have pA:=mQ hA;simp only[go_sem,s129,jA,cq pA];refine hJ [3,4,6,7,9,142] fun e2 iC=>?_;simp only[go_sem,jA] at iC;by_cases hc:c=0
  rotate_left
  .have gK:=(od hc).2;obtain rfl:v=false:=by rw[<- hv];simp[cD,hA,hc]
   simp only[go_sem,iC,gK]
  subst hc;cases hB:iv ls.length b with
  |false=>
   have pB:=mQ hB;obtain rfl:v=false:=by rw[<- hv];simp[cD,hA,hB]
   simp only[go_sem,s129,iC,cq pB]
  |true=>
   have pB:=mQ hB;simp only[go_sem,s129,iC,cq pB];by_cases hn:a=b
   .subst hn;obtain rfl:v=false:=by rw[<- hv];simp[cD,hA]
    simp only[go_sem]
   have gM:=(tN hn).2;obtain rfl:v=true:=by rw[<- hv];simp[cD,hA,hB,hn]
   simp only[go_sem,gM]
theorem agV:aJ S 111 [.one (.p (ek F ls)),ft 8 a b c l o sg] (rb (cD F ls 8 a b c l o sg)):=by
 obtain⟨v,hv⟩:∃v,cD F ls 8 a b c l o sg=v:=⟨_,rfl⟩;rw[hv];refine bc c111 ?_;simp only[go_sem,i111,fG];refine hJ [0,3,4,5,6,7,8,9,10,41] fun e1 jA=>?_;simp only[go_sem] at jA;cases l with
 |true=>
  obtain rfl:v=false:=by rw[<- hv];simp[cD]
  simp only[go_sem,jA]
 |false=>
  simp only[go_sem,jA];refine hJ [0,3,4,5,6,7,8,9,10,53] fun e2 iC=>?_;simp only[go_sem,jA] at iC;cases o with
  |true=>
   obtain rfl:v=false:=by rw[<- hv];simp[cD]
   simp only[go_sem,iC]
  |false=>
   simp only[go_sem,iC];refine hJ [0,3,4,5,6,7,8,9,10,60] fun e3 iD=>?_;simp only[go_sem,iC] at iD;by_cases hs:sg=0
   rotate_left
   .have jk:=(od hs).1;have eW:=(od hs).2;obtain rfl:v=false:=by rw[<- hv];simp[cD,hs]
    simp only[go_sem,iD,eW]
   subst hs;cases hA:iv ls.length a with
   |false=>
    have pA:=mQ hA;obtain rfl:v=false:=by rw[<- hv];simp[cD,hA]
    simp only[go_sem,s129,iD,cq pA]
   |true=>
    have pA:=mQ hA;simp only[go_sem,s129,iD,cq pA];cases hB:iv ls.length b with
    |false=>
     have pB:=mQ hB;obtain rfl:v=false:=by rw[<- hv];simp[cD,hA,hB]
     simp only[go_sem,iD,cq pB]
    |true=>
     have pB:=mQ hB;cases hD:iv ls.length c with
     |false=>
      have pD:=mQ hD;obtain rfl:v=false:=by rw[<- hv];simp[cD,hA,hB,hD]
      simp only[go_sem,s129,iD,cq pB,cq pD]
     |true=>
      have pD:=mQ hD;simp only[go_sem,s129,iD,cq pB,cq pD];refine hJ [3,4,7,172,178] fun e4 lB=>?_;simp only[go_sem,iD] at lB;by_cases hl:a<b
      rotate_left
      .obtain rfl:v=false:=by rw[<- hv];simp[cD,hA,hB,hD,hl]
       simp only[go_sem,lB,hl]
      by_cases hm:b<c
      rotate_left
      .obtain rfl:v=false:=by rw[<- hv];simp[cD,hA,hB,hD,hl,hm]
       simp only[go_sem,lB,hl,hm]
      obtain rfl:v=true:=by rw[<- hv];simp[cD,hA,hB,hD,hl,hm]
      simp only[go_sem,lB,hl,hm]
theorem agR(k:Int):aJ S 111 [.one (.p (ek F ls)),ft k a b c l o sg] (rb (cD F ls k a b c l o sg)):=by
 by_cases h1:k=1
 .subst h1;exact Mu ae
 by_cases h2:k=2
 .subst h2;exact agS
 by_cases h3:k=3
 .subst h3;exact W9 ae
 by_cases h4:k=4
 .subst h4;exact Mu ae
 by_cases h5:k=5
 .subst h5;exact agT
 by_cases h6:k=6
 .subst h6;exact W9 ae
 by_cases h7:k=7
 .subst h7;exact agU
 by_cases h8:k=8
 .subst h8;exact agV
 by_cases h9:k=9
 .subst h9;exact Mu ae
 by_cases dC:k=10
 .subst dC;exact Mu ae
 rw[show cD F ls k a b c l o sg=false by simp[cD,h1,h2,h3,h4,h5,h6,h7,h8,h9,dC]];have e1:=(tN h1).1;have e2:=(tN h2).1;have e3:=(tN h3).1;have e4:=(tN h4).1;have e5:=(tN h5).1;have e6:=(tN h6).1;have e7:=(tN h7).1;have e8:=(tN h8).1;have e9:=(tN h9).1;have DW:=(tN dC).1;refine bc c111 ?_;simp only[go_sem,i111,fG,e1,e2,e3,e4,e5,e6,e7,e8,e9,DW]
end
end
structure Swo {α:Type} (lt:α->α->Bool):Prop where
 asym:∀a b,lt a b=true->lt b a=false
 ntrans:∀a b c,lt b a=false->lt c b=false->lt c a=false
def tD{α:Type}(lt:α->α->Bool)(ws:List α)(a b:Nat):Prop:=∀p q x y,a<=p->p<q->q<b->ws[p]?=some x->ws[q]?=some y->lt y x=false
structure xf {α:Type} (lt:α->α->Bool) (zs ws:List α) (x:α) (a i j:Nat):Prop where
 perm:ws.Perm zs
 le:a<=j/\j<=i/\i<ws.length
 at':ws[j]?=some x
 up:∀p y,j<p->p<=i->ws[p]?=some y->lt x y=true
 so:∀p q y z,a<=p->p<q->q<=i->p≠j->q≠j->ws[p]?=some y->ws[q]?=some z->lt z y=false
 out:∀p,p<a\/i<p->ws[p]?=zs[p]?
theorem xf.start{α:Type}{lt:α->α->Bool}{zs:List α}{x:α}{a i:Nat}(ha:a<=i)(hi:zs[i]?=some x)(hs:tD lt zs a i):xf lt zs zs x a i i:=
 ⟨.refl _,⟨ha,cA _,(aY.1 hi).1⟩,hi,fun p y h1 h2=>aa,fun p q y z h0 h1 h2 h3 h4=>hs p q y z h0 h1 aa,fun _ _=>rfl⟩
theorem swap_perm{α:Type}{ws:List α}{i j:Nat}{x y:α}(hi:ws[i]?=some x)(hj:ws[j]?=some y):((ws.set i y).set j x).Perm ws:=by obtain⟨h1,e1⟩:=aY.1 hi;obtain⟨h2,e2⟩:=aY.1 hj;have:=List.set_set_perm h1 h2;rwa[e1,e2] at this
theorem xf.step{α:Type}{lt:α->α->Bool}{zs ws:List α}{x y:α}{a i j:Nat}(o:Swo lt)(h:xf lt zs ws x a i (j+1))(hj:a<=j)(hy:ws[j]?=some y)(au:lt x y=true):
  xf lt zs ((ws.set (j+1) y).set j x) x a i j:=by
 obtain⟨hp,⟨_,hle,hl⟩,jz,ue,Hl,nE⟩:=h;have Et:j<ws.length:=(aY.1 hy).1;have get:∀p,((ws.set (j+1) y).set j x)[p]?=if p=j then some x else if p=j+1 then some y else ws[p]? :=fun p=>by
  rw[nW,nW,rD];by_cases e1:j=p
  .subst e1;simp[Et]
  by_cases e2:j+1=p
  .subst e2;have:¬(j+1=j):=aa;rw[aD e1,aE rfl,aE aa,aD this,aE rfl]
  rw[aD e1,aD e2,aD (fun h=>e1 h.symm),aD (fun h=>e2 h.symm)]
 refine⟨(swap_perm jz hy).trans hp,⟨hj,aa,by simp;omega⟩,by rw[get];simp,?_,?_,?_⟩
 .intro p z h1 h2 hz;rw[get,aD aa] at hz;by_cases e:p=j+1
  .rw[aE e] at hz;cases hz;exact au
  rw[aD e] at hz;exact ue p z aa h2 hz
 .intro p q u v h0 h1 h2 h3 h4 hu hv;rw[get,aD h3] at hu;rw[get,aD h4] at hv;by_cases e:p=j+1
  .rw[aE e] at hu;cases hu;rw[aD aa] at hv;exact Hl j q _ _ hj aa h2 aa aa hy hv
  rw[aD e] at hu;by_cases e2:q=j+1
  .rw[aE e2] at hv;cases hv;exact Hl p j _ _ h0 aa aa e aa hu hy
  rw[aD e2] at hv;exact Hl p q _ _ h0 h1 h2 e e2 hu hv
 intro p fg;rw[get,aD aa,aD aa,nE p fg]
theorem xf.stop{α:Type}{lt:α->α->Bool}{zs ws:List α}{x:α}{a i j:Nat}(o:Swo lt)(h:xf lt zs ws x a i j)(hj:j=a\/ ∃y,a<j/\ws[j-1]?=some y/\lt x y=false):tD lt ws a (i+1):=by
 obtain⟨hp,⟨hja,hle,hl⟩,jz,ue,Hl,nE⟩:=h;intro p q u v h0 h1 h2 hu hv;by_cases e:q=j
 .subst e;rw[jz] at hv;cases hv;rcases hj with hj|⟨y,Bi,hy,jD⟩
  .omega
  by_cases e3:p=q-1
  .subst e3;rw[hy] at hu;cases hu;exact jD
  exact o.ntrans _ _ _ (Hl p (q-1) _ _ h0 aa aa aa aa hu hy) jD
 by_cases e2:p=j
 .subst e2;rw[jz] at hu;cases hu;exact o.asym _ _ (ue q v h1 aa hv)
 exact Hl p q u v h0 h1 aa e2 e hu hv
theorem tD.mono{α:Type}{lt:α->α->Bool}{ws:List α}{a b c:Nat}(h:tD lt ws a c)(hb:b<=c\/ws.length<=c):tD lt ws a b:=fun p q x y h0 h1 h2 hx hy=>h p q x y h0 h1 (by
 rcases hb with hb|hb
 .omega
 have:=(aY.1 hy).1;omega) hx hy
abbrev qI(a b:Int):Bool:=decide (a<b)
theorem VJ:Swo qI:=⟨fun a b h=>by simp at*;omega,fun a b c h k=>by simp at*;omega⟩
theorem am6(a:Int):aJ S 242 [vi a] (rb false):=by refine bc c242 ?_;have h:(a !=a)=false:=af;simp only[go_sem,i242,h]
theorem amy(a b:Int):aJ S 221 [vi a,vi b] (rb (qI a b)):=by have pn:=am6 a;refine bc c221 ?_;simp only[go_sem,i221,s242,cq pn,qI]
theorem Qj(n:Nat)(h:n<=1000000):∃k:Int,aJ S 184 [.one (.p (.int .u64 n))] (ri k):=by
 refine⟨((Lib.bitLen n:Nat):Int),⟨1,?_⟩⟩;have hp:S.prim 184 [.one (.p (.int .u64 (n:Int)))]=some (some (ri ((Lib.bitLen n:Nat):Int))):=by show some (Lu [.one (.p (.int .u64 (n:Int)))])=_;simp only[Lu];rw[aE ⟨aa,aa⟩];rfl
 rw[fL,hp]
theorem T8(o:List Int)(k:Nat)(v:Int):(iP o).set k [.int .i64 v]=iP (o.set k v):=by simp[zX]
theorem vg(o:List Int):(iP o).length=o.length:=cG _
def Dv(lt:Int->Int->Bool)(id g ty:Nat)(es:List Int)(aj:aA)(v:V)(ao:aA):Prop:=v=.tup []/\(∃ws:List Int,ao id=(g,some (.arr ty 1 (iP ws)))/\ws.Perm es/\tD lt ws 0 ws.length)/\Kept (· =id) aj ao
theorem alN{al:Al}{aj:aA}{id g ty:Nat}{es:List Int}(o:al.ok id=true)(hl:es.length<=1000000)(hC:aj id=(g,some (.arr ty 1 (iP es)))):
  ∃v ao,iA S 215 [.one (.hsl id g 1 0 es.length),vi 0,vi es.length] al aj v ao/\Dv qI id g ty es aj v ao:=by
 refine mz c215 (gj rfl) ?_;have w0:IntKind.i64.wrap (0+1)=((0+1:Nat):Int):=ae;simp only[go_sem,i215];refine cS (fun k ak ao=>ak 0=.one (.hsl id g 1 0 es.length)/\ak 1=vi 0/\ak 2=vi es.length/\ak 6=vi ((k+1:Nat):Int)/\ ∃zs:List Int,ao id=(g,some (.arr ty 1 (iP zs)))/\zs.Perm es/\tD qI zs 0 (k+1)/\Kept (· =id) aj ao) 0 es.length (bn _) ?_ ?_
 .simp only[go_sem];exact⟨rfl,es,hC,.refl _,fun p q x y _ h1 h2=>aa,Kept.refl _ _⟩
 rintro k ak bt hk ⟨h0,h1,h2,h6,zs,hZ,hp,hs,cT⟩
 have kN:=hp.length_eq;by_cases au:k+1<es.length
 .have aL:((k+1:Nat):Int)<(es.length:Int):=aa;obtain⟨x,hx⟩:=aN (ls:=zs) (k:=k+1) aa;simp only[go_sem,i215_l3,h2,h6,aL];refine cS (fun q ak ao=>ak 0=.one (.hsl id g 1 0 es.length)/\ak 1=vi 0/\ak 2=vi es.length/\ak 6=vi ((k+1:Nat):Int)/\ak 7=vi ((k+1-q:Nat):Int)/\ ∃ws:List Int,ao id=(g,some (.arr ty 1 (iP ws)))/\xf qI zs ws x 0 (k+1) (k+1-q)/\Kept (· =id) aj ao) 0 (k+1) (bn _) ?_ ?_
  .simp only[go_sem,h0,h1,h2,h6];exact⟨zs,hZ,xf.start (bn _) hx hs,cT⟩
  rintro q cP bd hq ⟨k0,k1,k2,k6,k7,ws,hW,hI,Ew⟩
  have kM:ws.length=es.length:=hI.perm.length_eq.trans kN;have wk:IntKind.i64.wrap (((k+1:Nat):Int)+1)=((k+1+1:Nat):Int):=bQ (n:=k+1) aa;by_cases hj0:k+1-q=0
  .have e7:¬((0:Int)<((k+1-q:Nat):Int)):=aa;simp only[go_sem,i215_l1,i215_r2,k0,k1,k2,k6,k7,e7,wk];refine⟨aH,aa,ws,hW,hI.perm.trans hp,hI.stop VJ (.inl hj0),Ew⟩
  obtain⟨j,hj⟩:∃j,k+1-q=j+1:=⟨k-q,aa⟩;have e7:((0:Int)<((j+1:Nat):Int)):=aa;obtain⟨y,hy⟩:=aN (ls:=ws) (k:=j) aa;rw[hj] at hI k7;have wj:IntKind.i64.wrap (((j+1:Nat):Int)-1)=(j:Int):=by rw[ux aa];omega
  have zk:=wE hI.at';have Bi:=wE hy;have j1:j+1<es.length:=by have:=hI.le;omega
  have j2:j<es.length:=aa;have pl:=amy x y;cases jD:qI x y with
  |false=>rw[jD] at pl;simp only[go_sem,i215_l1,i215_r2,k0,k1,k2,k6,k7,e7,wk,wj,hW,zk,Bi,j1,j2,o,s221,MF pl];refine⟨aH,aa,ws,rfl,hI.perm.trans hp,hI.stop VJ (.inr ⟨y,aa,hy,jD⟩),Ew⟩
  |true=>rw[jD] at pl;have xL:=hI.step VJ (bn _) hy jD;have hjj:¬(j+1=j):=aa;have l1:j+1<ws.length:=aa;have l2:j<ws.length:=aa;simp only[go_sem,i215_l1,i215_r2,k0,k1,k2,k6,k7,e7,wj,hW,zk,Bi,j1,j2,l1,hjj,o,s221,MF pl,nW,vg];have KO:k+1-(q+1)=j:=aa;refine⟨aH,aH,aa,by rw[KO],(ws.set (j+1) y).set j x,by rw[T8,T8],by rw[KO];exact xL,(Ew.df rfl _).df rfl _⟩
 have aL:¬(((k+1:Nat):Int)<(es.length:Int)):=aa;simp only[go_sem,i215_l3,h2,h6,aL];exact⟨rfl,⟨zs,hZ,hp,hs.mono (.inl aa)⟩,cT⟩
theorem yP{Q:dS}{al:Al}{ak:Env}{aj:aA}{os:List bR}{d:Option Nat}{f id g ty z o n:Nat}{vs:List V}{es:List (List PV)}{P:V->aA->Prop}(hC:aj id=(g,some (.arr ty z es)))(pR:(vs.map (jr aj)).flatten=[])(hh:al=.all\/al.ok id=true/\(S.sites f).all al.fs.contains=true)
  (h:∀pz,pz.ok id=true->pz.fs=S.sites f->∃v ao,iA S f (.one (.hsl id g z o n)::vs) pz aj v ao/\P v ao)
  (hK:∀v ao,P v ao->RN S al os Q (put ak d v) ao):gP S al (.sc f (.one (.hsl id g z o n)::vs)) d os Q ak aj:=by
 have hr:((V.one (.hsl id g z o n)::vs).map (jr aj)).flatten=[id]:=by rw[eE,kX,pR,HZ hC];rfl
 refine rV (P:=P) ?_ (h _ (xl (by rw[hr];simp)) rfl) hK;rcases hh with rfl|⟨h1,h2⟩
 .rfl
 refine holds_of ?_ h2;show al.fE ((V.one (.hsl id g z o n)::vs).map (jr aj)).flatten=true;rw[hr];simp[Al.fE,h1]
theorem anK{al:Al}{aj:aA}{id g ty:Nat}{es:List Int}(o:al.ok id=true)(f1:al.fs.contains 215=true)(hl:es.length<=12)(hC:aj id=(g,some (.arr ty 1 (iP es))))(lim:Int):
  ∃v ao,iA S 194 [.one (.hsl id g 1 0 es.length),vi 0,vi es.length,vi lim] al aj v ao/\Dv qI id g ty es aj v ao:=by
 refine mz c194 (gj rfl) ?_;have w0:IntKind.i64.wrap ((es.length:Int)-0)=(es.length:Int):=by rw[Int.sub_zero];exact nT aa aa
 have l8:(es.length:Int)<=12:=aa;simp only[go_sem,i194];refine lU ?_;simp only[go_sem,i194_l1,w0,l8,s215];refine yP hC (by rfl) (.inr ⟨o,by rw[show S.sites 215=[215] by kernel_rfl];simp only[qM,tv,f1,Fy]⟩) (P:=Dv qI id g ty es aj) (fun pz h1 _=>alN h1 aa hC) fun v ao hP=>?_;obtain⟨rfl,h2⟩:=hP;simp only[go_sem];exact⟨rfl,h2⟩
theorem VE{al:Al}{aj:aA}{id g ty:Nat}{es:List Int}(o:al.ok id=true)(f1:(S.sites 194).all al.fs.contains=true)(hl:es.length<=12)(hC:aj id=(g,some (.arr ty 1 (iP es)))):
  ∃v ao,iA S 169 [.one (.hsl id g 1 0 es.length)] al aj v ao/\Dv qI id g ty es aj v ao:=by
 obtain⟨k,pb⟩:=Qj es.length aa;have wu:IntKind.u64.wrap (es.length:Int)=(es.length:Int):=by
  have e:IntKind.u64.wrap (es.length:Int)=(es.length:Int)%18446744073709551616:=by unfold IntKind.wrap;rfl
  rw[e];omega
 refine mz c169 (gj rfl) ?_;have sbl:S.shared 184=false:=ah;simp only[go_sem,i169,wu,sbl,Tj pb,s194];refine yP hC (by rfl) (.inr ⟨o,f1⟩) (P:=Dv qI id g ty es aj) (fun pz h1 h2=>anK h1 (by rw[h2];kernel_rfl) hl hC k) fun v ao hP=>?_;obtain⟨rfl,h2⟩:=hP;simp only[go_sem];exact⟨rfl,h2⟩
def ko(ws:List Int):Nat->List Int
 |0=>[]
 |k+1=>match ws[k]? with
  |some x=>if 0<k/\ws[k-1]?=some x then ko ws k else ko ws k++[x]
  |none=>ko ws k
theorem XZ(ws:List Int):∀k,(ko ws k).length<=k:=by
 intro k
 induction k with
 |zero=>exact cA _
 |succ k ih=>
  unfold ko;split
  .split
   .omega
   simp;omega
  omega
theorem QE{k:Nat}(h:ws[k+1]?=some x)(hp:ws[k]?=some x):ko ws (k+2)=ko ws (k+1):=by
 conv=>lhs;unfold ko
 rw[h];simp[hp]
theorem QC{k:Nat}{y:Int}(h:ws[k+1]?=some x)(hp:ws[k]?=some y)(hn:¬x=y):ko ws (k+2)=ko ws (k+1)++[x]:=by
 conv=>lhs;unfold ko
 rw[h];have:¬y=x:=fun e=>hn e.symm;simp[hp,this]
theorem aif(h:ws[0]?=some x):ko ws 1=[x]:=by simp[ko,h]
def Oa(ws:List Int)(k:Nat):Prop:=∀i x y,i+1<k->ws[i]?=some x->ws[i+1]?=some y-> ¬y=x
theorem QD:∀k,k<=ws.length->Oa ws k->ko ws k=ws.take k:=by
 intro k
 induction k with
 |zero=>intro _ _;rfl
 |succ k ih=>
  intro hk h;obtain⟨x,hx⟩:=aN (ls:=ws) (k:=k) aa;have e:=ih aa fun i x y h1=>h i x y aa;have ht:ws.take (k+1)=ws.take k++[x]:=by rw[iw,hx];rfl
  rcases k with _|k
  .rw[aif hx,ht];rfl
  obtain⟨y,hy⟩:=aN (ls:=ws) (k:=k) aa;rw[QC hx hy (h k y x aa hy hx),e,ht]
structure xx (ws cs:List Int) (k q:Nat):Prop where
 len:cs.length=ws.length
 kl:k=(ko ws q).length
 pre:cs.take k=ko ws q
 out:∀p,q-1<=p->cs[p]?=ws[p]?
 kq:k<q
theorem xx.step{cs:List Int}{k q:Nat}{y:Int}(h:xx ws cs k (q+1))(hx:ws[q+1]?=some x)(hy:ws[q]?=some y)(hn:¬x=y):xx ws (cs.set k x) (k+1) (q+2):=by
 obtain⟨h1,h2,h3,h4,h5⟩:=h;have hl:=XZ ws (q+1);have hq:q+1<ws.length:=(aY.1 hx).1;refine⟨by simpa using h1,by rw[QC hx hy hn,fH,<- h2];rfl,?_,fun p hp=>?_,aa⟩
 .rw[QC hx hy hn,iw,nW];have:k<cs.length:=aa;rw[aE rfl,aE this,List.take_set_of_le (cA _),h3];rfl
 rw[nW,aD aa];exact h4 p aa
theorem xx.skip{cs:List Int}{k q:Nat}(h:xx ws cs k (q+1))(hx:ws[q+1]?=some x)(hy:ws[q]?=some x):xx ws cs k (q+2):=by obtain⟨h1,h2,h3,h4,h5⟩:=h;exact⟨h1,by rw[QE hx hy];exact h2,by rw[QE hx hy];exact h3,fun p hp=>h4 p aa,aa⟩
theorem xx.start{k:Nat}(hk:k+1<ws.length)(h:Oa ws (k+1))(hx:ws[k+1]?=some x)(hy:ws[k]?=some x):xx ws ws (k+1) (k+2):=by have e:=QD (k+1) aa h;have e2:ko ws (k+2)=ws.take (k+1):=(QE hx hy).trans e;exact⟨rfl,by rw[e2];simp;omega,by rw[e2],fun _ _=>rfl,aa⟩
def Qq(id g ty:Nat)(ws:List Int)(aj:aA)(v:V)(ao:aA):Prop:=v=.one (.hsl id g 1 0 (ko ws ws.length).length)/\(∃cs:List Int,ao id=(g,some (.arr ty 1 (iP cs)))/\cs.length=ws.length/\cs.take (ko ws ws.length).length=ko ws ws.length)/\Kept (· =id) aj ao
theorem als{cs:List Int}{k:Nat}(hk:k<=cs.length):List.take k (iP cs)++List.replicate (cs.length-k) [PV.int .i64 0]++List.drop (k+(cs.length-k)) (iP cs)=iP (cs.take k++List.replicate (cs.length-k) 0):=by rw[afE (by simp;omega),qh];simp only[iP,km,List.map_replicate,Pz]
theorem XN{al:Al}{aj:aA}{id g ty:Nat}(o:al.ok id=true)(hl:ws.length<=1000000)(hC:aj id=(g,some (.arr ty 1 (iP ws)))):
  ∃v ao,iA S 170 [.one (.hsl id g 1 0 ws.length)] al aj v ao/\Qq id g ty ws aj v ao:=by
 refine mz c170 (gj rfl) ?_;by_cases h2:ws.length<2
 .have iS:((ws.length:Int)<2):=aa;have eV:Oa ws ws.length:=fun i x y h=>aa;have e:=QD ws.length (cA _) eV;rw[jf] at e;simp only[go_sem,i170,iS];exact⟨by rw[e],⟨ws,hC,rfl,by rw[e,jf]⟩,Kept.refl _ _⟩
 have iS:¬((ws.length:Int)<2):=aa;simp only[go_sem,i170,iS];refine cS (fun q ak ao=>ak 0=.one (.hsl id g 1 0 ws.length)/\ak 3=vi ((q+1:Nat):Int)/\Oa ws (q+1)/\ao=aj) 0 ws.length (bn _) ?_ ?_
 .simp only[go_sem];exact⟨rfl,fun i x y h=>aa⟩
 rintro q ak bt hq ⟨h0,h3,eV,rfl⟩
 by_cases au:q+1<ws.length
 .have aL:(((q+1:Nat):Int)<(ws.length:Int)):=aa;obtain⟨x,hx⟩:=aN (ls:=ws) (k:=q+1) au;obtain⟨y,hy⟩:=aN (ls:=ws) (k:=q) aa;have zk:=wE hx;have Bi:=wE hy;have wj:IntKind.i64.wrap (((q+1:Nat):Int)-1)=(q:Int):=by rw[ux aa];omega
  have wk:=bQ (n:=q+1) aa;have q1:q<ws.length:=aa;have q2:q+1<=ws.length:=aa;by_cases e:x=y
  .subst e;simp only[go_sem,i170_l4,h0,h3,au,aL,zk,Bi,wj,q1,q2,hC,o];refine⟨aH,?_⟩;refine cS (fun r ak ao=>ak 0=.one (.hsl id g 1 0 ws.length)/\ak 4=.one (.hsl id g 1 (q+1) (ws.length-(q+1)))/\ak 5=vi ((r+1:Nat):Int)/\ ∃(cs:List Int) (k:Nat),ak 3=vi (k:Nat)/\ao id=(g,some (.arr ty 1 (iP cs)))/\xx ws cs k (q+2+r)/\q+2+r<=ws.length/\Kept (· =id) bt ao) 0 ws.length (bn _) ?_ ?_
   .simp only[go_sem,h0];exact⟨rfl,ws,q+1,h3,hC,xx.start au eV hx hy,aa,Kept.refl _ _⟩
   rintro r cP bd hr ⟨k0,k4,k5,cs,k,k3,hB,hI,hqr,cT⟩
   have dM:=hI.len;have dN:=hI.kl;have hkle:=XZ ws (q+2+r);have hkq:=hI.kq;have hI':xx ws cs k (q+1+r+1):=by rw[show q+1+r+1=q+2+r by omega];exact hI
   by_cases Nx:r+1<ws.length-(q+1)
   .have Ny:(((r+1:Nat):Int)<((ws.length-(q+1):Nat):Int)):=aa;obtain⟨u,hu⟩:=aN (ls:=ws) (k:=q+1+(r+1)) aa;obtain⟨v,hv⟩:=aN (ls:=ws) (k:=q+1+r) aa;have cu:=wE ((hI.out (q+1+(r+1)) aa).trans hu);have cv:=wE ((hI.out (q+1+r) aa).trans hv);have wr:IntKind.i64.wrap (((r+1:Nat):Int)-1)=(r:Int):=by rw[ux aa];omega
    have wr2:=bQ (n:=r+1) aa;have wk2:=bQ (n:=k) aa;have r1:r<ws.length-(q+1):=aa;have kk:k<ws.length:=aa;have kk2:k<cs.length:=aa;obtain⟨z,hz⟩:=aN kk2;have cz:=wE hz;by_cases e2:u=v
    .subst e2;have CQ:(u !=u)=false:=af;have xL:=hI'.skip (by rw[show q+1+r+1=q+1+(r+1) by omega];exact hu) hv;simp only[go_sem,i170_l1,k0,k4,k5,k3,Nx,Ny,r1,hB,cu,cv,wr,wr2,CQ,o];refine⟨aH,aa,cs,k,rfl,rfl,by rw[show q+2+(r+1)=q+1+r+2 by omega];exact xL,aa,cT⟩
    have CQ:=(show(u !=v)=true by simp[e2]);simp only[go_sem,i170_l1,k0,k4,k5,k3,Nx,Ny,r1,hB,cu,cv,wr,wr2,wk2,kk,cz,CQ,o];have xL:=hI'.step (by rw[show q+1+r+1=q+1+(r+1) by omega];exact hu) hv e2;refine⟨aH,aa,cs.set k u,k+1,rfl,by rw[T8],by rw[show q+2+(r+1)=q+1+r+2 by omega];exact xL,aa,cT.df rfl _⟩
   have Ny:¬(((r+1:Nat):Int)<((ws.length-(q+1):Nat):Int)):=aa;have kk3:k<=ws.length:=aa;have kk4:k+(ws.length-k)<=cs.length:=aa;have aM:¬(ws.length-k=0):=aa;have Eo:q+2+r=ws.length:=aa;rw[Eo] at hI;have mM:=als (cs:=cs) (k:=k) aa;rw[dM] at mM;simp only[go_sem,i170_l1,i170_r2,k0,k4,k5,k3,Ny,hB,o,kk3,kk4,aM,Wm,vg,mM];obtain⟨i1,i2,i3,i4,i5⟩:=hI;refine⟨by rw[<- i2],⟨_,rC,by simp;omega,?_⟩,cT.df rfl _⟩;rw[<- i2,List.take_left' (by simp;omega),i3]
  have e1:=(show(x==y)=false by simp[e]);simp only[go_sem,i170_l4,i170_r3,h0,h3,au,aL,zk,Bi,wj,wk,q1,hC,o,e1];refine⟨aH,fun i u v h h4 h5=>?_⟩;by_cases e2:i=q
  .subst e2;rw[hy] at h4;rw[hx] at h5;cases h4;cases h5;exact e
  exact eV i u v aa h4 h5
 have aL:¬(((q+1:Nat):Int)<(ws.length:Int)):=aa;have e:=QD ws.length (cA _) (fun i x y h=>eV i x y aa);rw[jf] at e;simp only[go_sem,i170_l4,i170_r5,h0,h3,aL];exact⟨by rw[e],⟨ws,hC,rfl,by rw[e,jf]⟩,Kept.refl _ _⟩
def lY:List Int->List Int
 |[]=>[]
 |x::r=>if x∈r then lY r else x::lY r
theorem MH:∀ {l:List Int},x∈lY l↔x∈l:=by
 intro l
 induction l with
 |nil=>simp[lY]
 |cons y r ih=>
  unfold lY;split
  .rename_i h;rw[ih,dh];constructor
   .exact .inr
   rintro (rfl|h2)
   .exact h
   exact h2
  rw[dh,dh,ih]
theorem aiv:∀l:List Int,(lY l).Nodup:=by
 intro l
 induction l with
 |nil=>exact w8
 |cons y r ih=>
  unfold lY;split
  .exact ih
  rename_i h;exact qj.2 ⟨fun h2=>h (MH.1 h2),ih⟩
theorem X0:∀k,k<=ws.length->(x∈ko ws k↔x∈ws.take k):=by
 intro k
 induction k with
 |zero=>intro _;simp[ko]
 |succ k ih=>
  intro hk;obtain⟨y,hy⟩:=aN (ls:=ws) (k:=k) aa;have ht:ws.take (k+1)=ws.take k++[y]:=by rw[iw,hy];rfl
  have ih:=ih aa;unfold ko;rw[hy,ht];simp only;split
  .rename_i h;obtain⟨h1,h2⟩:=h;have hm:y∈ws.take k:=by
    rw[List.mem_take_iff_getElem];obtain⟨h3,h4⟩:=aY.1 h2;exact⟨k-1,aa,h4⟩
   rw[ih,fi];constructor
   .exact .inl
   rintro (h|h)
   .exact h
   simp at h;subst h;exact hm
  rw[fi,fi,ih]
theorem aie(hs:tD qI ws 0 ws.length):∀k,k<=ws.length->(ko ws k).Nodup:=by
 intro k
 induction k with
 |zero=>intro _;exact w8
 |succ k ih=>
  intro hk;obtain⟨y,hy⟩:=aN (ls:=ws) (k:=k) aa;have ih:=ih aa;unfold ko;rw[hy];simp only;split
  .exact ih
  rename_i h;rw[FD];refine⟨ih,af,fun z hz w hw=>?_⟩;simp at hw;subst hw;rintro rfl
  rw[X0 k aa,List.mem_take_iff_getElem] at hz;obtain⟨p,hp,hpz⟩:=hz;have ua:p<k:=aa;have mh:ws[p]?=some z:=by rw[nU aa,hpz]
  obtain⟨u,hu⟩:=aN (ls:=ws) (k:=k-1) aa;have s1:=hs (k-1) k u z (bn _) aa aa hu hy;have huz:u=z:=by
   by_cases e:p=k-1
   .rw[e,hu] at mh;cases mh;rfl
   have s2:=hs p (k-1) z u (bn _) aa aa mh hu;simp at s1 s2;omega
  rw[huz] at hu;exact h ⟨aa,hu⟩
theorem XM{es:List Int}(hp:ws.Perm es)(hs:tD qI ws 0 ws.length):(ko ws ws.length).length=(lY es).length:=by refine List.Perm.length_eq ((List.perm_ext_iff_of_nodup (aie hs _ (cA _)) (aiv es)).2 fun x=>?_);rw[X0 _ (cA _),jf,MH,hp.mem_iff]
def Au(ls:List Let)(e:Nat):Bool:=((pA ls e).l.kind==2)&&((pA ls (nx ls e)).l.kind==2)
def uv(ls:List Let)(es:List Nat):List Int:=es.flatMap fun e:Nat=>[(e:Int),(nx ls e:Int)]
def vu(ls:List Let)(es:List Nat):List Int:=es.flatMap fun e:Nat=>[(pA ls e).l.id,(pA ls (nx ls e)).l.id]
def Ip(F:Nat)(ls:List Let)(a b c:Nat):Bool:=[a,b,c].all (Au ls)&&(((lY (uv ls [a,b,c])).length==6)&&(((lY (vu ls [a,b,c])).length==3)&&([a,b,c].any (iB ls · true)&&([a,b,c].any (iB ls · false)&&lW F ls 0 [a,b,c] a))))
def wT(F:Nat)(ls:List Let)(a b c:Nat):Option (List Pc):=if Ip F ls a b c then some (ie ls (pieces ls) [a,b,c]) else none
theorem O4(f:Nat->List Int)(hf:∀e,(f e).length=2):∀l:List Nat,(l.flatMap f).length=2*l.length:=by
 intro l
 induction l with
 |nil=>rfl
 |cons a r ih=>rw[List.flatMap_cons,fH,ih,hf,dp];omega
theorem ZV(f:Nat->List Int)(l:List Nat)(k e:Nat)(h:l[k]?=some e):(l.take (k+1)).flatMap f=(l.take k).flatMap f++f e:=by rw[iw,h];simp
theorem W7(f:Nat->Bool)(l:List Nat)(k e:Nat)(h:l[k]?=some e):(l.take (k+1)).any f=((l.take k).any f||f e):=by rw[iw,h];simp
theorem agx(f:Nat->Bool)(l:List Nat)(k e:Nat)(h:l[k]?=some e):(l.take (k+1)).all f=((l.take k).all f&&f e):=by rw[iw,h];simp
theorem afc(f:Nat->List Int)(es:List Nat)(x y:Int):iP (es.flatMap f)++[[PV.int .i64 x],[PV.int .i64 y]]=iP (es.flatMap f++[x,y]):=af
theorem arl{F:Nat}(g:bK F ls){av bv cv:Nat}(ha:av<ls.length)(hb:bv<ls.length)(hc:cv<ls.length){k:Int}{l o:Bool}{sg:Int}:
  aJ S 137 [.one (.p (ek F ls)),ft k av bv cv l o sg] (kR (wT F ls av bv cv)):=by
 have hlen:=g.len;have bG:=fG ls;have mf:∀e∈[av,bv,cv],e<ls.length:=fun e h=>by simp at h;rcases h with rfl|rfl|rfl<;>assumption
 generalize hE:[av,bv,cv]=es at*;have di:es.length=3:=by rw[<- hE];rfl
 have KH:nP [av,bv,cv]=[[.int .i64 av],[.int .i64 bv],[.int .i64 cv]]:=rfl;rw[hE] at KH;have w3:((3:Nat):Int)=3:=rfl;refine bc c137 ?_;simp only[go_sem,i137];refine cS (fun j ak aj=>ak 0=.one (.p (ek F ls))/\ak 6=.one (.hsl 8768064384 1 1 0 3)/\ak 22=.one (.hsl 8768064384 1 1 0 3)/\ak 23=vi 3/\ak 24=vi j/\aj 8768064384=(1,some (.arr 3 1 (nP es)))/\(es.take j).all (Au ls)=true/\
  ak 9=vb ((es.take j).any (iB ls · true))/\ak 10=vb ((es.take j).any (iB ls · false))/\ ∃c7 c8,ak 7=.one c7/\ak 8=.one c8/\grown 8768640256 3 1 (iP (uv ls (es.take j))) (.one c7) aj/\grown 8768705280 3 1 (iP (vu ls (es.take j))) (.one c8) aj) 0 3 (bn _) ?_ ?_
 .simp only[go_sem];exact⟨rfl,rfl,by rw[KH],rfl,rfl,_,_,rfl,rfl,grown.nil,grown.nil⟩
 rintro j ak aj hj ⟨h0,h6,uV,vO,rX,b6,dx,h9,dC,c7,c8,h7,h8,g7,g8⟩
 by_cases au:j<3
 .have aL:((j:Int)<3):=aa;obtain⟨e,he⟩:=aN (ls:=es) (k:=j) aa;have Kq:=mf e (aW he);have Be:=ia he;have pe:=Ay g Kq;have hm:=dK (e+1) (show 0<ls.length by omega);obtain⟨P,hP⟩:=aN (ls:=pieces ls) (k:=e) aa;obtain⟨Q,hQ⟩:=aN (ls:=pieces ls) (k:=(e+1)%ls.length) aa;have vU:=iZ hP;have haq:=iZ hQ;have w1:=bQ (n:=j) aa;have po:=F6 g Kq true;have pu:=F6 g Kq false;have fk:Au ls e=((P.l.kind==2)&&(Q.l.kind==2)):=by unfold Au;rw[jo hP,jo hQ]
  have hl7:(iP (uv ls (es.take j))).length<=100:=by unfold uv;rw[vg,O4 _ (fun _=>rfl),iF];omega
  have hl8:(iP (vu ls (es.take j))).length<=100:=by unfold vu;rw[vg,O4 _ (fun _=>rfl),iF];omega
  have dm:Au ls e=false->wT F ls av bv cv=none:=fun h=>by
   have:es.all (Au ls)=false:=by
    cases hh:es.all (Au ls) with
    |false=>rfl
    |true=>rw[ij.1 hh e (aW he)] at h;cases h
   unfold wT Ip;rw[hE,this];rfl
  cases k1:(P.l.kind==2) with
  |false=>
   rw[k1] at fk;have k1':(P.l.kind !=2)=true:=by simp only[bne,k1];rfl
   rw[dm fk];simp only[go_sem,i137_l1,h0,uV,vO,rX,b6,au,aL,Be,s156,cK pe gn,vU,Pc.ps,k1'];rfl
  |true=>
   have k1':(P.l.kind !=2)=false:=by simp only[bne,k1];rfl
   cases k2:(Q.l.kind==2) with
   |false=>
    rw[k1,k2] at fk;have k2':(Q.l.kind !=2)=true:=by simp only[bne,k2];rfl
    rw[dm fk];simp only[go_sem,i137_l1,h0,uV,vO,rX,b6,au,aL,Be,s156,cK pe gn,vU,haq,Pc.ps,k1',k2'];rfl
   |true=>
    rw[k1,k2] at fk;have k2':(Q.l.kind !=2)=false:=by simp only[bne,k2];rfl
    simp only[go_sem,i137_l1,h0,h7,uV,vO,rX,b6,au,aL,Be,s156,cK pe gn,vU,haq,Pc.ps,k1',k2'];refine mE (xs:=[[.int .i64 (e:Nat)],[.int .i64 ((e+1)%ls.length:Nat)]]) (g7.of_eq (aT ae)) (by simp only[eN,aS,if_true];rfl) (.inl rfl) (by simp only[dp,eP];omega) fun d7 bt gd7 cQ=>?_;have q6:=cQ 8768064384 ae ae;simp only[go_sem,b6] at q6;have g8':=g8.of_eq ((cQ 8768705280 ae ae).trans (aT ae));simp only[go_sem,h0,h8,vU,haq,Pc.ps];refine tJ (xs:=[[.int .i64 P.l.id],[.int .i64 Q.l.id]]) (g8'.of_eq (aT ae)) (by simp only[eN,aS,if_true];rfl) (.inl rfl) (by simp only[dp,eP];omega) fun d8 bd r w gd8 aZ hw=>?_
    have p6:=(aZ 8768064384 ae ae).trans ((aT ae).trans q6);have aj2:=gd7.of_eq ((aZ 8768640256 ae ae).trans (aT ae));simp only[go_sem];refine⟨?_,?_⟩
    .rcases hw with ⟨rfl,rfl⟩|⟨rfl,rfl⟩|⟨rfl,rfl⟩<;>kernel_rfl
    generalize hx9:(es.take j).any (iB ls · true)=x9 at h9;generalize alo:(es.take j).any (iB ls · false)=Ft at dC;have e9:=W7 (iB ls · true) es j e he;have DW:=W7 (iB ls · false) es j e he;have eA:=agx (Au ls) es j e he;rw[hx9] at e9;rw[alo] at DW;rw[dx,fk] at eA;have G7:grown 8768640256 3 1 (iP (uv ls (es.take (j+1)))) (.one d7) bd:=by have:=afc (fun e:Nat=>[(e:Int),(nx ls e:Int)]) (es.take j) e (nx ls e);have h2:=ZV (fun e:Nat=>[(e:Int),(nx ls e:Int)]) es j e he;rw[show uv ls (es.take (j+1))=(es.take j).flatMap (fun e:Nat=>[(e:Int),(nx ls e:Int)])++[(e:Int),(nx ls e:Int)] from h2,<- this];exact aj2
    have G8:grown 8768705280 3 1 (iP (vu ls (es.take (j+1)))) (.one d8) bd:=by have:=afc (fun e:Nat=>[(pA ls e).l.id,(pA ls (nx ls e)).l.id]) (es.take j) (pA ls e).l.id (pA ls (nx ls e)).l.id;have h2:=ZV (fun e:Nat=>[(pA ls e).l.id,(pA ls (nx ls e)).l.id]) es j e he;rw[show vu ls (es.take (j+1))=(es.take j).flatMap (fun e:Nat=>[(pA ls e).l.id,(pA ls (nx ls e)).l.id])++[(pA ls e).l.id,(pA ls (nx ls e)).l.id] from h2,<- this,jo hP,show pA ls (nx ls e)=Q from jo hQ];exact gd8
    cases x9<;>cases Ft<;>simp only[go_sem,h0,h9,dC,uV,vO,rX,s167,cq po,cq pu,w1,au]<;>exact⟨h6,p6,by rw[eA];rfl,by rw[e9];rfl,by rw[DW];rfl,d7,d8,rfl,rfl,G7,G8⟩
 have:j=3:=aa;subst this;have ht:es.take 3=es:=by rw[<- hE];rfl
 rw[ht] at dx h9 dC g7 g8;have n7:(uv ls es).length=6:=by unfold uv;rw[O4 _ (fun _=>rfl),di]
 have n8:(vu ls es).length=6:=by unfold vu;rw[O4 _ (fun _=>rfl),di]
 rcases g7 with ⟨e,_⟩|⟨_,gg7,e,b7⟩
 .have:=congrArg List.length e;rw[vg,n7] at this;cases this
 cases e;rcases g8 with ⟨e,_⟩|⟨_,gg8,e,b8⟩
 .have:=congrArg List.length e;rw[vg,n8] at this;cases this
 cases e;have s506:S.shared 169=true:=ah;have s507:S.shared 170=true:=ah;have JX:¬(((3:Nat):Int)<3):=ae;simp only[go_sem,i137_l1,i137_r2,h7,vO,rX,JX,s506,vg];refine yP b7 (by rfl) (.inl rfl) (P:=Dv qI 8768640256 gg7 3 (uv ls es) aj) (fun pz h1 h2=>VE h1 (by rw[h2];kernel_rfl) aa b7) fun v bt hP=>?_;obtain⟨rfl,⟨ws,bw,pw,sw⟩,kw⟩:=hP;have b8':=(kw 8768705280 ae).trans b8;have b6':=(kw 8768064384 ae).trans b6;simp only[go_sem,h8,s506,vg];refine yP b8' (by rfl) (.inl rfl) (P:=Dv qI 8768705280 gg8 3 (vu ls es) bt) (fun pz h1 h2=>VE h1 (by rw[h2];kernel_rfl) aa b8') fun v bd hP=>?_
 obtain⟨rfl,⟨us,bu,pu,su⟩,ku⟩:=hP;have bw':=(ku 8768640256 ae).trans bw;have ahc:=(ku 8768064384 ae).trans b6';have wl:=pw.length_eq;have ul:=pu.length_eq;have cw:=XM pw sw;have cu:=XM pu su;have pcn:=Qx g es aa (e0:=av) (by rw[<- hE];rfl) ha 0;have c00:((0:Nat):Int)=0:=rfl;rw[c00] at pcn;have psw:=aq1 g es mf aa;have ht3:List.take 3 (nP es)=nP es:=eY (by rw[UF];omega);have hB:Ip F ls av bv cv=((((lY (uv ls es)).length:Int)==6)&&((((lY (vu ls es)).length:Int)==3)&&(es.any (iB ls · true)&&(es.any (iB ls · false)&&lW F ls 0 es av)))):=by unfold Ip;rw[hE,dx,Hy,Hy];rfl
 unfold wT;rw[hB];clear hB;simp only[go_sem,h7,s507,vg,<- wl];refine yP bw' (by rfl) (.inl rfl) (P:=Qq 8768640256 gg7 3 ws bd) (fun pz h1 h2=>XN h1 aa bw') fun v iQ hP=>?_;obtain⟨rfl,_,kc⟩:=hP;have bu':=(kc 8768705280 ae).trans bu;have b63:=(kc 8768064384 ae).trans ahc;rw[cw];have lo:S.lone 8769152128=false:=ah;cases q1:(((lY (uv ls es)).length:Int)==6) with
 |false=>
  have Fi:(((lY (uv ls es)).length:Int)!=6)=true:=by simp only[bne,q1];rfl
  simp only[go_sem,Fi];rfl
 |true=>
  have Fi:(((lY (uv ls es)).length:Int)!=6)=false:=by simp only[bne,q1];rfl
  simp only[go_sem,h8,Fi,s507,vg,<- ul];refine yP bu' (by rfl) (.inl rfl) (P:=Qq 8768705280 gg8 3 us iQ) (fun pz h1 h2=>XN h1 aa bu') fun v xt hP=>?_;obtain⟨rfl,_,kd⟩:=hP;have b64:=(kd 8768064384 ae).trans b63;rw[cu];cases q2:(((lY (vu ls es)).length:Int)==3) with
  |false=>
   have HX:(((lY (vu ls es)).length:Int)!=3)=true:=by simp only[bne,q2];rfl
   simp only[go_sem,HX];rfl
  |true=>
   have HX:(((lY (vu ls es)).length:Int)!=3)=false:=by simp only[bne,q2];rfl
   cases q3:es.any (iB ls · true) with
   |false=>rw[q3] at h9;simp only[go_sem,h9,HX];rfl
   |true=>
    rw[q3] at h9;cases q4:es.any (iB ls · false) with
    |false=>rw[q4] at dC;simp only[go_sem,h9,dC,HX];rfl
    |true=>
     rw[q4] at dC;cases q5:lW F ls 0 es av with
     |false=>rw[q5] at pcn;simp only[go_sem,h0,h6,h9,dC,HX,b64,s164,cq pcn,di,UF,ht3];rfl
     |true=>rw[q5] at pcn;simp only[go_sem,h0,h6,h9,dC,HX,b64,s164,cq pcn,s171,di,UF,ht3];refine pI psw lo (.inr (mY (Bt _))) fun cc BZ gc Cr=>?_;simp only[go_sem];rw[<- hE] at gc;exact vM gc
abbrev Uf:List C:=[.p .wN,.p (.fn 130 [] []),.p (.fn 131 [] []),.p (.fn 132 [] []),.p (.fn 133 [] []),.p (.fn 134 [] []),.p (.fn 135 [] []),.p (.fn 136 [] []),.p (.fn 137 [] []),.p (.fn 138 [] []),.p (.fn 138 [] [])]
theorem akg(k:Int):0<=(kx k).1/\(kx k).1<=4/\0<=(kx k).2/\(kx k).2<=2:=by
 unfold kx;split
 .simp
 split
 .simp
 split<;>simp
theorem Ju{F:Nat}(hlen:ls.length<=400)(fk:ay Let.aB ls<=200){k f:Nat}{rest:List C}(hk:Uf.drop k=.p (.fn f [] [])::rest)(nz:k<11)(Hi:S.shared f=false){a b c:Int}{l o:Bool}{sg:Int}{res:Option (List Pc)}(ha:aJ S 111 [.one (.p (ek F ls)),ft k a b c l o sg] (rb true))(hm:aJ S f [.one (.p (ek F ls)),ft k a b c l o sg] (kR res))(hL:∀L,res=some L->L.length<=1000000):
  aJ S 78 [.one (.p (ek F ls)),ft k a b c l o sg] (xC F ls k res):=by
 have xS:=ajx F;have pg:=akf k;have nI:S.lone 4992192384=false:=ah;have wK:S.lone 4992576128=false:=ah;have hlk:∀(aj:aA),land aj [] 4992192000 ((RV.agg [.p .wN,.p (.fn 130 [] []),.p (.fn 131 [] []),.p (.fn 132 [] []),.p (.fn 133 [] []),.p (.fn 134 [] []),.p (.fn 135 [] []),.p (.fn 136 [] []),.p (.fn 137 [] []),.p (.fn 138 [] []),.p (.fn 138 [] [])]).eG (S.lone 4992192000))=some (.agg Uf,[]):=fun aj=>by cases S.lone 4992192000<;>rfl
 have bG:=fG ls;obtain⟨g1,g2,g3,g4⟩:=akg k;have lg:∀aj:aA,land aj [] 4992384128 ((RV.tup [.one (.p (.int .i64 (kx k).1)),.one (.p (.int .i64 (kx k).2))]).eG (S.lone 4992384128))=some (.tup [.one (.p (.int .i64 (kx k).1)),.one (.p (.int .i64 (kx k).2))],[]):=fun aj=>gn;obtain⟨JT,JU,sV⟩:∃x y,kx k=(x,y):=⟨_,_,rfl⟩;have d4:xC F ls k none=pZ 4:=rfl;have d7:∀L,((400:Int)<(ls.length:Int)+JT\/(100:Int)<((ay Let.aB ls/2:Nat):Int)+JU)->xC F ls k (some L)=pZ 7:=fun L h=>by unfold xC;rw[sV];exact aE h
 have d0:∀L,¬((400:Int)<(ls.length:Int)+JT\/(100:Int)<((ay Let.aB ls/2:Nat):Int)+JU)->xC F ls k (some L)=kA F (kK L):=fun L h=>by unfold xC;rw[sV];exact aD h
 rw[sV] at g1 g2 g3 g4 pg;simp only[sV] at lg;simp only at g1 g2 g3 g4 lg pg;have w1:IntKind.i64.wrap (((pieces ls).length:Int)+JT)=(ls.length:Int)+JT:=by rw[bG];exact nT aa aa
 have w2:IntKind.i64.wrap (((ay Let.aB ls/2:Nat):Int)+JU)=((ay Let.aB ls/2:Nat):Int)+JU:=nT aa aa;unfold kR at hm;generalize Uf=kg at hk hlk;refine bc c78 ?_;simp only[go_sem,i78,s111,cq ha,s112,xz al7 (hlk _),hk,nz,Hi];refine aio hm nI fun cc bt w gc hb hw=>?_;have b0:=hb 4992000000 ae;have b1:=hb 4992000064 ae;simp only[go_sem] at b0 b1;cases res with
 |none=>rw[d4];simp only[go_sem,b1];refine⟨?_,rfl⟩;rcases hw with rfl|rfl<;>kernel_rfl
 |some L=>
  simp only[kE] at gc;have pfin:=xS L (hL L rfl) (.sl (dB (pieces ls))) (.sl (jw (de F ls))) (.sl (nP (mS F ls))) (.int .i64 (ay Let.aG ls:Nat)) (.int .i64 ((ay Let.aB ls/2:Nat):Int)) (.sl (nP (counts ls F)));obtain⟨rs,lI,_⟩:=gc.fM;by_cases h1:(400:Int)<(ls.length:Int)+JT
  .rw[d7 L (.inl h1)];simp only[go_sem,b0,b1,s113,cK pg (lg _),w1,h1];refine⟨?_,rfl⟩;rcases hw with rfl|rfl<;>kernel_rfl
  by_cases h2:(100:Int)<((ay Let.aB ls/2:Nat):Int)+JU
  .rw[d7 L (.inr h2)];simp only[go_sem,b0,b1,s113,cK pg (lg _),w1,w2,h1,h2];refine⟨?_,rfl⟩;rcases hw with rfl|rfl<;>kernel_rfl
  rw[d0 L (by rintro (h|h);exact h1 h;exact h2 h)];simp only[go_sem,b0,s113,cK pg (lg _),w1,w2,h1,h2,lI,s114];refine⟨?_,?_⟩
  .rcases hw with rfl|rfl<;>kernel_rfl
  refine Nk pfin wK rfl (zN _) fun c2 bd oh aZ=>?_;have b02:=(aZ 4992000064 ae).trans b1;simp only[go_sem,b02];exact aaw (oh.of_eq (aT ae))
theorem aiz{F:Nat}{k a b c:Int}{l o:Bool}{sg:Int}(ha:aJ S 111 [.one (.p (ek F ls)),ft k a b c l o sg] (rb false)):aJ S 78 [.one (.p (ek F ls)),ft k a b c l o sg] (pZ 2):=by refine bc c78 ?_;simp only[go_sem,i78,s111,cq ha];try rfl
def mT(F:Nat)(ls:List Let)(k:Int)(a b c:Nat)(l o:Bool)(sg:Int):Option (List Pc):=if k=1 then uF ls a else if k=2 then amR F ls a b c else if k=3 then yK F ls a b else if k=4 then vj ls a else if k=5 then some (lmR ls a sg o) else if k=6 then ti F ls a b else if k=7 then pmR F ls a b l o else if k=8 then wT F ls a b c else if k=9 then trR F ls a else tlR ls a
def mB(F:Nat)(ls:List Let)(k a b c:Int)(l o:Bool)(sg:Int):RV:=if cD F ls k a b c l o sg then xC F ls k (mT F ls k a.toNat b.toNat c.toNat l o sg) else pZ 2
theorem agI{F:Nat}{k a b c:Int}{l o:Bool}{sg:Int}:(∃e,mB F ls k a b c l o sg=pZ e)\/ ∃L,mB F ls k a b c l o sg=kA F L:=by
 unfold mB;split
 .cases mT F ls k a.toNat b.toNat c.toNat l o sg with
  |none=>exact .inl ⟨4,rfl⟩
  |some L=>
   by_cases h:(400:Int)<(ls.length:Int)+(kx k).1\/(100:Int)<((ay Let.aB ls/2:Nat):Int)+(kx k).2
   .exact .inl ⟨7,aE h⟩
   exact .inr ⟨kK L,aD h⟩
 exact .inl ⟨2,rfl⟩
theorem agN{F:Nat}{k a b c:Int}{l o:Bool}{sg:Int}{res:RV}(po:aJ S 77 [cY F ls] (yx (ek F ls) (.int .i64 0)))(hd:aJ S 78 [.one (.p (ek F ls)),ft k a b c l o sg] res)(fin:(∃e,res=pZ e)\/ ∃L,res=kA F L):
  aJ S 39 [cY F ls,ft k a b c l o sg] res:=by
 have lo:S.lone 2496256128=false:=ah;refine bc c39 ?_;rcases fin with ⟨e,rfl⟩|⟨L,rfl⟩
 .simp only[go_sem,i39,s77,cK po gn,s78,cK hd ama];rfl
 simp only[go_sem,i39,s77,cK po gn,s78];refine aae hd lo fun cc bt gc hb=>?_;have b4:=hb 2496000128 ae;simp only[go_sem] at b4;simp only[go_sem,b4];exact aaw (gc.of_eq (aT ae))
theorem lJ{n:Nat}{i:Int}(h:iv n i=true):∃k:Nat,i=(k:Int)/\k<n:=by unfold iv at h;simp at h;exact⟨i.toNat,aa,aa⟩
theorem Uh(l:List Pc)(drop:Nat->Pc->Bool):(jQ l drop).length<=l.length:=EP l drop l.length
theorem aet(l:List Pc)(i:Nat)(g r:Int):(OQ l i g r).length=l.length:=by simp[OQ]
theorem am4{F:Nat}{k:Int}{a b c:Nat}{l o:Bool}{sg:Int}{L:List Pc}(h:mT F ls k a b c l o sg=some L):L.length<=ls.length+4:=by
 have hp:=fG ls;unfold mT at h;repeat' split at h
 .unfold uF at h;simp only at h;split at h
  .cases h;have:=Uh (pieces ls) (fun k _=>decide (k=a)||decide (k=(a+1)%ls.length));simp only[iO,cG];omega
  cases h
 .unfold amR at h;split at h
  .cases h;simp only[Mr,NM,iO,cG,dp,eP];omega
  split at h
  .cases h;simp only[Mr,NM,iO,cG,dp,eP];omega
  cases h
 .unfold yK at h;split at h
  .cases h;simp only[Dw,Dt];omega
  cases h
 .unfold vj at h;simp only at h;split at h
  .cases h;have:=Uh (pieces ls) (nk [((pieces ls).getD a ⟨iM,false⟩).l.id]);simp only[Cb,cG];omega
  cases h
 .cases h;simp only[lmR,NM,dp,eP];omega
 .unfold ti at h;split at h
  .cases h;have:=Uh (pieces ls) (nk [(pA ls a).l.id,(pA ls (nx ls a)).l.id]);simp only[Cb,cG];omega
  cases h
 .have key:∀s t,pmV ls a b l o s t=some L->L.length<=ls.length+4:=fun s t h=>by
   unfold pmV at h;split at h
   .cases h
   simp only[fe] at h;subst h;have h2:∀x sg o s,(pmS x sg o s).length=2:=fun x sg o s=>by unfold pmS;split<;>rfl
   split<;>simp only[NM,h2,dp,eP]<;>omega
  unfold pmR at h;split at h
  .exact key _ _ h
  exact key _ _ h
 .unfold wT at h;split at h
  .cases h;simp only[Dw];omega
  cases h
 .unfold trR at h;split at h
  .cases h;simp only[aet,iO,cG];omega
  cases h
 unfold tlR at h;split at h
 .cases h;simp only[aet,iO,cG];omega
 cases h
abbrev lA(ls:List Let)(i:Nat):Let:=ls.getD i iM
theorem al8{i:Nat}{l:Let}(h:ls[i]?=some l):lA ls i=l:=by rw[lA,cU,h];rfl
theorem se{i:Nat}(h:i<ls.length):ls[i]?=some (lA ls i):=by obtain⟨l,hl⟩:=aN h;rw[al8 hl,hl]
theorem Il(l:List Let):eC 6 (cM l)=true:=by simp[eC,Let.ps]
theorem acw(a b:List Let):cM (a++b)=cM a++cM b:=km
theorem NY{L:List Let}(h:L≠[]):cM L≠[]:=by simpa [cM] using h
def leq(a b:Let):Bool:=(a.kind==b.kind)&&((a.gate==b.gate)&&((a.aw==b.aw)&&((a.id==b.id)&&((a.sign==b.sign)&&(a.over==b.over)))))
theorem aiZ(x y:Let):sQ [true,true,true,true,true,false] [.p (.int .i64 x.kind),.p (.int .i64 x.gate),.p (.int .i64 x.aw),.p (.int .i64 x.id),.p (.int .i64 x.sign),.p (.bool x.over)] [.p (.int .i64 y.kind),.p (.int .i64 y.gate),.p (.int .i64 y.aw),.p (.int .i64 y.id),.p (.int .i64 y.sign),.p (.bool y.over)]=some (leq x y):=by
 have e:∀a b:Int,rQ true (.int .i64 a) (.int .i64 b)=some (a==b):=fun a b=>by simp[rQ]
 have e2:∀a b:Bool,rQ false (.bool a) (.bool b)=some (a==b):=fun a b=>by simp[rQ]
 simp only[sQ,leq,e,e2];cases (x.kind==y.kind)<;>cases (x.gate==y.gate)<;>cases (x.aw==y.aw)<;>cases (x.id==y.id)<;>cases (x.sign==y.sign)<;>cases (x.over==y.over)<;>rfl
theorem acu(x:Let):leq x x=true:=by simp[leq]


theorem BT{S:Sys}{f:Nat}{fn:aX}{args:List V}{P:RV->Prop}(hp:S.prim f args=none)(hf:S.fns f=some fn)(hl:args.length<=fn.ntmps)
  (h:W S .all fn.body (qT .all fn.results fun v aj=>∃r,P r/\fv aj v=some r) (qH args) zA):∃r,P r/\aJ S f args r:=by
 obtain⟨n,v,ao,h1,r,h3,h2⟩:=PL h;refine⟨r,h3,n+1,?_⟩;rw[fL];simp only[hp,hf,hl,if_true];unfold Dq;simp only[h1,h2]
theorem ahW{l:List Let}(aM:l≠[])(hl:l.length<=1000000):aJ S 40 [.one (.p (hU l))] (.one (aO fU 6 (cM l))):=by
 have hs:((cM l).all fun e=>e.length==6)=true:=Il l;have hr:(0+(cM l).length)*48<=room:=by unfold room;rw[cG];omega
 show aJ S _ [.one (.p (.sl (cM l)))] _;obtain⟨e0,es,hq⟩:∃e0 es,cM l=e0::es:=by cases l with
  |nil=>exact absurd rfl aM
  |cons a t=>exact⟨_,_,rfl⟩
 rw[hq] at hs hr ⊢;refine bc c40 ?_;have aM:e0::es≠[]:=af;have sV:aO fU 6 (e0::es)=.own fU 6 (e0::es):=aD aM;rw[sV];unfold room at hr;simp only[jt,dp] at hr;simp only[qM] at hs;simp only[go_sem,i40,eO,eC];simp only[hs,hr,not_true_eq_false,if_true,if_false];simp only[go_sem];exact Fa rC rfl




abbrev MC:Prop:=aJ S 40 [.one (.p (.sl []))] (.one (.p (.sl [])))
theorem amg{aj:aA}{s:Nat}{x:PV}{l:Bool}:land aj [] s ((RV.one (.p x)).eG l)=some (.one (.p x),[]):=by cases l<;>rfl
theorem ahV:MC:=⟨1,ah⟩

theorem amw(x y:Let):leq x y=true↔x=y:=by
 constructor
 .intro h;unfold leq at h;simp only[cE,dk] at h;obtain⟨h1,h2,h3,h4,h5,h6⟩:=h;cases x;cases y;simp only at h1 h2 h3 h4 h5 h6;subst h1 h2 h3 h4 h5 h6;rfl
 rintro rfl;exact acu x


structure aU where
 k:Int
 a:Int
 b:Int
 c:Int
 l:Bool
 o:Bool
 s:Int
def aU.ps(m:aU):List PV:=[.int .i64 m.k,.int .i64 m.a,.int .i64 m.b,.int .i64 m.c,.bool m.l,.bool m.o,.int .i64 m.s]
abbrev N6(ms:List aU):PV:=.sl (ms.map aU.ps)
theorem Le{ms:List aU}{k:Nat}{m:aU}(h:ms[k]?=some m):(ms.map aU.ps)[k]?=some m.ps:=by rw[gh,h];rfl
def Jl(L:List Let)(c:C)(aj:aA):Prop:=grown 4672256128 fU 6 (cM L) (.one c) aj\/grown 4672512129 fU 6 (cM L) (.one c) aj\/(L=[]/\c=.p (.sl []))
theorem Jl.snap{L:List Let}{c:C}{aj:aA}(h:Jl L c aj):∃r,Go.Abs.snap aj fM c=some (hU L,r):=by
 rcases h with h|h|⟨rfl,rfl⟩
 .obtain⟨r,h1,_⟩:=h.fM;exact⟨r,h1⟩
 .obtain⟨r,h1,_⟩:=h.fM;exact⟨r,h1⟩
 exact⟨[],rfl⟩
theorem Jl.of_eq{L:List Let}{c:C}{aj ao:aA}(h:Jl L c aj)(h1:ao 4672256128=aj 4672256128)(h2:ao 4672512129=aj 4672512129):Jl L c ao:=by
 rcases h with h|h|h
 .exact .inl (h.of_eq h1)
 .exact .inr (.inl (h.of_eq h2))
 exact .inr (.inr h)
theorem amb{aj:aA}{rd:List Nat}{s:Nat}{e:Int}{l:Bool}:land aj rd s ((pZ e).eG l)=some (.tup [.agg [.p (.int .i64 0),.p .nils],.one (.p (.int .i64 e))],[]):=by cases l<;>(unfold land;rw[aE (.inr rfl)];rfl)
abbrev EX(m:aU):V:=ft m.k m.a m.b m.c m.l m.o m.s
section
variable {Q:dS} {ak:Env} {aj:aA} {os:List bR} {d:Option Nat}
end
def Jk(s:Nat)(L:List Let)(c:C)(aj:aA):Prop:=grown s fU 6 (cM L) (.one c) aj\/(L=[]/\c=.p (.sl []))
theorem Jk.snap{s:Nat}{L:List Let}{c:C}{aj:aA}(h:Jk s L c aj):∃r,Go.Abs.snap aj fM c=some (hU L,r):=by
 rcases h with h|⟨rfl,rfl⟩
 .obtain⟨r,h1,_⟩:=h.fM;exact⟨r,h1⟩
 exact⟨[],rfl⟩
theorem Jk.of_eq{s:Nat}{L:List Let}{c:C}{aj ao:aA}(h:Jk s L c aj)(h1:ao s=aj s):Jk s L c ao:=by
 rcases h with h|h
 .exact .inl (h.of_eq h1)
 exact .inr h
section
variable {Q:dS} {ak:Env} {aj:aA} {os:List bR} {d:Option Nat}
end
end
end Go.Abs
