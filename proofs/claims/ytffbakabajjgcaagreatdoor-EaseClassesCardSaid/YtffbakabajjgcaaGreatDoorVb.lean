/- A part. -/
import Derived.Test.YtffbakabajjgcaaGreatDoorWw
set_option linter.all false
set_option maxRecDepth 100000
set_option maxHeartbeats 16000000
namespace Go.Abs
section
variable{ls:List Let}{x:Int}{ty:Nat}{ws:List Int}
section
attribute [local go_sem ↓] fm1 fm2
def bY(F:Nat)(ls:List Let)(k a b c:Int)(l o:Bool)(sg:Int):Bool:=
 if k=2 then !l&&(!o&&(sg==0&&((iX ls.length a||(ls.length==0&&a==0))&&(decide (0<=b)&&(decide (b<=(F:Int))&&(decide (0<=c)&&decide (c<=(cg ls b.toNat:Int))))))))
 else if k=3\/k=6 then !l&&(!o&&(sg==0&&(iX ls.length a&&(c==0&&(iX ls.length b&&decide (a<b))))))
 else if k=5 then !l&&((sg==1||sg== -1)&&(iX ls.length a&&(b==0&&c==0)))
 else if k=7 then sg==0&&(iX ls.length a&&(c==0&&(iX ls.length b&& !(a==b))))
 else if k=8 then !l&&(!o&&(sg==0&&(iX ls.length a&&(iX ls.length b&&(iX ls.length c&&(decide (a<b)&&decide (b<c)))))))
 else if k=1\/k=4\/k=9\/k=10 then !l&&(!o&&(sg==0&&(iX ls.length a&&(b==0&&c==0))))
 else false
theorem n9{i:Int}{x:Bool}(h:iX ls.length i=x):aF S 144 [vi i,.one (.p (.box [.int .i64 ls.length]))] (rb x):=h▸is_p i ls.length
theorem qc(h:¬x=0):(x==0)=false/\(x !=0)=true:=by simp[h]
theorem vh{y:Int}(h:¬x=y):(x==y)=false/\(x !=y)=true:=by simp[h]
section
variable {F:Nat} {ls:List Let} {a b c:Int} {l o:Bool} {sg:Int}
theorem OJ{k:Int}(hk:k=1\/k=4\/k=9\/k=10):aF S 117 [.one (.p (fO F ls)),fE k a b c l o sg] (rb (bY F ls k a b c l o sg)):=by
 obtain⟨v,hv⟩:∃v,bY F ls k a b c l o sg=v:=⟨_,rfl⟩;rw[hv];rcases hk with rfl|rfl|rfl|rfl
 all_goals
  refine aV c117 ?_;simp only[go_sem,i117,jJ];refine mj [0,3,4,5,6,7,8,9,10,41] fun e1 j7=>?_;simp only[go_sem] at j7;cases l with
  |true=>
   obtain rfl:v=false:=by rw[<- hv];simp[bY]
   simp only[go_sem,j7]
  |false=>
   simp only[go_sem,j7];refine mj [0,3,4,5,6,7,8,9,10,53] fun e2 jg=>?_;simp only[go_sem,j7] at jg;cases o with
   |true=>
    obtain rfl:v=false:=by rw[<- hv];simp[bY]
    simp only[go_sem,jg]
   |false=>
    simp only[go_sem,jg];refine mj [0,3,4,5,6,7,8,9,10,60] fun e3 jh=>?_;simp only[go_sem,jg] at jh;by_cases hs:sg=0
    rotate_left
    .have pI:=(qc hs).1;have iV:=(qc hs).2;obtain rfl:v=false:=by rw[<- hv];simp[bY,hs]
     simp only[go_sem,jh,iV]
    subst hs;cases hA:iX ls.length a with
    |false=>
     have pA:=n9 hA;obtain rfl:v=false:=by rw[<- hv];simp[bY,hA]
     simp only[go_sem,s144,jh,bh pA]
    |true=>
     have pA:=n9 hA;simp only[go_sem,s144,jh,bh pA];refine mj [3,4,6,7,9,133] fun e4 mK=>?_;simp only[go_sem,jh] at mK;by_cases hb:b=0
     rotate_left
     .have cq:=(qc hb).2;obtain rfl:v=false:=by rw[<- hv];simp[bY,hA,hb]
      simp only[go_sem,mK,cq]
     subst hb;simp only[go_sem,mK];refine mj [3,4,6,7,9,142] fun e5 th=>?_;simp only[go_sem,mK] at th;by_cases hc:c=0
     rotate_left
     .have jr:=(qc hc).2;obtain rfl:v=false:=by rw[<- hv];simp[bY,hA,hc]
      simp only[go_sem,th,jr]
     subst hc;obtain rfl:v=true:=by rw[<- hv];simp[bY,hA]
     simp only[go_sem,th]
theorem ahg:aF S 117 [.one (.p (fO F ls)),fE 2 a b c l o sg] (rb (bY F ls 2 a b c l o sg)):=by
 obtain⟨v,hv⟩:∃v,bY F ls 2 a b c l o sg=v:=⟨_,rfl⟩;rw[hv];refine aV c117 ?_;simp only[go_sem,i117,jJ];refine mj [0,3,4,5,6,7,8,9,10,41] fun e1 j7=>?_;simp only[go_sem] at j7;cases l with
 |true=>
  obtain rfl:v=false:=by rw[<- hv];simp[bY]
  simp only[go_sem,j7]
 |false=>
  simp only[go_sem,j7];refine mj [0,3,4,5,6,7,8,9,10,53] fun e2 jg=>?_;simp only[go_sem,j7] at jg;cases o with
  |true=>
   obtain rfl:v=false:=by rw[<- hv];simp[bY]
   simp only[go_sem,jg]
  |false=>
   simp only[go_sem,jg];refine mj [0,3,4,5,6,7,8,9,10,60] fun e3 jh=>?_;simp only[go_sem,jg] at jh;by_cases hs:sg=0
   rotate_left
   .have pI:=(qc hs).1;have iV:=(qc hs).2;obtain rfl:v=false:=by rw[<- hv];simp[bY,hs]
    simp only[go_sem,jh,iV]
   subst hs;cases hA:iX ls.length a with
   |true=>
    have pA:=n9 hA;simp only[go_sem,s144,jh,kW pA];refine ID [0,3,4,6,7,9,92] fun e4 mK=>?_;simp only[go_sem,jh] at mK;by_cases tc:0<=b
    rotate_left
    .obtain rfl:v=false:=by rw[<- hv];simp[bY,hA,tc]
     simp only[go_sem,mK,tc];exact aK
    simp only[go_sem,mK,tc];refine ID [0,3,4,6,7,9,101] fun e5 th=>?_;simp only[go_sem,mK] at th;by_cases uF:b<=(F:Int)
    rotate_left
    .obtain rfl:v=false:=by rw[<- hv];simp[bY,hA,tc,uF]
     simp only[go_sem,th,uF];exact aK
    obtain⟨B,rfl⟩:=uu tc;have hBF:B<=F:=aa;have wH:=iF (OV (ls:=ls) hBF);have h5:B<F+1:=aa;have h6:(counts ls F).length=F+1:=by simp[counts]
    simp only[go_sem,th,uF];refine ID [0,3,4,6,7,9,106] fun e6 EE=>?_;simp only[go_sem,th] at EE;by_cases wC:0<=c
    rotate_left
    .obtain rfl:v=false:=by rw[<- hv];simp[bY,hA,tc,uF,wC]
     simp only[go_sem,EE,wC];exact aK
    by_cases Ch:c<=(cg ls B:Int)
    rotate_left
    .obtain rfl:v=false:=by rw[<- hv];simp[bY,hA,tc,uF,wC,Ch]
     simp only[go_sem,wH,EE,wC,Ch];exact aK
    obtain rfl:v=true:=by rw[<- hv];simp[bY,hA,tc,uF,wC,Ch]
    simp only[go_sem,wH,EE,wC,Ch];exact aK
   |false=>
    have pA:=n9 hA;by_cases hn:ls.length=0
    rotate_left
    .have wS:((ls.length:Int)==0)=false:=beq_false_of_ne aa;have GL:ls≠[]:=fun h=>hn (by rw[h];rfl);obtain rfl:v=false:=by rw[<- hv];simp[bY,hA,hn]
     simp only[go_sem,s144,jh,kW pA,wS];exact aK
    have wS:((ls.length:Int)==0)=true:=by rw[hn];rfl
    have GL:=DG.mp hn;by_cases ha:a=0
    rotate_left
    .have Cj:=(qc ha).1;obtain rfl:v=false:=by rw[<- hv];simp[bY,GL,ha,show iX 0 a=false by rw[<- hn];exact hA]
     simp only[go_sem,s144,jh,kW pA,wS,Cj];exact aK
    subst ha;simp only[go_sem,s144,jh,kW pA,wS];refine ID [0,3,4,6,7,9,92] fun e7 hh7=>?_;simp only[go_sem,jh] at hh7;by_cases tc:0<=b
    rotate_left
    .obtain rfl:v=false:=by rw[<- hv];simp[bY,hn,tc]
     simp only[go_sem,hh7,tc];exact aK
    simp only[go_sem,hh7,tc];refine ID [0,3,4,6,7,9,101] fun e8 hh8=>?_;simp only[go_sem,hh7] at hh8;by_cases uF:b<=(F:Int)
    rotate_left
    .obtain rfl:v=false:=by rw[<- hv];simp[bY,hn,tc,uF]
     simp only[go_sem,hh8,uF];exact aK
    obtain⟨B,rfl⟩:=uu tc;have hBF:B<=F:=aa;have wH:=iF (OV (ls:=ls) hBF);have h5:B<F+1:=aa;have h6:(counts ls F).length=F+1:=by simp[counts]
    simp only[go_sem,hh8,uF];refine ID [0,3,4,6,7,9,106] fun e9 hh9=>?_;simp only[go_sem,hh8] at hh9;by_cases wC:0<=c
    rotate_left
    .obtain rfl:v=false:=by rw[<- hv];simp[bY,hn,tc,uF,wC]
     simp only[go_sem,hh9,wC];exact aK
    by_cases Ch:c<=(cg ls B:Int)
    rotate_left
    .obtain rfl:v=false:=by rw[<- hv];simp[bY,hn,tc,uF,wC,Ch]
     simp only[go_sem,wH,hh9,wC,Ch];exact aK
    obtain rfl:v=true:=by rw[<- hv];simp[bY,hn,tc,uF,wC,Ch]
    simp only[go_sem,wH,hh9,wC,Ch];exact aK
theorem Xz{k:Int}(hk:k=3\/k=6):aF S 117 [.one (.p (fO F ls)),fE k a b c l o sg] (rb (bY F ls k a b c l o sg)):=by
 obtain⟨v,hv⟩:∃v,bY F ls k a b c l o sg=v:=⟨_,rfl⟩;rw[hv];rcases hk with rfl|rfl
 all_goals
  refine aV c117 ?_;simp only[go_sem,i117,jJ];refine mj [0,3,4,5,6,7,8,9,10,41] fun e1 j7=>?_;simp only[go_sem] at j7;cases l with
  |true=>
   obtain rfl:v=false:=by rw[<- hv];simp[bY]
   simp only[go_sem,j7]
  |false=>
   simp only[go_sem,j7];refine mj [0,3,4,5,6,7,8,9,10,53] fun e2 jg=>?_;simp only[go_sem,j7] at jg;cases o with
   |true=>
    obtain rfl:v=false:=by rw[<- hv];simp[bY]
    simp only[go_sem,jg]
   |false=>
    simp only[go_sem,jg];refine mj [0,3,4,5,6,7,8,9,10,60] fun e3 jh=>?_;simp only[go_sem,jg] at jh;by_cases hs:sg=0
    rotate_left
    .have pI:=(qc hs).1;have iV:=(qc hs).2;obtain rfl:v=false:=by rw[<- hv];simp[bY,hs]
     simp only[go_sem,jh,iV]
    subst hs;cases hA:iX ls.length a with
    |false=>
     have pA:=n9 hA;obtain rfl:v=false:=by rw[<- hv];simp[bY,hA]
     simp only[go_sem,s144,jh,bh pA]
    |true=>
     have pA:=n9 hA;simp only[go_sem,s144,jh,bh pA];refine mj [3,4,6,7,9,142] fun e4 mK=>?_;simp only[go_sem,jh] at mK;by_cases hc:c=0
     rotate_left
     .have jr:=(qc hc).2;obtain rfl:v=false:=by rw[<- hv];simp[bY,hA,hc]
      simp only[go_sem,mK,jr]
     subst hc;cases hB:iX ls.length b with
     |false=>
      have pB:=n9 hB;obtain rfl:v=false:=by rw[<- hv];simp[bY,hA,hB]
      simp only[go_sem,s144,mK,bh pB]
     |true=>
      have pB:=n9 hB;simp only[go_sem,s144,mK,bh pB];refine mj [3,4,7,172,178] fun e5 th=>?_;simp only[go_sem,mK] at th;by_cases hl:a<b
      rotate_left
      .obtain rfl:v=false:=by rw[<- hv];simp[bY,hA,hB,hl]
       simp only[go_sem,th,hl]
      obtain rfl:v=true:=by rw[<- hv];simp[bY,hA,hB,hl]
      simp only[go_sem,th,hl]
theorem ahh:aF S 117 [.one (.p (fO F ls)),fE 5 a b c l o sg] (rb (bY F ls 5 a b c l o sg)):=by
 obtain⟨v,hv⟩:∃v,bY F ls 5 a b c l o sg=v:=⟨_,rfl⟩;rw[hv];refine aV c117 ?_;simp only[go_sem,i117,jJ];refine mj [0,3,4,5,6,7,8,9,10,41] fun e1 j7=>?_;simp only[go_sem] at j7;cases l with
 |true=>
  obtain rfl:v=false:=by rw[<- hv];simp[bY]
  simp only[go_sem,j7]
 |false=>
  simp only[go_sem,j7];refine mj [0,3,4,5,6,7,8,9,10,60] fun e2 jg=>?_;simp only[go_sem,j7] at jg;by_cases q0:sg=0
  .subst q0;obtain rfl:v=false:=by rw[<- hv];simp[bY]
   simp only[go_sem,jg]
  by_cases q1:sg=1
  rotate_left;by_cases q2:sg= -1
  rotate_left
  .have h00:=(qc q0).2;have ie:=(vh q1).2;have nM:=(vh q2).2;obtain rfl:v=false:=by rw[<- hv];simp[bY,q1,q2]
   simp only[go_sem,jg,h00,ie,nM]
  .subst q1;cases hA:iX ls.length a with
   |false=>
    have pA:=n9 hA;obtain rfl:v=false:=by rw[<- hv];simp[bY,hA]
    simp only[go_sem,s144,jg,bh pA]
   |true=>
    have pA:=n9 hA;simp only[go_sem,s144,jg,bh pA];refine mj [3,4,6,7,9,133] fun e3 jh=>?_;simp only[go_sem,jg] at jh;by_cases hb:b=0
    rotate_left
    .have cq:=(qc hb).2;obtain rfl:v=false:=by rw[<- hv];simp[bY,hA,hb]
     simp only[go_sem,jh,cq]
    subst hb;simp only[go_sem,jh];refine mj [3,4,6,7,9,142] fun e4 mK=>?_;simp only[go_sem,jh] at mK;by_cases hc:c=0
    rotate_left
    .have jr:=(qc hc).2;obtain rfl:v=false:=by rw[<- hv];simp[bY,hA,hc]
     simp only[go_sem,mK,jr]
    subst hc;obtain rfl:v=true:=by rw[<- hv];simp[bY,hA]
    simp only[go_sem,mK]
  subst q2;cases hA:iX ls.length a with
  |false=>
   have pA:=n9 hA;obtain rfl:v=false:=by rw[<- hv];simp[bY,hA]
   simp only[go_sem,s144,jg,bh pA]
  |true=>
   have pA:=n9 hA;simp only[go_sem,s144,jg,bh pA];refine mj [3,4,6,7,9,133] fun e5 th=>?_;simp only[go_sem,jg] at th;by_cases hb:b=0
   rotate_left
   .have cq:=(qc hb).2;obtain rfl:v=false:=by rw[<- hv];simp[bY,hA,hb]
    simp only[go_sem,th,cq]
   subst hb;simp only[go_sem,th];refine mj [3,4,6,7,9,142] fun e6 EE=>?_;simp only[go_sem,th] at EE;by_cases hc:c=0
   rotate_left
   .have jr:=(qc hc).2;obtain rfl:v=false:=by rw[<- hv];simp[bY,hA,hc]
    simp only[go_sem,EE,jr]
   subst hc;obtain rfl:v=true:=by rw[<- hv];simp[bY,hA]
   simp only[go_sem,EE]
end
end
section
attribute [local go_sem ↓] fm1 fm2
section
variable {F:Nat} {ls:List Let} {a b c:Int} {l o:Bool} {sg:Int}
theorem ahi:aF S 117 [.one (.p (fO F ls)),fE 7 a b c l o sg] (rb (bY F ls 7 a b c l o sg)):=by
 obtain⟨v,hv⟩:∃v,bY F ls 7 a b c l o sg=v:=⟨_,rfl⟩;rw[hv];refine aV c117 ?_;simp only[go_sem,i117,jJ];refine mj [0,3,4,5,6,7,8,9,10,60] fun e1 j7=>?_;simp only[go_sem] at j7;by_cases hs:sg=0
 rotate_left
 .have pI:=(qc hs).1;have iV:=(qc hs).2;obtain rfl:v=false:=by rw[<- hv];simp[bY,hs]
  simp only[go_sem,j7,iV]
 subst hs;cases hA:iX ls.length a with
 |false=>
  have pA:=n9 hA;obtain rfl:v=false:=by rw[<- hv];simp[bY,hA]
  simp only[go_sem,s144,j7,bh pA]
 |true=>
  have pA:=n9 hA;simp only[go_sem,s144,j7,bh pA];refine mj [3,4,6,7,9,142] fun e2 jg=>?_;simp only[go_sem,j7] at jg;by_cases hc:c=0
  rotate_left
  .have jr:=(qc hc).2;obtain rfl:v=false:=by rw[<- hv];simp[bY,hA,hc]
   simp only[go_sem,jg,jr]
  subst hc;cases hB:iX ls.length b with
  |false=>
   have pB:=n9 hB;obtain rfl:v=false:=by rw[<- hv];simp[bY,hA,hB]
   simp only[go_sem,s144,jg,bh pB]
  |true=>
   have pB:=n9 hB;simp only[go_sem,s144,jg,bh pB];by_cases hn:a=b
   .subst hn;obtain rfl:v=false:=by rw[<- hv];simp[bY,hA]
    simp only[go_sem]
   have jt:=(vh hn).2;obtain rfl:v=true:=by rw[<- hv];simp[bY,hA,hB,hn]
   simp only[go_sem,jt]
theorem ahj:aF S 117 [.one (.p (fO F ls)),fE 8 a b c l o sg] (rb (bY F ls 8 a b c l o sg)):=by
 obtain⟨v,hv⟩:∃v,bY F ls 8 a b c l o sg=v:=⟨_,rfl⟩;rw[hv];refine aV c117 ?_;simp only[go_sem,i117,jJ];refine mj [0,3,4,5,6,7,8,9,10,41] fun e1 j7=>?_;simp only[go_sem] at j7;cases l with
 |true=>
  obtain rfl:v=false:=by rw[<- hv];simp[bY]
  simp only[go_sem,j7]
 |false=>
  simp only[go_sem,j7];refine mj [0,3,4,5,6,7,8,9,10,53] fun e2 jg=>?_;simp only[go_sem,j7] at jg;cases o with
  |true=>
   obtain rfl:v=false:=by rw[<- hv];simp[bY]
   simp only[go_sem,jg]
  |false=>
   simp only[go_sem,jg];refine mj [0,3,4,5,6,7,8,9,10,60] fun e3 jh=>?_;simp only[go_sem,jg] at jh;by_cases hs:sg=0
   rotate_left
   .have pI:=(qc hs).1;have iV:=(qc hs).2;obtain rfl:v=false:=by rw[<- hv];simp[bY,hs]
    simp only[go_sem,jh,iV]
   subst hs;cases hA:iX ls.length a with
   |false=>
    have pA:=n9 hA;obtain rfl:v=false:=by rw[<- hv];simp[bY,hA]
    simp only[go_sem,s144,jh,bh pA]
   |true=>
    have pA:=n9 hA;simp only[go_sem,s144,jh,bh pA];cases hB:iX ls.length b with
    |false=>
     have pB:=n9 hB;obtain rfl:v=false:=by rw[<- hv];simp[bY,hA,hB]
     simp only[go_sem,jh,bh pB]
    |true=>
     have pB:=n9 hB;cases hD:iX ls.length c with
     |false=>
      have pD:=n9 hD;obtain rfl:v=false:=by rw[<- hv];simp[bY,hA,hB,hD]
      simp only[go_sem,s144,jh,bh pB,bh pD]
     |true=>
      have pD:=n9 hD;simp only[go_sem,s144,jh,bh pB,bh pD];refine mj [3,4,7,172,178] fun e4 mK=>?_;simp only[go_sem,jh] at mK;by_cases hl:a<b
      rotate_left
      .obtain rfl:v=false:=by rw[<- hv];simp[bY,hA,hB,hD,hl]
       simp only[go_sem,mK,hl]
      by_cases hm:b<c
      rotate_left
      .obtain rfl:v=false:=by rw[<- hv];simp[bY,hA,hB,hD,hl,hm]
       simp only[go_sem,mK,hl,hm]
      obtain rfl:v=true:=by rw[<- hv];simp[bY,hA,hB,hD,hl,hm]
      simp only[go_sem,mK,hl,hm]
theorem ahf(k:Int):aF S 117 [.one (.p (fO F ls)),fE k a b c l o sg] (rb (bY F ls k a b c l o sg)):=by
 by_cases h1:k=1
 .subst h1;exact OJ ae
 by_cases h2:k=2
 .subst h2;exact ahg
 by_cases h3:k=3
 .subst h3;exact Xz ae
 by_cases h4:k=4
 .subst h4;exact OJ ae
 by_cases h5:k=5
 .subst h5;exact ahh
 by_cases h6:k=6
 .subst h6;exact Xz ae
 by_cases h7:k=7
 .subst h7;exact ahi
 by_cases h8:k=8
 .subst h8;exact ahj
 by_cases h9:k=9
 .subst h9;exact OJ ae
 by_cases fP:k=10
 .subst fP;exact OJ ae
 rw[show bY F ls k a b c l o sg=false by simp[bY,h1,h2,h3,h4,h5,h6,h7,h8,h9,fP]];have e1:=(vh h1).1;have e2:=(vh h2).1;have e3:=(vh h3).1;have e4:=(vh h4).1;have e5:=(vh h5).1;have e6:=(vh h6).1;have e7:=(vh h7).1;have e8:=(vh h8).1;have e9:=(vh h9).1;have iA:=(vh fP).1;refine aV c117 ?_;simp only[go_sem,i117,jJ,e1,e2,e3,e4,e5,e6,e7,e8,e9,iA]
end
end
structure Swo {α:Type} (lt:α->α->Bool):Prop where
 asym:∀a b,lt a b=true->lt b a=false
 ntrans:∀a b c,lt b a=false->lt c b=false->lt c a=false
def u7{α:Type}(lt:α->α->Bool)(ws:List α)(a b:Nat):Prop:=∀p q x y,a<=p->p<q->q<b->ws[p]?=some x->ws[q]?=some y->lt y x=false
structure yP {α:Type} (lt:α->α->Bool) (zs ws:List α) (x:α) (a i j:Nat):Prop where
 perm:ws.Perm zs
 le:a<=j/\j<=i/\i<ws.length
 at':ws[j]?=some x
 up:∀p y,j<p->p<=i->ws[p]?=some y->lt x y=true
 so:∀p q y z,a<=p->p<q->q<=i->p≠j->q≠j->ws[p]?=some y->ws[q]?=some z->lt z y=false
 out:∀p,p<a\/i<p->ws[p]?=zs[p]?
theorem yP.start{α:Type}{lt:α->α->Bool}{zs:List α}{x:α}{a i:Nat}(ha:a<=i)(hi:zs[i]?=some x)(hs:u7 lt zs a i):yP lt zs zs x a i i:=
 ⟨.refl _,⟨ha,bJ _,(bg.1 hi).1⟩,hi,fun p y h1 h2=>aa,fun p q y z h0 h1 h2 h3 h4=>hs p q y z h0 h1 aa,fun _ _=>rfl⟩
theorem swap_perm{α:Type}{ws:List α}{i j:Nat}{x y:α}(hi:ws[i]?=some x)(hj:ws[j]?=some y):((ws.set i y).set j x).Perm ws:=by obtain⟨h1,e1⟩:=bg.1 hi;obtain⟨h2,e2⟩:=bg.1 hj;have:=List.set_set_perm h1 h2;rwa[e1,e2] at this
theorem yP.step{α:Type}{lt:α->α->Bool}{zs ws:List α}{x y:α}{a i j:Nat}(o:Swo lt)(h:yP lt zs ws x a i (j+1))(hj:a<=j)(hy:ws[j]?=some y)(aq:lt x y=true):
  yP lt zs ((ws.set (j+1) y).set j x) x a i j:=by
 obtain⟨hp,⟨_,hle,hl⟩,j6,vB,Ju,pz⟩:=h;have Ji:j<ws.length:=(bg.1 hy).1;have get:∀p,((ws.set (j+1) y).set j x)[p]?=if p=j then some x else if p=j+1 then some y else ws[p]? :=fun p=>by
  rw[mC,mC,tE];by_cases e1:j=p
  .subst e1;simp[Ji]
  by_cases e2:j+1=p
  .subst e2;have:¬(j+1=j):=aa;rw[ay e1,aD rfl,aD aa,ay this,aD rfl]
  rw[ay e1,ay e2,ay (fun h=>e1 h.symm),ay (fun h=>e2 h.symm)]
 refine⟨(swap_perm j6 hy).trans hp,⟨hj,aa,by simp;omega⟩,by rw[get];simp,?_,?_,?_⟩
 .intro p z h1 h2 hz;rw[get,ay aa] at hz;by_cases e:p=j+1
  .rw[aD e] at hz;cases hz;exact aq
  rw[ay e] at hz;exact vB p z aa h2 hz
 .intro p q u v h0 h1 h2 h3 h4 hu hv;rw[get,ay h3] at hu;rw[get,ay h4] at hv;by_cases e:p=j+1
  .rw[aD e] at hu;cases hu;rw[ay aa] at hv;exact Ju j q _ _ hj aa h2 aa aa hy hv
  rw[ay e] at hu;by_cases e2:q=j+1
  .rw[aD e2] at hv;cases hv;exact Ju p j _ _ h0 aa aa e aa hu hy
  rw[ay e2] at hv;exact Ju p q _ _ h0 h1 h2 e e2 hu hv
 intro p jX;rw[get,ay aa,ay aa,pz p jX]
theorem yP.stop{α:Type}{lt:α->α->Bool}{zs ws:List α}{x:α}{a i j:Nat}(o:Swo lt)(h:yP lt zs ws x a i j)(hj:j=a\/ ∃y,a<j/\ws[j-1]?=some y/\lt x y=false):u7 lt ws a (i+1):=by
 obtain⟨hp,⟨hja,hle,hl⟩,j6,vB,Ju,pz⟩:=h;intro p q u v h0 h1 h2 hu hv;by_cases e:q=j
 .subst e;rw[j6] at hv;cases hv;rcases hj with hj|⟨y,CR,hy,qx⟩
  .omega
  by_cases e3:p=q-1
  .subst e3;rw[hy] at hu;cases hu;exact qx
  exact o.ntrans _ _ _ (Ju p (q-1) _ _ h0 aa aa aa aa hu hy) qx
 by_cases e2:p=j
 .subst e2;rw[j6] at hu;cases hu;exact o.asym _ _ (vB q v h1 aa hv)
 exact Ju p q u v h0 h1 aa e2 e hu hv
theorem u7.mono{α:Type}{lt:α->α->Bool}{ws:List α}{a b c:Nat}(h:u7 lt ws a c)(hb:b<=c\/ws.length<=c):u7 lt ws a b:=fun p q x y h0 h1 h2 hx hy=>h p q x y h0 h1 (by
 rcases hb with hb|hb
 .omega
 have:=(bg.1 hy).1;omega) hx hy
abbrev sv(a b:Int):Bool:=decide (a<b)
theorem Wi:Swo sv:=⟨fun a b h=>by simp at*;omega,fun a b c h k=>by simp at*;omega⟩
theorem aot(a:Int):aF S 256 [vi a] (rb false):=by refine aV c256 ?_;have h:(a !=a)=false:=af;simp only[go_sem,i256,h]
theorem anw(a b:Int):aF S 237 [vi a,vi b] (rb (sv a b)):=by have pn:=aot a;refine aV c237 ?_;simp only[go_sem,i237,s256,bh pn,sv]
theorem SI(n:Nat)(h:n<=1000000):∃k:Int,aF S 171 [.one (.p (.int .u64 n))] (ri k):=by
 refine⟨((Lib.bitLen n:Nat):Int),⟨1,?_⟩⟩;have hp:S.prim 171 [.one (.p (.int .u64 (n:Int)))]=some (some (ri ((Lib.bitLen n:Nat):Int))):=by show some (Nx [.one (.p (.int .u64 (n:Int)))])=_;simp only[Nx];rw[aD ⟨aa,aa⟩];rfl
 rw[fZ,hp]
theorem UC(o:List Int)(k:Nat)(v:Int):(iP o).set k [.int .i64 v]=iP (o.set k v):=by simp[yM]
theorem pK(o:List Int):(iP o).length=o.length:=cH _
def FD(lt:Int->Int->Bool)(id g ty:Nat)(es:List Int)(aj:aw)(v:V)(ao:aw):Prop:=v=.tup []/\(∃ws:List Int,ao id=(g,some (.arr ty 1 (iP ws)))/\ws.Perm es/\u7 lt ws 0 ws.length)/\Kept (· =id) aj ao
theorem amD{al:Al}{aj:aw}{id g:Nat}{es:List Int}(o:al.ok id=true)(hl:es.length<=1000000)(hC:aj id=(g,some (.arr ty 1 (iP es)))):
  ∃v ao,iw S 231 [.one (.hsl id g 1 0 es.length),vi 0,vi es.length] al aj v ao/\FD sv id g ty es aj v ao:=by
 refine mV c231 (iv rfl) ?_;have w0:IntKind.i64.wrap (0+1)=((0+1:Nat):Int):=ae;simp only[go_sem,i231];refine cJ (fun k ak ao=>ak 0=.one (.hsl id g 1 0 es.length)/\ak 1=vi 0/\ak 2=vi es.length/\ak 6=vi ((k+1:Nat):Int)/\ ∃zs:List Int,ao id=(g,some (.arr ty 1 (iP zs)))/\zs.Perm es/\u7 sv zs 0 (k+1)/\Kept (· =id) aj ao) 0 es.length (bj _) ?_ ?_
 .simp only[go_sem];exact⟨rfl,es,hC,.refl _,fun p q x y _ h1 h2=>aa,Kept.refl _ _⟩
 rintro k ak cn hk ⟨h0,h1,h2,h6,zs,hZ,hp,hs,dq⟩
 have pJ:=hp.length_eq;by_cases aq:k+1<es.length
 .have aL:((k+1:Nat):Int)<(es.length:Int):=aa;obtain⟨x,hx⟩:=aM (ls:=zs) (k:=k+1) aa;simp only[go_sem,i231_l3,h2,h6,aL];refine cJ (fun q ak ao=>ak 0=.one (.hsl id g 1 0 es.length)/\ak 1=vi 0/\ak 2=vi es.length/\ak 6=vi ((k+1:Nat):Int)/\ak 7=vi ((k+1-q:Nat):Int)/\ ∃ws:List Int,ao id=(g,some (.arr ty 1 (iP ws)))/\yP sv zs ws x 0 (k+1) (k+1-q)/\Kept (· =id) aj ao) 0 (k+1) (bj _) ?_ ?_
  .simp only[go_sem,h0,h1,h2,h6];exact⟨zs,hZ,yP.start (bj _) hx hs,dq⟩
  rintro q dp ba hq ⟨k0,k1,k2,k6,k7,ws,hW,hI,GI⟩
  have iW:ws.length=es.length:=hI.perm.length_eq.trans pJ;have wk:IntKind.i64.wrap (((k+1:Nat):Int)+1)=((k+1+1:Nat):Int):=bN (n:=k+1) aa;by_cases hj0:k+1-q=0
  .have e7:¬((0:Int)<((k+1-q:Nat):Int)):=aa;simp only[go_sem,i231_l1,i231_r2,k0,k1,k2,k6,k7,e7,wk];refine⟨aK,aa,ws,hW,hI.perm.trans hp,hI.stop Wi (.inl hj0),GI⟩
  obtain⟨j,hj⟩:∃j,k+1-q=j+1:=⟨k-q,aa⟩;have e7:((0:Int)<((j+1:Nat):Int)):=aa;obtain⟨y,hy⟩:=aM (ls:=ws) (k:=j) aa;rw[hj] at hI k7;have wj:IntKind.i64.wrap (((j+1:Nat):Int)-1)=(j:Int):=by rw[ur aa];omega
  have ue:=yp hI.at';have CR:=yp hy;have j1:j+1<es.length:=by have:=hI.le;omega
  have j2:j<es.length:=aa;have pl:=anw x y;cases qx:sv x y with
  |false=>rw[qx] at pl;simp only[go_sem,i231_l1,i231_r2,k0,k1,k2,k6,k7,e7,wk,wj,hW,ue,CR,j1,j2,o,s237,OX pl];refine⟨aK,aa,ws,rfl,hI.perm.trans hp,hI.stop Wi (.inr ⟨y,aa,hy,qx⟩),GI⟩
  |true=>rw[qx] at pl;have wD:=hI.step Wi (bj _) hy qx;have hjj:¬(j+1=j):=aa;have l1:j+1<ws.length:=aa;have l2:j<ws.length:=aa;simp only[go_sem,i231_l1,i231_r2,k0,k1,k2,k6,k7,e7,wj,hW,ue,CR,j1,j2,l1,hjj,o,s237,OX pl,mC,pK];have MJ:k+1-(q+1)=j:=aa;refine⟨aK,aK,aa,by rw[MJ],(ws.set (j+1) y).set j x,by rw[UC,UC],by rw[MJ];exact wD,(GI.dj rfl _).dj rfl _⟩
 have aL:¬(((k+1:Nat):Int)<(es.length:Int)):=aa;simp only[go_sem,i231_l3,h2,h6,aL];exact⟨rfl,⟨zs,hZ,hp,hs.mono (.inl aa)⟩,dq⟩
theorem AX{Q:dy}{al:Al}{ak:Env}{aj:aw}{os:List bI}{d:Option Nat}{f id g ty z o n:Nat}{vs:List V}{es:List (List PV)}{P:V->aw->Prop}(hC:aj id=(g,some (.arr ty z es)))(ry:(vs.map (iZ aj)).flatten=[])(hh:al=.all\/al.ok id=true/\(S.sites f).all al.fs.contains=true)
  (h:∀qJ,qJ.ok id=true->qJ.fs=S.sites f->∃v ao,iw S f (.one (.hsl id g z o n)::vs) qJ aj v ao/\P v ao)
  (hK:∀v ao,P v ao->RN S al os Q (put ak d v) ao):gP S al (.sc f (.one (.hsl id g z o n)::vs)) d os Q ak aj:=by
 have hr:((V.one (.hsl id g z o n)::vs).map (iZ aj)).flatten=[id]:=by rw[fy,lH,ry,NB hC];rfl
 refine tV (P:=P) ?_ (h _ (u9 (by rw[hr];simp)) rfl) hK;rcases hh with rfl|⟨h1,h2⟩
 .rfl
 refine holds_of ?_ h2;show al.fG ((V.one (.hsl id g z o n)::vs).map (iZ aj)).flatten=true;rw[hr];simp[Al.fG,h1]
theorem ao5{al:Al}{aj:aw}{id g:Nat}{es:List Int}(o:al.ok id=true)(f1:al.fs.contains 231=true)(hl:es.length<=12)(hC:aj id=(g,some (.arr ty 1 (iP es))))(lim:Int):
  ∃v ao,iw S 209 [.one (.hsl id g 1 0 es.length),vi 0,vi es.length,vi lim] al aj v ao/\FD sv id g ty es aj v ao:=by
 refine mV c209 (iv rfl) ?_;have w0:IntKind.i64.wrap ((es.length:Int)-0)=(es.length:Int):=by rw[Int.sub_zero];exact rM aa aa
 have kY:(es.length:Int)<=12:=aa;simp only[go_sem,i209];refine kG ?_;simp only[go_sem,i209_l1,w0,kY,s231];refine AX hC (by rfl) (.inr ⟨o,by rw[show S.sites 231=[231] by kernel_rfl];simp only[oG,sP,f1,Ar]⟩) (P:=FD sv id g ty es aj) (fun qJ h1 _=>amD h1 aa hC) fun v ao hP=>?_;obtain⟨rfl,h2⟩:=hP;simp only[go_sem];exact⟨rfl,h2⟩
theorem Wd{al:Al}{aj:aw}{id g:Nat}{es:List Int}(o:al.ok id=true)(f1:(S.sites 209).all al.fs.contains=true)(hl:es.length<=12)(hC:aj id=(g,some (.arr ty 1 (iP es)))):
  ∃v ao,iw S 172 [.one (.hsl id g 1 0 es.length)] al aj v ao/\FD sv id g ty es aj v ao:=by
 obtain⟨k,pb⟩:=SI es.length aa;have wu:IntKind.u64.wrap (es.length:Int)=(es.length:Int):=by
  have e:IntKind.u64.wrap (es.length:Int)=(es.length:Int)%18446744073709551616:=by unfold IntKind.wrap;rfl
  rw[e];omega
 refine mV c172 (iv rfl) ?_;have sbl:S.shared 171=false:=ah;simp only[go_sem,i172,wu,sbl,Ei pb,s209];refine AX hC (by rfl) (.inr ⟨o,f1⟩) (P:=FD sv id g ty es aj) (fun qJ h1 h2=>ao5 h1 (by rw[h2];kernel_rfl) hl hC k) fun v ao hP=>?_;obtain⟨rfl,h2⟩:=hP;simp only[go_sem];exact⟨rfl,h2⟩
def lO(ws:List Int):Nat->List Int
 |0=>[]
 |k+1=>match ws[k]? with
  |some x=>if 0<k/\ws[k-1]?=some x then lO ws k else lO ws k++[x]
  |none=>lO ws k
theorem YG(ws:List Int):∀k,(lO ws k).length<=k:=by
 intro k
 induction k with
 |zero=>exact bJ _
 |succ k ih=>
  unfold lO;split
  .split
   .omega
   simp;omega
  omega
theorem S3{k:Nat}(h:ws[k+1]?=some x)(hp:ws[k]?=some x):lO ws (k+2)=lO ws (k+1):=by
 conv=>lhs;unfold lO
 rw[h];simp[hp]
theorem S1{k:Nat}{y:Int}(h:ws[k+1]?=some x)(hp:ws[k]?=some y)(hn:¬x=y):lO ws (k+2)=lO ws (k+1)++[x]:=by
 conv=>lhs;unfold lO
 rw[h];have:¬y=x:=fun e=>hn e.symm;simp[hp,this]
theorem aiL(h:ws[0]?=some x):lO ws 1=[x]:=by simp[lO,h]
def Qr(ws:List Int)(k:Nat):Prop:=∀i x y,i+1<k->ws[i]?=some x->ws[i+1]?=some y-> ¬y=x
theorem S2:∀k,k<=ws.length->Qr ws k->lO ws k=ws.take k:=by
 intro k
 induction k with
 |zero=>intro _ _;rfl
 |succ k ih=>
  intro hk h;obtain⟨x,hx⟩:=aM (ls:=ws) (k:=k) aa;have e:=ih aa fun i x y h1=>h i x y aa;have ht:ws.take (k+1)=ws.take k++[x]:=by rw[iu,hx];rfl
  rcases k with _|k
  .rw[aiL hx,ht];rfl
  obtain⟨y,hy⟩:=aM (ls:=ws) (k:=k) aa;rw[S1 hx hy (h k y x aa hy hx),e,ht]
structure za (ws cs:List Int) (k q:Nat):Prop where
 len:cs.length=ws.length
 kl:k=(lO ws q).length
 pre:cs.take k=lO ws q
 out:∀p,q-1<=p->cs[p]?=ws[p]?
 kq:k<q
theorem za.step{cs:List Int}{k q:Nat}{y:Int}(h:za ws cs k (q+1))(hx:ws[q+1]?=some x)(hy:ws[q]?=some y)(hn:¬x=y):za ws (cs.set k x) (k+1) (q+2):=by
 obtain⟨h1,h2,h3,h4,h5⟩:=h;have hl:=YG ws (q+1);have hq:q+1<ws.length:=(bg.1 hx).1;refine⟨by simpa using h1,by rw[S1 hx hy hn,eG,<- h2];rfl,?_,fun p hp=>?_,aa⟩
 .rw[S1 hx hy hn,iu,mC];have:k<cs.length:=aa;rw[aD rfl,aD this,List.take_set_of_le (bJ _),h3];rfl
 rw[mC,ay aa];exact h4 p aa
theorem za.skip{cs:List Int}{k q:Nat}(h:za ws cs k (q+1))(hx:ws[q+1]?=some x)(hy:ws[q]?=some x):za ws cs k (q+2):=by obtain⟨h1,h2,h3,h4,h5⟩:=h;exact⟨h1,by rw[S3 hx hy];exact h2,by rw[S3 hx hy];exact h3,fun p hp=>h4 p aa,aa⟩
theorem za.start{k:Nat}(hk:k+1<ws.length)(h:Qr ws (k+1))(hx:ws[k+1]?=some x)(hy:ws[k]?=some x):za ws ws (k+1) (k+2):=by have e:=S2 (k+1) aa h;have e2:lO ws (k+2)=ws.take (k+1):=(S3 hx hy).trans e;exact⟨rfl,by rw[e2];simp;omega,by rw[e2],fun _ _=>rfl,aa⟩
def SP(id g ty:Nat)(ws:List Int)(aj:aw)(v:V)(ao:aw):Prop:=v=.one (.hsl id g 1 0 (lO ws ws.length).length)/\(∃cs:List Int,ao id=(g,some (.arr ty 1 (iP cs)))/\cs.length=ws.length/\cs.take (lO ws ws.length).length=lO ws ws.length)/\Kept (· =id) aj ao
theorem aml{cs:List Int}{k:Nat}(hk:k<=cs.length):List.take k (iP cs)++List.replicate (cs.length-k) [PV.int .i64 0]++List.drop (k+(cs.length-k)) (iP cs)=iP (cs.take k++List.replicate (cs.length-k) 0):=by rw[RQ (by simp;omega),mR];simp only[iP,rQ,List.map_replicate,KQ]
theorem Ys{al:Al}{aj:aw}{id g:Nat}(o:al.ok id=true)(hl:ws.length<=1000000)(hC:aj id=(g,some (.arr ty 1 (iP ws)))):
  ∃v ao,iw S 189 [.one (.hsl id g 1 0 ws.length)] al aj v ao/\SP id g ty ws aj v ao:=by
 refine mV c189 (iv rfl) ?_;by_cases h2:ws.length<2
 .have iS:((ws.length:Int)<2):=aa;have fj:Qr ws ws.length:=fun i x y h=>aa;have e:=S2 ws.length (bJ _) fj;rw[kE] at e;simp only[go_sem,i189,iS];exact⟨by rw[e],⟨ws,hC,rfl,by rw[e,kE]⟩,Kept.refl _ _⟩
 have iS:¬((ws.length:Int)<2):=aa;simp only[go_sem,i189,iS];refine cJ (fun q ak ao=>ak 0=.one (.hsl id g 1 0 ws.length)/\ak 3=vi ((q+1:Nat):Int)/\Qr ws (q+1)/\ao=aj) 0 ws.length (bj _) ?_ ?_
 .simp only[go_sem];exact⟨rfl,fun i x y h=>aa⟩
 rintro q ak cn hq ⟨h0,h3,fj,rfl⟩
 by_cases aq:q+1<ws.length
 .have aL:(((q+1:Nat):Int)<(ws.length:Int)):=aa;obtain⟨x,hx⟩:=aM (ls:=ws) (k:=q+1) aq;obtain⟨y,hy⟩:=aM (ls:=ws) (k:=q) aa;have ue:=yp hx;have CR:=yp hy;have wj:IntKind.i64.wrap (((q+1:Nat):Int)-1)=(q:Int):=by rw[ur aa];omega
  have wk:=bN (n:=q+1) aa;have q1:q<ws.length:=aa;have q2:q+1<=ws.length:=aa;by_cases e:x=y
  .subst e;simp only[go_sem,i189_l4,h0,h3,aq,aL,ue,CR,wj,q1,q2,hC,o];refine⟨aK,?_⟩;refine cJ (fun r ak ao=>ak 0=.one (.hsl id g 1 0 ws.length)/\ak 4=.one (.hsl id g 1 (q+1) (ws.length-(q+1)))/\ak 5=vi ((r+1:Nat):Int)/\ ∃(cs:List Int) (k:Nat),ak 3=vi (k:Nat)/\ao id=(g,some (.arr ty 1 (iP cs)))/\za ws cs k (q+2+r)/\q+2+r<=ws.length/\Kept (· =id) cn ao) 0 ws.length (bj _) ?_ ?_
   .simp only[go_sem,h0];exact⟨rfl,ws,q+1,h3,hC,za.start aq fj hx hy,aa,Kept.refl _ _⟩
   rintro r dp ba hr ⟨k0,k4,k5,cs,k,k3,hB,hI,hqr,dq⟩
   have cP:=hI.len;have eI:=hI.kl;have hkle:=YG ws (q+2+r);have hkq:=hI.kq;have I4:za ws cs k (q+1+r+1):=by rw[show q+1+r+1=q+2+r by omega];exact hI
   by_cases PG:r+1<ws.length-(q+1)
   .have PH:(((r+1:Nat):Int)<((ws.length-(q+1):Nat):Int)):=aa;obtain⟨u,hu⟩:=aM (ls:=ws) (k:=q+1+(r+1)) aa;obtain⟨v,hv⟩:=aM (ls:=ws) (k:=q+1+r) aa;have cu:=yp ((hI.out (q+1+(r+1)) aa).trans hu);have cv:=yp ((hI.out (q+1+r) aa).trans hv);have wr:IntKind.i64.wrap (((r+1:Nat):Int)-1)=(r:Int):=by rw[ur aa];omega
    have wr2:=bN (n:=r+1) aa;have wk2:=bN (n:=k) aa;have r1:r<ws.length-(q+1):=aa;have kk:k<ws.length:=aa;have kk2:k<cs.length:=aa;obtain⟨z,hz⟩:=aM kk2;have cz:=yp hz;by_cases e2:u=v
    .subst e2;have ER:(u !=u)=false:=af;have wD:=I4.skip (by rw[show q+1+r+1=q+1+(r+1) by omega];exact hu) hv;simp only[go_sem,i189_l1,k0,k4,k5,k3,PG,PH,r1,hB,cu,cv,wr,wr2,ER,o];refine⟨aK,aa,cs,k,rfl,rfl,by rw[show q+2+(r+1)=q+1+r+2 by omega];exact wD,aa,dq⟩
    have ER:=(show(u !=v)=true by simp[e2]);simp only[go_sem,i189_l1,k0,k4,k5,k3,PG,PH,r1,hB,cu,cv,wr,wr2,wk2,kk,cz,ER,o];have wD:=I4.step (by rw[show q+1+r+1=q+1+(r+1) by omega];exact hu) hv e2;refine⟨aK,aa,cs.set k u,k+1,rfl,by rw[UC],by rw[show q+2+(r+1)=q+1+r+2 by omega];exact wD,aa,dq.dj rfl _⟩
   have PH:¬(((r+1:Nat):Int)<((ws.length-(q+1):Nat):Int)):=aa;have kk3:k<=ws.length:=aa;have kk4:k+(ws.length-k)<=cs.length:=aa;have aI:¬(ws.length-k=0):=aa;have Gx:q+2+r=ws.length:=aa;rw[Gx] at hI;have qt:=aml (cs:=cs) (k:=k) aa;rw[cP] at qt;simp only[go_sem,i189_l1,i189_r2,k0,k4,k5,k3,PH,hB,o,kk3,kk4,aI,WT,pK,qt];obtain⟨i1,i2,i3,i4,i5⟩:=hI;refine⟨by rw[<- i2],⟨_,rL,by simp;omega,?_⟩,dq.dj rfl _⟩;rw[<- i2,List.take_left' (by simp;omega),i3]
  have e1:=(show(x==y)=false by simp[e]);simp only[go_sem,i189_l4,i189_r3,h0,h3,aq,aL,ue,CR,wj,wk,q1,hC,o,e1];refine⟨aK,fun i u v h h4 h5=>?_⟩;by_cases e2:i=q
  .subst e2;rw[hy] at h4;rw[hx] at h5;cases h4;cases h5;exact e
  exact fj i u v aa h4 h5
 have aL:¬(((q+1:Nat):Int)<(ws.length:Int)):=aa;have e:=S2 ws.length (bJ _) (fun i x y h=>fj i x y aa);rw[kE] at e;simp only[go_sem,i189_l4,i189_r5,h0,h3,aL];exact⟨by rw[e],⟨ws,hC,rfl,by rw[e,kE]⟩,Kept.refl _ _⟩
def jC:List Int->List Int
 |[]=>[]
 |x::r=>if x∈r then jC r else x::jC r
theorem F9:∀ {l:List Int},x∈jC l↔x∈l:=by
 intro l
 induction l with
 |nil=>simp[jC]
 |cons y r ih=>
  unfold jC;split
  .rename_i h;rw[ih,cI];constructor
   .exact .inr
   rintro (rfl|h2)
   .exact h
   exact h2
  rw[cI,cI,ih]
theorem ai5:∀l:List Int,(jC l).Nodup:=by
 intro l
 induction l with
 |nil=>exact vU
 |cons y r ih=>
  unfold jC;split
  .exact ih
  rename_i h;exact nI.2 ⟨fun h2=>h (F9.1 h2),ih⟩
theorem YH:∀k,k<=ws.length->(x∈lO ws k↔x∈ws.take k):=by
 intro k
 induction k with
 |zero=>intro _;simp[lO]
 |succ k ih=>
  intro hk;obtain⟨y,hy⟩:=aM (ls:=ws) (k:=k) aa;have ht:ws.take (k+1)=ws.take k++[y]:=by rw[iu,hy];rfl
  have ih:=ih aa;unfold lO;rw[hy,ht];simp only;split
  .rename_i h;obtain⟨h1,h2⟩:=h;have hm:y∈ws.take k:=by
    rw[List.mem_take_iff_getElem];obtain⟨h3,h4⟩:=bg.1 h2;exact⟨k-1,aa,h4⟩
   rw[ih,dZ];constructor
   .exact .inl
   rintro (h|h)
   .exact h
   simp at h;subst h;exact hm
  rw[dZ,dZ,ih]
theorem aiK(hs:u7 sv ws 0 ws.length):∀k,k<=ws.length->(lO ws k).Nodup:=by
 intro k
 induction k with
 |zero=>intro _;exact vU
 |succ k ih=>
  intro hk;obtain⟨y,hy⟩:=aM (ls:=ws) (k:=k) aa;have ih:=ih aa;unfold lO;rw[hy];simp only;split
  .exact ih
  rename_i h;rw[DH];refine⟨ih,af,fun z hz w hw=>?_⟩;simp at hw;subst hw;rintro rfl
  rw[YH k aa,List.mem_take_iff_getElem] at hz;obtain⟨p,hp,hpz⟩:=hz;have vv:p<k:=aa;have qo:ws[p]?=some z:=by rw[oJ aa,hpz]
  obtain⟨u,hu⟩:=aM (ls:=ws) (k:=k-1) aa;have s1:=hs (k-1) k u z (bj _) aa aa hu hy;have huz:u=z:=by
   by_cases e:p=k-1
   .rw[e,hu] at qo;cases qo;rfl
   have s2:=hs p (k-1) z u (bj _) aa aa qo hu;simp at s1 s2;omega
  rw[huz] at hu;exact h ⟨aa,hu⟩
theorem Yr{es:List Int}(hp:ws.Perm es)(hs:u7 sv ws 0 ws.length):(lO ws ws.length).length=(jC es).length:=by refine List.Perm.length_eq ((List.perm_ext_iff_of_nodup (aiK hs _ (bJ _)) (ai5 es)).2 fun x=>?_);rw[YH _ (bJ _),kE,F9,hp.mem_iff]
def wm(ls:List Let)(e:Nat):Bool:=((pA ls e).l.kind==2)&&((pA ls (nx ls e)).l.kind==2)
def rK(ls:List Let)(es:List Nat):List Int:=es.flatMap fun e:Nat=>[(e:Int),(nx ls e:Int)]
def uj(ls:List Let)(es:List Nat):List Int:=es.flatMap fun e:Nat=>[(pA ls e).l.id,(pA ls (nx ls e)).l.id]
def FI(F:Nat)(ls:List Let)(a b c:Nat):Bool:=[a,b,c].all (wm ls)&&(((jC (rK ls [a,b,c])).length==6)&&(((jC (uj ls [a,b,c])).length==3)&&([a,b,c].any (mG ls · true)&&([a,b,c].any (mG ls · false)&&rV F ls 0 [a,b,c] a))))
def tC(F:Nat)(ls:List Let)(a b c:Nat):Option (List Pc):=if FI F ls a b c then some (im ls (pieces ls) [a,b,c]) else none
theorem Ri(f:Nat->List Int)(hf:∀e,(f e).length=2):∀l:List Nat,(l.flatMap f).length=2*l.length:=by
 intro l
 induction l with
 |nil=>rfl
 |cons a r ih=>rw[DC,eG,ih,hf,cS];omega
theorem ZU(f:Nat->List Int)(l:List Nat)(k e:Nat)(h:l[k]?=some e):(l.take (k+1)).flatMap f=(l.take k).flatMap f++f e:=by rw[iu,h];simp
theorem Xv(f:Nat->Bool)(l:List Nat)(k e:Nat)(h:l[k]?=some e):(l.take (k+1)).any f=((l.take k).any f||f e):=by rw[iu,h];simp
theorem agT(f:Nat->Bool)(l:List Nat)(k e:Nat)(h:l[k]?=some e):(l.take (k+1)).all f=((l.take k).all f&&f e):=by rw[iu,h];simp
theorem afx(f:Nat->List Int)(es:List Nat)(x y:Int):iP (es.flatMap f)++[[PV.int .i64 x],[PV.int .i64 y]]=iP (es.flatMap f++[x,y]):=af
theorem as1{F:Nat}(g:bQ F ls){av bv cv:Nat}(ha:av<ls.length)(hb:bv<ls.length)(hc:cv<ls.length){k:Int}{l o:Bool}{sg:Int}:
  aF S 152 [.one (.p (fO F ls)),fE k av bv cv l o sg] (kR (tC F ls av bv cv)):=by
 have hlen:=g.len;have cK:=jJ ls;have kA:∀e∈[av,bv,cv],e<ls.length:=fun e h=>by simp at h;rcases h with rfl|rfl|rfl<;>assumption
 generalize hE:[av,bv,cv]=es at*;have de:es.length=3:=by rw[<- hE];rfl
 have GL:nP [av,bv,cv]=[[.int .i64 av],[.int .i64 bv],[.int .i64 cv]]:=rfl;rw[hE] at GL;have w3:((3:Nat):Int)=3:=rfl;refine aV c152 ?_;simp only[go_sem,i152];refine cJ (fun j ak aj=>ak 0=.one (.p (fO F ls))/\ak 6=.one (.hsl 9728064384 1 1 0 3)/\ak 22=.one (.hsl 9728064384 1 1 0 3)/\ak 23=vi 3/\ak 24=vi j/\aj 9728064384=(1,some (.arr 3 1 (nP es)))/\(es.take j).all (wm ls)=true/\
  ak 9=vb ((es.take j).any (mG ls · true))/\ak 10=vb ((es.take j).any (mG ls · false))/\ ∃c7 c8,ak 7=.one c7/\ak 8=.one c8/\grown 9728640256 3 1 (iP (rK ls (es.take j))) (.one c7) aj/\grown 9728705280 3 1 (iP (uj ls (es.take j))) (.one c8) aj) 0 3 (bj _) ?_ ?_
 .simp only[go_sem];exact⟨rfl,rfl,by rw[GL],rfl,rfl,_,_,rfl,rfl,grown.nil,grown.nil⟩
 rintro j ak aj hj ⟨h0,h6,nM,qe,ml,b6,cV,h9,fP,c7,c8,h7,h8,g7,g8⟩
 by_cases aq:j<3
 .have aL:((j:Int)<3):=aa;obtain⟨e,he⟩:=aM (ls:=es) (k:=j) aa;have Ct:=kA e (aW he);have uK:=iF he;have pe:=LF g Ct;have hm:=ez (e+1) (show 0<ls.length by omega);obtain⟨P,hP⟩:=aM (ls:=pieces ls) (k:=e) aa;obtain⟨Q,hQ⟩:=aM (ls:=pieces ls) (k:=(e+1)%ls.length) aa;have nN:=rG hP;have haq:=rG hQ;have w1:=bN (n:=j) aa;have po:=XV g Ct true;have pu:=XV g Ct false;have fU:wm ls e=((P.l.kind==2)&&(Q.l.kind==2)):=by unfold wm;rw[qD hP,qD hQ]
  have hl7:(iP (rK ls (es.take j))).length<=100:=by unfold rK;rw[pK,Ri _ (fun _=>rfl),gT];omega
  have hl8:(iP (uj ls (es.take j))).length<=100:=by unfold uj;rw[pK,Ri _ (fun _=>rfl),gT];omega
  have dr:wm ls e=false->tC F ls av bv cv=none:=fun h=>by
   have:es.all (wm ls)=false:=by
    cases hh:es.all (wm ls) with
    |false=>rfl
    |true=>rw[ir.1 hh e (aW he)] at h;cases h
   unfold tC FI;rw[hE,this];rfl
  cases k1:(P.l.kind==2) with
  |false=>
   rw[k1] at fU;have k1':(P.l.kind !=2)=true:=by simp only[bne,k1];rfl
   rw[dr fU];simp only[go_sem,i152_l1,h0,nM,qe,ml,b6,aq,aL,uK,s176,cU pe mw,nN,Pc.ps,k1'];rfl
  |true=>
   have k1':(P.l.kind !=2)=false:=by simp only[bne,k1];rfl
   cases k2:(Q.l.kind==2) with
   |false=>
    rw[k1,k2] at fU;have k2':(Q.l.kind !=2)=true:=by simp only[bne,k2];rfl
    rw[dr fU];simp only[go_sem,i152_l1,h0,nM,qe,ml,b6,aq,aL,uK,s176,cU pe mw,nN,haq,Pc.ps,k1',k2'];rfl
   |true=>
    rw[k1,k2] at fU;have k2':(Q.l.kind !=2)=false:=by simp only[bne,k2];rfl
    simp only[go_sem,i152_l1,h0,h7,nM,qe,ml,b6,aq,aL,uK,s176,cU pe mw,nN,haq,Pc.ps,k1',k2'];refine ni (xs:=[[.int .i64 (e:Nat)],[.int .i64 ((e+1)%ls.length:Nat)]]) (g7.of_eq (aR ae)) (by simp only[ed,aN,if_true];rfl) (.inl rfl) (by simp only[cS,eE];omega) fun d7 cn gd7 cq=>?_;have q6:=cq 9728064384 ae ae;simp only[go_sem,b6] at q6;have g8':=g8.of_eq ((cq 9728705280 ae ae).trans (aR ae));simp only[go_sem,h0,h8,nN,haq,Pc.ps];refine mZ (xs:=[[.int .i64 P.l.id],[.int .i64 Q.l.id]]) (g8'.of_eq (aR ae)) (by simp only[ed,aN,if_true];rfl) (.inl rfl) (by simp only[cS,eE];omega) fun d8 ba r w gd8 aT hw=>?_
    have p6:=(aT 9728064384 ae ae).trans ((aR ae).trans q6);have akI:=gd7.of_eq ((aT 9728640256 ae ae).trans (aR ae));simp only[go_sem];refine⟨?_,?_⟩
    .rcases hw with ⟨rfl,rfl⟩|⟨rfl,rfl⟩|⟨rfl,rfl⟩<;>kernel_rfl
    generalize hx9:(es.take j).any (mG ls · true)=x9 at h9;generalize ami:(es.take j).any (mG ls · false)=HK at fP;have e9:=Xv (mG ls · true) es j e he;have iA:=Xv (mG ls · false) es j e he;have eA:=agT (wm ls) es j e he;rw[hx9] at e9;rw[ami] at iA;rw[cV,fU] at eA;have G7:grown 9728640256 3 1 (iP (rK ls (es.take (j+1)))) (.one d7) ba:=by have:=afx (fun e:Nat=>[(e:Int),(nx ls e:Int)]) (es.take j) e (nx ls e);have h2:=ZU (fun e:Nat=>[(e:Int),(nx ls e:Int)]) es j e he;rw[show rK ls (es.take (j+1))=(es.take j).flatMap (fun e:Nat=>[(e:Int),(nx ls e:Int)])++[(e:Int),(nx ls e:Int)] from h2,<- this];exact akI
    have G8:grown 9728705280 3 1 (iP (uj ls (es.take (j+1)))) (.one d8) ba:=by have:=afx (fun e:Nat=>[(pA ls e).l.id,(pA ls (nx ls e)).l.id]) (es.take j) (pA ls e).l.id (pA ls (nx ls e)).l.id;have h2:=ZU (fun e:Nat=>[(pA ls e).l.id,(pA ls (nx ls e)).l.id]) es j e he;rw[show uj ls (es.take (j+1))=(es.take j).flatMap (fun e:Nat=>[(pA ls e).l.id,(pA ls (nx ls e)).l.id])++[(pA ls e).l.id,(pA ls (nx ls e)).l.id] from h2,<- this,qD hP,show pA ls (nx ls e)=Q from qD hQ];exact gd8
    cases x9<;>cases HK<;>simp only[go_sem,h0,h9,fP,nM,qe,ml,s187,bh po,bh pu,w1,aq]<;>exact⟨h6,p6,by rw[eA];rfl,by rw[e9];rfl,by rw[iA];rfl,d7,d8,rfl,rfl,G7,G8⟩
 have:j=3:=aa;subst this;have ht:es.take 3=es:=by rw[<- hE];rfl
 rw[ht] at cV h9 fP g7 g8;have n7:(rK ls es).length=6:=by unfold rK;rw[Ri _ (fun _=>rfl),de]
 have n8:(uj ls es).length=6:=by unfold uj;rw[Ri _ (fun _=>rfl),de]
 rcases g7 with ⟨e,_⟩|⟨_,gg7,e,b7⟩
 .have:=congrArg List.length e;rw[pK,n7] at this;cases this
 cases e;rcases g8 with ⟨e,_⟩|⟨_,gg8,e,b8⟩
 .have:=congrArg List.length e;rw[pK,n8] at this;cases this
 cases e;have s506:S.shared 172=true:=ah;have s507:S.shared 189=true:=ah;have zn:¬(((3:Nat):Int)<3):=ae;simp only[go_sem,i152_l1,i152_r2,h7,qe,ml,zn,s506,pK];refine AX b7 (by rfl) (.inl rfl) (P:=FD sv 9728640256 gg7 3 (rK ls es) aj) (fun qJ h1 h2=>Wd h1 (by rw[h2];kernel_rfl) aa b7) fun v cn hP=>?_;obtain⟨rfl,⟨ws,bw,pw,sw⟩,kw⟩:=hP;have b8':=(kw 9728705280 ae).trans b8;have b6':=(kw 9728064384 ae).trans b6;simp only[go_sem,h8,s506,pK];refine AX b8' (by rfl) (.inl rfl) (P:=FD sv 9728705280 gg8 3 (uj ls es) cn) (fun qJ h1 h2=>Wd h1 (by rw[h2];kernel_rfl) aa b8') fun v ba hP=>?_
 obtain⟨rfl,⟨us,bu,pu,su⟩,ku⟩:=hP;have bw':=(ku 9728640256 ae).trans bw;have ahz:=(ku 9728064384 ae).trans b6';have wl:=pw.length_eq;have ul:=pu.length_eq;have cw:=Yr pw sw;have cu:=Yr pu su;have pcn:=YB g es aa (e0:=av) (by rw[<- hE];rfl) ha 0;have c00:((0:Nat):Int)=0:=rfl;rw[c00] at pcn;have psw:=asD g es kA aa;have ht3:List.take 3 (nP es)=nP es:=dD (by rw[Nf];omega);have hB:FI F ls av bv cv=((((jC (rK ls es)).length:Int)==6)&&((((jC (uj ls es)).length:Int)==3)&&(es.any (mG ls · true)&&(es.any (mG ls · false)&&rV F ls 0 es av)))):=by unfold FI;rw[hE,cV,MY,MY];rfl
 unfold tC;rw[hB];clear hB;simp only[go_sem,h7,s507,pK,<- wl];refine AX bw' (by rfl) (.inl rfl) (P:=SP 9728640256 gg7 3 ws ba) (fun qJ h1 h2=>Ys h1 aa bw') fun v fN hP=>?_;obtain⟨rfl,_,kc⟩:=hP;have bu':=(kc 9728705280 ae).trans bu;have b63:=(kc 9728064384 ae).trans ahz;rw[cw];have lo:S.lone 9729152128=false:=ah;cases q1:(((jC (rK ls es)).length:Int)==6) with
 |false=>
  have Ht:(((jC (rK ls es)).length:Int)!=6)=true:=by simp only[bne,q1];rfl
  simp only[go_sem,Ht];rfl
 |true=>
  have Ht:(((jC (rK ls es)).length:Int)!=6)=false:=by simp only[bne,q1];rfl
  simp only[go_sem,h8,Ht,s507,pK,<- ul];refine AX bu' (by rfl) (.inl rfl) (P:=SP 9728705280 gg8 3 us fN) (fun qJ h1 h2=>Ys h1 aa bu') fun v vc hP=>?_;obtain⟨rfl,_,kd⟩:=hP;have b64:=(kd 9728064384 ae).trans b63;rw[cu];cases q2:(((jC (uj ls es)).length:Int)==3) with
  |false=>
   have Kg:(((jC (uj ls es)).length:Int)!=3)=true:=by simp only[bne,q2];rfl
   simp only[go_sem,Kg];rfl
  |true=>
   have Kg:(((jC (uj ls es)).length:Int)!=3)=false:=by simp only[bne,q2];rfl
   cases q3:es.any (mG ls · true) with
   |false=>rw[q3] at h9;simp only[go_sem,h9,Kg];rfl
   |true=>
    rw[q3] at h9;cases q4:es.any (mG ls · false) with
    |false=>rw[q4] at fP;simp only[go_sem,h9,fP,Kg];rfl
    |true=>
     rw[q4] at fP;cases q5:rV F ls 0 es av with
     |false=>rw[q5] at pcn;simp only[go_sem,h0,h6,h9,fP,Kg,b64,s184,bh pcn,de,Nf,ht3];rfl
     |true=>rw[q5] at pcn;simp only[go_sem,h0,h6,h9,fP,Kg,b64,s184,bh pcn,s190,de,Nf,ht3];refine vj psw lo (.inr (xD (aq0 _))) fun cc BT gc Eu=>?_;simp only[go_sem];rw[<- hE] at gc;exact LZ gc
abbrev UL:List C:=[.p .yz,.p (.fn 145 [] []),.p (.fn 146 [] []),.p (.fn 147 [] []),.p (.fn 148 [] []),.p (.fn 149 [] []),.p (.fn 150 [] []),.p (.fn 151 [] []),.p (.fn 152 [] []),.p (.fn 153 [] []),.p (.fn 153 [] [])]
theorem akX(k:Int):0<=(lR k).1/\(lR k).1<=4/\0<=(lR k).2/\(lR k).2<=2:=by
 unfold lR;split
 .simp
 split
 .simp
 split<;>simp
theorem Zc{F:Nat}(hlen:ls.length<=400)(fU:aC Let.aG ls<=200){k f:Nat}{rest:List C}(hk:UL.drop k=.p (.fn f [] [])::rest)(jV:k<11)(Js:S.shared f=false){a b c:Int}{l o:Bool}{sg:Int}{res:Option (List Pc)}(ha:aF S 117 [.one (.p (fO F ls)),fE k a b c l o sg] (rb true))(hm:aF S f [.one (.p (fO F ls)),fE k a b c l o sg] (kR res))(hL:∀L,res=some L->L.length<=1000000):
  aF S 78 [.one (.p (fO F ls)),fE k a b c l o sg] (ze F ls k res):=by
 have Cv:=aj8 F;have pg:=akW k;have iD:S.lone 4992192384=false:=ah;have kN:S.lone 4992576128=false:=ah;have hlk:∀(aj:aw),land aj [] 4992192000 ((RV.agg [.p .yz,.p (.fn 145 [] []),.p (.fn 146 [] []),.p (.fn 147 [] []),.p (.fn 148 [] []),.p (.fn 149 [] []),.p (.fn 150 [] []),.p (.fn 151 [] []),.p (.fn 152 [] []),.p (.fn 153 [] []),.p (.fn 153 [] [])]).eD (S.lone 4992192000))=some (.agg UL,[]):=fun aj=>by cases S.lone 4992192000<;>rfl
 have cK:=jJ ls;obtain⟨g1,g2,g3,g4⟩:=akX k;have lg:∀aj:aw,land aj [] 4992384128 ((RV.tup [.one (.p (.int .i64 (lR k).1)),.one (.p (.int .i64 (lR k).2))]).eD (S.lone 4992384128))=some (.tup [.one (.p (.int .i64 (lR k).1)),.one (.p (.int .i64 (lR k).2))],[]):=fun aj=>mw;obtain⟨LX,LY,r5⟩:∃x y,lR k=(x,y):=⟨_,_,rfl⟩;have d4:ze F ls k none=sH 4:=rfl;have d7:∀L,((400:Int)<(ls.length:Int)+LX\/(100:Int)<((aC Let.aG ls/2:Nat):Int)+LY)->ze F ls k (some L)=sH 7:=fun L h=>by unfold ze;rw[r5];exact aD h
 have d0:∀L,¬((400:Int)<(ls.length:Int)+LX\/(100:Int)<((aC Let.aG ls/2:Nat):Int)+LY)->ze F ls k (some L)=mz F (nh L):=fun L h=>by unfold ze;rw[r5];exact ay h
 rw[r5] at g1 g2 g3 g4 pg;simp only[r5] at lg;simp only at g1 g2 g3 g4 lg pg;have w1:IntKind.i64.wrap (((pieces ls).length:Int)+LX)=(ls.length:Int)+LX:=by rw[cK];exact rM aa aa
 have w2:IntKind.i64.wrap (((aC Let.aG ls/2:Nat):Int)+LY)=((aC Let.aG ls/2:Nat):Int)+LY:=rM aa aa;unfold kR at hm;generalize UL=kg at hk hlk;refine aV c78 ?_;simp only[go_sem,i78,s117,bh ha,s118,mH am0 (hlk _),hk,jV,Js];refine aiV hm iD fun cc cn w gc hb hw=>?_;have b0:=hb 4992000000 ae;have b1:=hb 4992000064 ae;simp only[go_sem] at b0 b1;cases res with
 |none=>rw[d4];simp only[go_sem,b1];refine⟨?_,rfl⟩;rcases hw with rfl|rfl<;>kernel_rfl
 |some L=>
  simp only[lZ] at gc;have pfin:=Cv L (hL L rfl) (.sl (jk (pieces ls))) (.sl (jR (dh F ls))) (.sl (nP (ou F ls))) (.int .i64 (aC Let.aJ ls:Nat)) (.int .i64 ((aC Let.aG ls/2:Nat):Int)) (.sl (nP (counts ls F)));obtain⟨rs,qq,_⟩:=gc.ik;by_cases h1:(400:Int)<(ls.length:Int)+LX
  .rw[d7 L (.inl h1)];simp only[go_sem,b0,b1,s119,cU pg (lg _),w1,h1];refine⟨?_,rfl⟩;rcases hw with rfl|rfl<;>kernel_rfl
  by_cases h2:(100:Int)<((aC Let.aG ls/2:Nat):Int)+LY
  .rw[d7 L (.inr h2)];simp only[go_sem,b0,b1,s119,cU pg (lg _),w1,w2,h1,h2];refine⟨?_,rfl⟩;rcases hw with rfl|rfl<;>kernel_rfl
  rw[d0 L (by rintro (h|h);exact h1 h;exact h2 h)];simp only[go_sem,b0,s119,cU pg (lg _),w1,w2,h1,h2,qq,s120];refine⟨?_,?_⟩
  .rcases hw with rfl|rfl<;>kernel_rfl
  refine LR pfin kN rfl (Fz _) fun c2 ba Ej aT=>?_;have b02:=(aT 4992000064 ae).trans b1;simp only[go_sem,b02];exact aaq (Ej.of_eq (aR ae))
theorem ai9{F:Nat}{k a b c:Int}{l o:Bool}{sg:Int}(ha:aF S 117 [.one (.p (fO F ls)),fE k a b c l o sg] (rb false)):aF S 78 [.one (.p (fO F ls)),fE k a b c l o sg] (sH 2):=by refine aV c78 ?_;simp only[go_sem,i78,s117,bh ha];try rfl
def sC(F:Nat)(ls:List Let)(k:Int)(a b c:Nat)(l o:Bool)(sg:Int):Option (List Pc):=if k=1 then acR ls a else if k=2 then amR F ls a b c else if k=3 then uy F ls a b else if k=4 then lcR ls a else if k=5 then some (lmR ls a sg o) else if k=6 then pcR F ls a b else if k=7 then pmR F ls a b l o else if k=8 then tC F ls a b c else if k=9 then trR F ls a else tlR ls a
def oO(F:Nat)(ls:List Let)(k a b c:Int)(l o:Bool)(sg:Int):RV:=if bY F ls k a b c l o sg then ze F ls k (sC F ls k a.toNat b.toNat c.toNat l o sg) else sH 2
theorem ag6{F:Nat}{k a b c:Int}{l o:Bool}{sg:Int}:(∃e,oO F ls k a b c l o sg=sH e)\/ ∃L,oO F ls k a b c l o sg=mz F L:=by
 unfold oO;split
 .cases sC F ls k a.toNat b.toNat c.toNat l o sg with
  |none=>exact .inl ⟨4,rfl⟩
  |some L=>
   by_cases h:(400:Int)<(ls.length:Int)+(lR k).1\/(100:Int)<((aC Let.aG ls/2:Nat):Int)+(lR k).2
   .exact .inl ⟨7,aD h⟩
   exact .inr ⟨nh L,ay h⟩
 exact .inl ⟨2,rfl⟩
theorem ahb{F:Nat}{k a b c:Int}{l o:Bool}{sg:Int}{res:RV}(po:aF S 76 [cZ F ls] (Ah (fO F ls) (.int .i64 0)))(hd:aF S 78 [.one (.p (fO F ls)),fE k a b c l o sg] res)(fin:(∃e,res=sH e)\/ ∃L,res=mz F L):
  aF S 41 [cZ F ls,fE k a b c l o sg] res:=by
 have lo:S.lone 2624256128=false:=ah;refine aV c41 ?_;rcases fin with ⟨e,rfl⟩|⟨L,rfl⟩
 .simp only[go_sem,i41,s76,cU po mw,s78,cU hd am8];rfl
 simp only[go_sem,i41,s76,cU po mw,s78];refine aaf hd lo fun cc cn gc hb=>?_;have b4:=hb 2624000128 ae;simp only[go_sem] at b4;simp only[go_sem,b4];exact aaq (gc.of_eq (aR ae))
theorem ug{n:Nat}{i:Int}(h:iX n i=true):∃k:Nat,i=(k:Int)/\k<n:=by unfold iX at h;simp at h;exact⟨i.toNat,aa,aa⟩
theorem UN(l:List Pc)(drop:Nat->Pc->Bool):(UM l drop).length<=l.length:=amU l drop l.length
theorem aeI(l:List Pc)(i:Nat)(g r:Int):(Q4 l i g r).length=l.length:=by simp[Q4]
theorem aor{F:Nat}{k:Int}{a b c:Nat}{l o:Bool}{sg:Int}{L:List Pc}(h:sC F ls k a b c l o sg=some L):L.length<=ls.length+4:=by
 have hp:=jJ ls;unfold sC at h;repeat' split at h
 .unfold acR at h;simp only at h;split at h
  .cases h;have:=UN (pieces ls) (fun k _=>decide (k=a)||decide (k=(a+1)%ls.length));simp only[Dn,cH];omega
  cases h
 .unfold amR at h;split at h
  .cases h;simp only[OC,PY,Dn,cH,cS,eE];omega
  split at h
  .cases h;simp only[OC,PY,Dn,cH,cS,eE];omega
  cases h
 .unfold uy at h;split at h
  .cases h;simp only[Bw,Bt];omega
  cases h
 .unfold lcR at h;simp only at h;split at h
  .cases h;have:=UN (pieces ls) (Te [((pieces ls).getD a ⟨kO,false⟩).l.id]);simp only[O1,cH];omega
  cases h
 .cases h;simp only[lmR,PY,cS,eE];omega
 .unfold pcR at h;split at h
  .cases h;have:=UN (pieces ls) (Te [(pA ls a).l.id,(pA ls (nx ls a)).l.id]);simp only[O1,cH];omega
  cases h
 .have key:∀s t,pmV ls a b l o s t=some L->L.length<=ls.length+4:=fun s t h=>by
   unfold pmV at h;split at h
   .cases h
   simp only[fL] at h;subst h;have h2:∀x sg o s,(pmS x sg o s).length=2:=fun x sg o s=>by unfold pmS;split<;>rfl
   split<;>simp only[PY,h2,cS,eE]<;>omega
  unfold pmR at h;split at h
  .exact key _ _ h
  exact key _ _ h
 .unfold tC at h;split at h
  .cases h;simp only[Bw];omega
  cases h
 .unfold trR at h;split at h
  .cases h;simp only[aeI,Dn,cH];omega
  cases h
 unfold tlR at h;split at h
 .cases h;simp only[aeI,Dn,cH];omega
 cases h
abbrev lA(ls:List Let)(i:Nat):Let:=ls.getD i kO
theorem acf{i:Nat}{l:Let}(h:ls[i]?=some l):lA ls i=l:=by rw[lA,cY,h];rfl
theorem nC{i:Nat}(h:i<ls.length):ls[i]?=some (lA ls i):=by obtain⟨l,hl⟩:=aM h;rw[acf hl,hl]
theorem yF(l:List Let):eo 6 (aZ l)=true:=by simp[eo,Let.ps]
theorem U0(a b:List Let):aZ (a++b)=aZ a++aZ b:=rQ
theorem Qk{L:List Let}(h:L≠[]):aZ L≠[]:=by simpa [aZ] using h
def leq(a b:Let):Bool:=(a.kind==b.kind)&&((a.gate==b.gate)&&((a.aE==b.aE)&&((a.id==b.id)&&((a.sign==b.sign)&&(a.over==b.over)))))
theorem IK(x y:Let):vg [true,true,true,true,true,false] [.p (.int .i64 x.kind),.p (.int .i64 x.gate),.p (.int .i64 x.aE),.p (.int .i64 x.id),.p (.int .i64 x.sign),.p (.bool x.over)] [.p (.int .i64 y.kind),.p (.int .i64 y.gate),.p (.int .i64 y.aE),.p (.int .i64 y.id),.p (.int .i64 y.sign),.p (.bool y.over)]=some (leq x y):=by
 have e:∀a b:Int,uC true (.int .i64 a) (.int .i64 b)=some (a==b):=fun a b=>by simp[uC]
 have e2:∀a b:Bool,uC false (.bool a) (.bool b)=some (a==b):=fun a b=>by simp[uC]
 simp only[vg,leq,e,e2];cases (x.kind==y.kind)<;>cases (x.gate==y.gate)<;>cases (x.aE==y.aE)<;>cases (x.id==y.id)<;>cases (x.sign==y.sign)<;>cases (x.over==y.over)<;>rfl
theorem zV(x:Let):leq x x=true:=by simp[leq]
theorem aes(L:List Let)(k:Nat)(hk:k<=L.length)(hl:L.length<=1000000):aF S 72 [.one (.p (cQ L)),vi k] (.one (aO gH 6 (aZ (L.drop k++L.take k)))):=by
 have MR:=yF L;have Ez:List.take (L.length-k) (List.drop k (aZ L))=aZ (L.drop k):=by rw[dD af];simp[KP]
 have eY:List.take k (aZ L)=aZ (L.take k):=by simp[KQ]
 rw[U0];refine aV c72 ?_;simp only[go_sem,i72,hk,MR,Ez];refine mZ (id:=4608064192) (bytes:=48) grown.nil (xs:=aZ (L.drop k)) (rd:=[]) rfl (.inr (yF _)) (by simp;omega) fun c1 cn r w g1 cq hw=>?_;rw[nH] at g1;simp only[go_sem,hk,MR,eY];refine mZ (bytes:=48) g1 (xs:=aZ (L.take k)) (rd:=[]) rfl (.inr (yF _)) (by simp;omega) fun c2 ba r2 w2 g2 aT vC=>?_;simp only[go_sem];refine⟨?_,xR g2⟩;rcases hw with ⟨rfl,rfl⟩|⟨rfl,rfl⟩|⟨rfl,rfl⟩<;>rcases vC with ⟨rfl,rfl⟩|⟨rfl,rfl⟩|⟨rfl,rfl⟩<;>kernel_rfl

theorem Ox{S:Sys}{f:Nat}{fn:aS}{args:List V}{P:RV->Prop}(hp:S.prim f args=none)(hf:S.fns f=some fn)(hl:args.length<=fn.ntmps)
  (h:W S .all fn.body (qS .all fn.results fun v aj=>∃r,P r/\gh aj v=some r) (sk args) vG):∃r,P r/\aF S f args r:=by
 obtain⟨n,v,ao,h1,r,h3,h2⟩:=Sh h;refine⟨r,h3,n+1,?_⟩;rw[fZ];simp only[hp,hf,hl,if_true];unfold Fy;simp only[h1,h2]
theorem Yb{l:List Let}(aI:l≠[])(hl:l.length<=1000000):aF S 58 [.one (.p (cQ l))] (.one (aO gH 6 (aZ l))):=by
 have hs:((aZ l).all fun e=>e.length==6)=true:=yF l;have hr:(0+(aZ l).length)*48<=room:=by unfold room;rw[cH];omega
 show aF S _ [.one (.p (.sl (aZ l)))] _;obtain⟨e0,es,hq⟩:∃e0 es,aZ l=e0::es:=by cases l with
  |nil=>exact absurd rfl aI
  |cons a t=>exact⟨_,_,rfl⟩
 rw[hq] at hs hr ⊢;refine aV c58 ?_;have aI:e0::es≠[]:=af;have r5:aO gH 6 (e0::es)=.own gH 6 (e0::es):=ay aI;rw[r5];unfold room at hr;simp only[jm,cS] at hr;simp only[oG] at hs;simp only[go_sem,i58,eF,eo];simp only[hs,hr,not_true_eq_false,if_true,if_false];simp only[go_sem];exact Fp rL rfl
abbrev mkE(M:List (Int×Int)):List (PV×List PV):=M.map fun e=>(PV.int .i64 e.1,[PV.int .i64 e.2])
def fiM:List (Int×Int)->Int->Nat->Option (Nat×Int)
 |[],_,_=>none
 |(a,v)::r,x,i=>if x==a then some (i,v) else fiM r x (i+1)
theorem ZL(M:List (Int×Int))(x:Int):∀i,oZ (.int .i64 x) (mkE M) i=some ((fiM M x i).map fun p=>(p.1,[PV.int .i64 p.2])):=by
 induction M with
 |nil=>intro i;rfl
 |cons e M ih=>
  intro i;obtain⟨a,v⟩:=e;show oZ (.int .i64 x) ((PV.int .i64 a,[PV.int .i64 v])::mkE M) i=_;unfold oZ;have hs:sameKey (.int .i64 x) (.int .i64 a)=some (x==a):=by simp[sameKey]
  rw[hs];unfold fiM;cases (x==a) with
  |true=>rfl
  |false=>exact ih (i+1)
theorem acN(M:List (Int×Int))(x v:Int):mkE M++[(PV.int .i64 x,[PV.int .i64 v])]=mkE (M++[(x,v)]):=af
theorem acs(l:List Let)(k:Nat)(p:Let):(aZ l).set k p.ps=aZ (l.set k p):=by simp[yM]
theorem acp{e:List PV}(h:e.length=6):∃x0 x1 x2 x3 x4 x5,e=[x0,x1,x2,x3,x4,x5]:=by
 match e,h with
 |[x0,x1,x2,x3,x4,x5],_=>exact⟨_,_,_,_,_,_,rfl⟩
theorem aqA{al:Al}{aj:aw}{id:Nat}{es:List (List PV)}{c:C}(o:es=[]\/al.ok id=true)(hl:es.length<=1000000)(kA:∀e∈es,e.length=6/\ ∀v∈e,v.norm=v)(h:grown id ty 6 es (.one c) aj):
  ∃v ao,iw S 109 [.one c] al aj v ao/\Hy id ty 6 es c aj v ao:=by
 refine mV c109 (iv rfl) ?_;rcases h with ⟨rfl,h2⟩|⟨aI,g,h2,hC⟩
 .cases h2;have w0:IntKind.i64.wrap (((0:Nat):Int)-1)= -1:=ae;have hz:¬((0:Int)< -1):=ae;simp only[go_sem,i109,w0];refine cJ (fun k ak ao=>k=0/\ak 2=vi 0/\ak 3=vi (-1)/\ao=aj) 0 0 (bJ _) ?_ ?_
  .simp only[go_sem]
  rintro k ak ao _ ⟨rfl,h2,h3,rfl⟩
  simp only[go_sem,i109_l1,h2,h3,hz];exact⟨rfl,.inl ⟨rfl,rfl⟩,fun _ _=>rfl⟩
 cases h2;have o:=o.resolve_left aI;have w0:=ur (a:=es.length) aa;simp only[go_sem,i109,w0];refine cJ (fun k ak ao=>ak 0=.one (.hsl id g 6 0 es.length)/\ak 2=vi k/\ak 3=vi ((es.length:Int)-1-(k:Int))/\ ∃fs,ao id=(g,some (.arr ty 6 fs))/\xn es fs k/\Kept (· =id) aj ao) 0 es.length (bj _) ?_ ?_
 .simp only[go_sem];refine⟨rfl,af,es,hC,xn.start es,Kept.refl _ _⟩
 rintro k ak ao hk ⟨h0,h2,h3,fs,hF,hI,dq⟩
 by_cases aq:k<es.length-1-k
 .have e1:((es.length:Int)-1-(k:Int))=((es.length-1-k:Nat):Int):=aa;rw[e1] at h3;have aL:((k:Int)<((es.length-1-k:Nat):Int)):=aa;have w1:=bN (n:=k) aa;have w2:IntKind.i64.wrap (((es.length-1-k:Nat):Int)-1)=((es.length:Int)-1-((k+1:Nat):Int)):=by
   rw[ur aa];omega
  obtain⟨a,ha⟩:=aM (show k<es.length by omega);obtain⟨b,hb⟩:=aM (show es.length-1-k<es.length by omega);obtain⟨fa,fb,wD⟩:=hI.step aq ha hb;obtain⟨la,na⟩:=kA a (aW ha);obtain⟨lb,nb⟩:=kA b (aW hb);obtain⟨x0,x1,x2,x3,x4,x5,rfl⟩:=acp la;obtain⟨y0,y1,y2,y3,y4,y5,rfl⟩:=acp lb;have MC:=na x0 af;have Ui:=na x1 af;have alQ:=na x2 af;have alS:=na x3 af;have alT:=na x4 af;have alU:=na x5 af;have MD:=nb y0 af;have Uj:=nb y1 af;have alV:=nb y2 af;have alW:=nb y3 af;have alX:=nb y4 af;have alY:=nb y5 af;have uI:=hI.len;have GH:¬(k=es.length-1-k):=aa;have aaR:¬(es.length-1-k=k):=aa;have l1:k<fs.length:=aa;have l2:es.length-1-k<fs.length:=aa;have l3:k<es.length:=aa;have l4:es.length-1-k<es.length:=aa
  simp only[go_sem,i109_l1,h0,h2,h3,hF,aL,fa,fb,w1,w2,o,l1,l3,l4,GH,MC,Ui,alQ,alS,alT,alU,MD,Uj,alV,alW,alX,alY,mC];refine⟨aK,_,rfl,wD,?_⟩;exact(dq.dj rfl _).dj rfl _
 have aL:¬((k:Int)<(es.length:Int)-1-(k:Int)):=aa;simp only[go_sem,i109_l1,h2,h3,aL];refine⟨rfl,?_,dq⟩;rw[hI.done aq] at hF;exact .inr ⟨by simpa using aI,g,by rw[lJ],hF⟩
theorem anD(l:List Let):∀e∈aZ l,e.length=6/\ ∀v∈e,v.norm=v:=fun e he=>by obtain⟨x,_,rfl⟩:=dI.1 he;refine⟨rfl,fun v hv=>?_⟩;simp only[Let.ps,cI,iM,or_false] at hv;rcases hv with rfl|rfl|rfl|rfl|rfl|rfl<;>rfl
theorem anC(l:List Let):(aZ l).reverse=aZ l.reverse:=af
theorem U2{s:Nat}(h:s/64000000=36):S.lone s=true:=by show Fh acy (s/64000000)=true;rw[h];kernel_rfl
theorem Hd{aj:aw}{s:Nat}{L:List Let}(aI:L≠[])(hs:S.lone s=true):land aj [] s ((RV.one (aO gH 6 (aZ L))).eD (S.lone s))=some (.one (.p (cQ L)),[]):=by rw[hs,xQ (Qk aI)];unfold land;rw[aD (.inl rfl)];rfl

abbrev vd:Prop:=aF S 58 [.one (.p (.sl []))] (.one (.p (.sl [])))
theorem revE{al:Al}{aj:aw}:∃v ao,iw S 109 [.one (.p (.sl []))] al aj v ao/\(v=.tup []/\ao=aj):=by
 refine mV c109 (iv rfl) ?_;have w0:IntKind.i64.wrap (((0:Nat):Int)-1)= -1:=ae;have hz:¬((0:Int)< -1):=ae;simp only[go_sem,i109,w0];refine cJ (fun k ak ao=>k=0/\ak 2=vi 0/\ak 3=vi (-1)/\ao=aj) 0 0 (bJ _) ?_ ?_
 .simp only[go_sem]
 rintro k ak ao _ ⟨rfl,h2,h3,rfl⟩
 simp only[go_sem,i109_l1,h2,h3,hz]
theorem aci{aj:aw}{s:Nat}{x:PV}{l:Bool}:land aj [] s ((RV.one (.p x)).eD l)=some (.one (.p x),[]):=by cases l<;>rfl
theorem ahC(cP:vd)(F:Int):aF S 70 [.one (.p (zc F))] (.one (.p (.sl []))):=by
 refine aV c70 ?_;simp only[go_sem,i70,s58,cU cP aci,s109];refine tV (P:=fun v ao=>v=.tup []/\ao=vG) zK revE ?_;rintro v ao ⟨rfl,rfl⟩
 simp only[go_sem];refine cJ (fun k ak aj=>k=0/\ak 3=.one (.p (.sl []))/\ak 15=vi 0/\ak 16=vi 0) 0 0 (bJ _) ?_ ?_
 .simp only[go_sem];rfl
 rintro k ak aj _ ⟨rfl,h3,Eo,xS⟩
 have hz:¬((0:Int)<0):=ae;simp only[go_sem,i70_l1,i70_r2,h3,Eo,xS,hz]
theorem aoy(cP:vd)(F:Int):aF S 36 [.one (.p (zc F))] (.agg [.p (.int .i64 F),.p .nils]):=by
 have pb:=ahC cP F;refine aV c36 ?_;simp only[go_sem,i36,s70,mH pb aci];refine⟨aK,?_⟩;refine cJ (fun k ak aj=>ak 0=.one (.p (zc F))/\ak 2=.one (.aX 2304000000 1 0)/\ak 17=.one (.hsl 2304128448 1 1 0 2)/\ak 18=vi 2/\ak 19=vi k/\ak 3=.one (.p .nils)/\
  aj 2304000000=(1,some (.var [.p (.int .i64 0),.p .nils]))/\aj 2304128448=(1,some (.arr 22 1 [[.sl []],[.sl []]]))) 0 2 (bj _) ?_ ?_
 .simp only[go_sem];first|done|rfl|exact⟨rfl,rfl⟩
 rintro k ak aj hk ⟨h0,h2,kZ,kz,jS,h3,b0,bB⟩
 by_cases aq:k<2
 .have T5:k=0\/k=1:=aa;have l02:((0:Nat):Int)<2:=ae;have l12:((1:Nat):Int)<2:=ae;have hz:¬((0:Int)<0):=ae;rcases T5 with rfl|rfl
  .simp only[go_sem,i36_l3,kZ,kz,jS,bB,l02];refine cJ (fun i aA ao=>i=0/\ao=aj/\aA 0=ak 0/\aA 2=ak 2/\aA 17=ak 17/\aA 18=ak 18/\aA 19=ak 19/\aA 3=ak 3/\aA 24=vi 0/\aA 25=vi 0) 0 0 (bJ _) ?_ ?_
   .simp only[go_sem];first|done|rfl|exact⟨rfl,rfl⟩
   rintro i aA ao _ ⟨rfl,rfl,e0,e2,Lt,Lu,e19,e3,e24,e25⟩
   simp only[go_sem,i36_l1,i36_r2,e0,e2,Lt,Lu,e19,e3,e24,e25,h0,h2,h3,kZ,kz,jS,b0,bB,hz];first|done|rfl|exact⟨rfl,rfl⟩
  simp only[go_sem,i36_l3,kZ,kz,jS,bB,l12];refine cJ (fun i aA ao=>i=0/\ao=aj/\aA 0=ak 0/\aA 2=ak 2/\aA 17=ak 17/\aA 18=ak 18/\aA 19=ak 19/\aA 3=ak 3/\aA 24=vi 0/\aA 25=vi 0) 0 0 (bJ _) ?_ ?_
  .simp only[go_sem];first|done|rfl|exact⟨rfl,rfl⟩
  rintro i aA ao _ ⟨rfl,rfl,e0,e2,Lt,Lu,e19,e3,e24,e25⟩
  simp only[go_sem,i36_l1,i36_r2,e0,e2,Lt,Lu,e19,e3,e24,e25,h0,h2,h3,kZ,kz,jS,b0,bB,hz];first|done|rfl|exact⟨rfl,rfl⟩
 have:k=2:=aa;subst this;have l22:¬(((2:Nat):Int)<2):=ae;simp only[go_sem,i36_l3,i36_r4,h0,h2,h3,kz,jS,b0,l22];first|done|rfl|exact⟨rfl,rfl⟩
theorem ait:vd:=⟨1,ah⟩
theorem am5{aj:aw}{s:Nat}{x c:PV}{l:Bool}:land aj [] s ((RV.agg [.p x,.p c]).eD l)=some (.agg [.p x,.p c],[]):=by cases l<;>rfl
theorem anu(x y:Let):leq x y=true↔x=y:=by
 constructor
 .intro h;unfold leq at h;simp only[cN,dL] at h;obtain⟨h1,h2,h3,h4,h5,h6⟩:=h;cases x;cases y;simp only at h1 h2 h3 h4 h5 h6;subst h1 h2 h3 h4 h5 h6;rfl
 rintro rfl;exact zV x
theorem ach{aj:aw}{s:Nat}{x c e:PV}{l:Bool}:land aj [] s ((RV.tup [.agg [.p x,.p c],.one (.p e)]).eD l)=some (.tup [.agg [.p x,.p c],.one (.p e)],[]):=by cases l<;>rfl

structure aU where
 k:Int
 a:Int
 b:Int
 c:Int
 l:Bool
 o:Bool
 s:Int
def aU.ps(m:aU):List PV:=[.int .i64 m.k,.int .i64 m.a,.int .i64 m.b,.int .i64 m.c,.bool m.l,.bool m.o,.int .i64 m.s]
abbrev sB(ms:List aU):PV:=.sl (ms.map aU.ps)
theorem JN{ms:List aU}{k:Nat}{m:aU}(h:ms[k]?=some m):(ms.map aU.ps)[k]?=some m.ps:=by rw[fT,h];rfl
theorem am9{aj:aw}{rd:List Nat}{s:Nat}{e:Int}{l:Bool}:land aj rd s ((sH e).eD l)=some (.tup [.agg [.p (.int .i64 0),.p .nils],.one (.p (.int .i64 e))],[]):=by cases l<;>(unfold land;rw[aD (.inr rfl)];rfl)
abbrev Hi(m:aU):V:=fE m.k m.a m.b m.c m.l m.o m.s
section
variable {Q:dy} {ak:Env} {aj:aw} {os:List bI} {d:Option Nat}
end
section
variable {Q:dy} {ak:Env} {aj:aw} {os:List bI} {d:Option Nat}
end
end
end Go.Abs
