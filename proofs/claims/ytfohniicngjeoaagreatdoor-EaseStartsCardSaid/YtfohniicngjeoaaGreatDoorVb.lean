/- A part. -/
import Derived.Test.YtfohniicngjeoaaGreatDoorWw
set_option linter.all false
set_option maxRecDepth 100000
set_option maxHeartbeats 16000000
namespace Go.Abs
section
variable{ls:List Let}{x:Int}{ty:Nat}{ws:List Int}
section
attribute [local go_sem ↓] fm1 fm2
def bJ(F:Nat)(ls:List Let)(k a b c:Int)(l o:Bool)(sg:Int):Bool:=
 if k=2 then !l&&(!o&&(sg==0&&((jR ls.length a||(ls.length==0&&a==0))&&(decide (0<=b)&&(decide (b<=(F:Int))&&(decide (0<=c)&&decide (c<=(cg ls b.toNat:Int))))))))
 else if k=3\/k=6 then !l&&(!o&&(sg==0&&(jR ls.length a&&(c==0&&(jR ls.length b&&decide (a<b))))))
 else if k=5 then !l&&((sg==1||sg== -1)&&(jR ls.length a&&(b==0&&c==0)))
 else if k=7 then sg==0&&(jR ls.length a&&(c==0&&(jR ls.length b&& !(a==b))))
 else if k=8 then !l&&(!o&&(sg==0&&(jR ls.length a&&(jR ls.length b&&(jR ls.length c&&(decide (a<b)&&decide (b<c)))))))
 else if k=1\/k=4\/k=9\/k=10 then !l&&(!o&&(sg==0&&(jR ls.length a&&(b==0&&c==0))))
 else false
theorem jS{i:Int}{x:Bool}(h:jR ls.length i=x):aI S 105 [vi i,.one (.p (.box [.int .i64 ls.length]))] (rb x):=h▸is_p i ls.length
theorem jf(h:¬x=0):(x==0)=false/\(x !=0)=true:=by simp[h]
theorem vR{y:Int}(h:¬x=y):(x==y)=false/\(x !=y)=true:=by simp[h]
section
variable {F:Nat} {ls:List Let} {a b c:Int} {l o:Bool} {sg:Int}
theorem agF:aI S 93 [.one (.p (eI F ls)),lZ 1 a b c l o sg] (rb (bJ F ls 1 a b c l o sg)):=by
 obtain⟨v,hv⟩:∃v,bJ F ls 1 a b c l o sg=v:=⟨_,rfl⟩;rw[hv];refine aZ c93 ?_;simp only[go_sem,i93,fW];refine eK [0,3,4,5,6,7,8,9,10,41] fun e1 fy=>?_;simp only[go_sem] at fy;cases l with
 |true=>
  obtain rfl:v=false:=by rw[<- hv];simp[bJ]
  simp only[go_sem,fy]
 |false=>
  simp only[go_sem,fy];refine eK [0,3,4,5,6,7,8,9,10,53] fun e2 eW=>?_;simp only[go_sem,fy] at eW;cases o with
  |true=>
   obtain rfl:v=false:=by rw[<- hv];simp[bJ]
   simp only[go_sem,eW]
  |false=>
   simp only[go_sem,eW];refine eK [0,3,4,5,6,7,8,9,10,60] fun e3 eD=>?_;simp only[go_sem,eW] at eD;by_cases hs:sg=0
   rotate_left
   .have ji:=(jf hs).1;have eG:=(jf hs).2;obtain rfl:v=false:=by rw[<- hv];simp[bJ,hs]
    simp only[go_sem,eD,eG]
   subst hs;cases hA:jR ls.length a with
   |false=>
    have pA:=jS hA;obtain rfl:v=false:=by rw[<- hv];simp[bJ,hA]
    simp only[go_sem,s105,eD,cY pA]
   |true=>
    have pA:=jS hA;simp only[go_sem,s105,eD,cY pA];refine eK [3,4,6,7,9,133] fun e4 fT=>?_;simp only[go_sem,eD] at fT;by_cases hb:b=0
    rotate_left
    .have cD:=(jf hb).2;obtain rfl:v=false:=by rw[<- hv];simp[bJ,hA,hb]
     simp only[go_sem,fT,cD]
    subst hb;simp only[go_sem,fT];refine eK [3,4,6,7,9,142] fun e5 jE=>?_;simp only[go_sem,fT] at jE;by_cases hc:c=0
    rotate_left
    .have fG:=(jf hc).2;obtain rfl:v=false:=by rw[<- hv];simp[bJ,hA,hc]
     simp only[go_sem,jE,fG]
    subst hc;obtain rfl:v=true:=by rw[<- hv];simp[bJ,hA]
    simp only[go_sem,jE]
theorem agG:aI S 93 [.one (.p (eI F ls)),lZ 2 a b c l o sg] (rb (bJ F ls 2 a b c l o sg)):=by
 obtain⟨v,hv⟩:∃v,bJ F ls 2 a b c l o sg=v:=⟨_,rfl⟩;rw[hv];refine aZ c93 ?_;simp only[go_sem,i93,fW];refine eK [0,3,4,5,6,7,8,9,10,41] fun e1 fy=>?_;simp only[go_sem] at fy;cases l with
 |true=>
  obtain rfl:v=false:=by rw[<- hv];simp[bJ]
  simp only[go_sem,fy]
 |false=>
  simp only[go_sem,fy];refine eK [0,3,4,5,6,7,8,9,10,53] fun e2 eW=>?_;simp only[go_sem,fy] at eW;cases o with
  |true=>
   obtain rfl:v=false:=by rw[<- hv];simp[bJ]
   simp only[go_sem,eW]
  |false=>
   simp only[go_sem,eW];refine eK [0,3,4,5,6,7,8,9,10,60] fun e3 eD=>?_;simp only[go_sem,eW] at eD;by_cases hs:sg=0
   rotate_left
   .have ji:=(jf hs).1;have eG:=(jf hs).2;obtain rfl:v=false:=by rw[<- hv];simp[bJ,hs]
    simp only[go_sem,eD,eG]
   subst hs;cases hA:jR ls.length a with
   |true=>
    have pA:=jS hA;simp only[go_sem,s105,eD,nk pA];refine uT [0,3,4,6,7,9,92] fun e4 fT=>?_;simp only[go_sem,eD] at fT;by_cases sB:0<=b
    rotate_left
    .obtain rfl:v=false:=by rw[<- hv];simp[bJ,hA,sB]
     simp only[go_sem,fT,sB];exact aG
    simp only[go_sem,fT,sB];refine uT [0,3,4,6,7,9,101] fun e5 jE=>?_;simp only[go_sem,fT] at jE;by_cases uv:b<=(F:Int)
    rotate_left
    .obtain rfl:v=false:=by rw[<- hv];simp[bJ,hA,sB,uv]
     simp only[go_sem,jE,uv];exact aG
    obtain⟨B,rfl⟩:=sZ sB;have hBF:B<=F:=aa;have vY:=j9 (NS (ls:=ls) hBF);have h5:B<F+1:=aa;have h6:(counts ls F).length=F+1:=by simp[counts]
    simp only[go_sem,jE,uv];refine uT [0,3,4,6,7,9,106] fun e6 Ec=>?_;simp only[go_sem,jE] at Ec;by_cases vV:0<=c
    rotate_left
    .obtain rfl:v=false:=by rw[<- hv];simp[bJ,hA,sB,uv,vV]
     simp only[go_sem,Ec,vV];exact aG
    by_cases Cc:c<=(cg ls B:Int)
    rotate_left
    .obtain rfl:v=false:=by rw[<- hv];simp[bJ,hA,sB,uv,vV,Cc]
     simp only[go_sem,vY,Ec,vV,Cc];exact aG
    obtain rfl:v=true:=by rw[<- hv];simp[bJ,hA,sB,uv,vV,Cc]
    simp only[go_sem,vY,Ec,vV,Cc];exact aG
   |false=>
    have pA:=jS hA;by_cases hn:ls.length=0
    rotate_left
    .have ve:((ls.length:Int)==0)=false:=beq_false_of_ne aa;have Ma:ls≠[]:=fun h=>hn (by rw[h];rfl);obtain rfl:v=false:=by rw[<- hv];simp[bJ,hA,hn]
     simp only[go_sem,s105,eD,nk pA,ve];exact aG
    have ve:((ls.length:Int)==0)=true:=by rw[hn];rfl
    have Ma:=E0.mp hn;by_cases ha:a=0
    rotate_left
    .have Ce:=(jf ha).1;obtain rfl:v=false:=by rw[<- hv];simp[bJ,Ma,ha,show jR 0 a=false by rw[<- hn];exact hA]
     simp only[go_sem,s105,eD,nk pA,ve,Ce];exact aG
    subst ha;simp only[go_sem,s105,eD,nk pA,ve];refine uT [0,3,4,6,7,9,92] fun e7 hh7=>?_;simp only[go_sem,eD] at hh7;by_cases sB:0<=b
    rotate_left
    .obtain rfl:v=false:=by rw[<- hv];simp[bJ,hn,sB]
     simp only[go_sem,hh7,sB];exact aG
    simp only[go_sem,hh7,sB];refine uT [0,3,4,6,7,9,101] fun e8 hh8=>?_;simp only[go_sem,hh7] at hh8;by_cases uv:b<=(F:Int)
    rotate_left
    .obtain rfl:v=false:=by rw[<- hv];simp[bJ,hn,sB,uv]
     simp only[go_sem,hh8,uv];exact aG
    obtain⟨B,rfl⟩:=sZ sB;have hBF:B<=F:=aa;have vY:=j9 (NS (ls:=ls) hBF);have h5:B<F+1:=aa;have h6:(counts ls F).length=F+1:=by simp[counts]
    simp only[go_sem,hh8,uv];refine uT [0,3,4,6,7,9,106] fun e9 hh9=>?_;simp only[go_sem,hh8] at hh9;by_cases vV:0<=c
    rotate_left
    .obtain rfl:v=false:=by rw[<- hv];simp[bJ,hn,sB,uv,vV]
     simp only[go_sem,hh9,vV];exact aG
    by_cases Cc:c<=(cg ls B:Int)
    rotate_left
    .obtain rfl:v=false:=by rw[<- hv];simp[bJ,hn,sB,uv,vV,Cc]
     simp only[go_sem,vY,hh9,vV,Cc];exact aG
    obtain rfl:v=true:=by rw[<- hv];simp[bJ,hn,sB,uv,vV,Cc]
    simp only[go_sem,vY,hh9,vV,Cc];exact aG
theorem agH:aI S 93 [.one (.p (eI F ls)),lZ 3 a b c l o sg] (rb (bJ F ls 3 a b c l o sg)):=by
 obtain⟨v,hv⟩:∃v,bJ F ls 3 a b c l o sg=v:=⟨_,rfl⟩;rw[hv];refine aZ c93 ?_;simp only[go_sem,i93,fW];refine eK [0,3,4,5,6,7,8,9,10,41] fun e1 fy=>?_;simp only[go_sem] at fy;cases l with
 |true=>
  obtain rfl:v=false:=by rw[<- hv];simp[bJ]
  simp only[go_sem,fy]
 |false=>
  simp only[go_sem,fy];refine eK [0,3,4,5,6,7,8,9,10,53] fun e2 eW=>?_;simp only[go_sem,fy] at eW;cases o with
  |true=>
   obtain rfl:v=false:=by rw[<- hv];simp[bJ]
   simp only[go_sem,eW]
  |false=>
   simp only[go_sem,eW];refine eK [0,3,4,5,6,7,8,9,10,60] fun e3 eD=>?_;simp only[go_sem,eW] at eD;by_cases hs:sg=0
   rotate_left
   .have ji:=(jf hs).1;have eG:=(jf hs).2;obtain rfl:v=false:=by rw[<- hv];simp[bJ,hs]
    simp only[go_sem,eD,eG]
   subst hs;cases hA:jR ls.length a with
   |false=>
    have pA:=jS hA;obtain rfl:v=false:=by rw[<- hv];simp[bJ,hA]
    simp only[go_sem,s105,eD,cY pA]
   |true=>
    have pA:=jS hA;simp only[go_sem,s105,eD,cY pA];refine eK [3,4,6,7,9,142] fun e4 fT=>?_;simp only[go_sem,eD] at fT;by_cases hc:c=0
    rotate_left
    .have fG:=(jf hc).2;obtain rfl:v=false:=by rw[<- hv];simp[bJ,hA,hc]
     simp only[go_sem,fT,fG]
    subst hc;cases hB:jR ls.length b with
    |false=>
     have pB:=jS hB;obtain rfl:v=false:=by rw[<- hv];simp[bJ,hA,hB]
     simp only[go_sem,s105,fT,cY pB]
    |true=>
     have pB:=jS hB;simp only[go_sem,s105,fT,cY pB];refine eK [3,4,7,172,178] fun e5 jE=>?_;simp only[go_sem,fT] at jE;by_cases hl:a<b
     rotate_left
     .obtain rfl:v=false:=by rw[<- hv];simp[bJ,hA,hB,hl]
      simp only[go_sem,jE,hl]
     obtain rfl:v=true:=by rw[<- hv];simp[bJ,hA,hB,hl]
     simp only[go_sem,jE,hl]
theorem agI:aI S 93 [.one (.p (eI F ls)),lZ 4 a b c l o sg] (rb (bJ F ls 4 a b c l o sg)):=by
 obtain⟨v,hv⟩:∃v,bJ F ls 4 a b c l o sg=v:=⟨_,rfl⟩;rw[hv];refine aZ c93 ?_;simp only[go_sem,i93,fW];refine eK [0,3,4,5,6,7,8,9,10,41] fun e1 fy=>?_;simp only[go_sem] at fy;cases l with
 |true=>
  obtain rfl:v=false:=by rw[<- hv];simp[bJ]
  simp only[go_sem,fy]
 |false=>
  simp only[go_sem,fy];refine eK [0,3,4,5,6,7,8,9,10,53] fun e2 eW=>?_;simp only[go_sem,fy] at eW;cases o with
  |true=>
   obtain rfl:v=false:=by rw[<- hv];simp[bJ]
   simp only[go_sem,eW]
  |false=>
   simp only[go_sem,eW];refine eK [0,3,4,5,6,7,8,9,10,60] fun e3 eD=>?_;simp only[go_sem,eW] at eD;by_cases hs:sg=0
   rotate_left
   .have ji:=(jf hs).1;have eG:=(jf hs).2;obtain rfl:v=false:=by rw[<- hv];simp[bJ,hs]
    simp only[go_sem,eD,eG]
   subst hs;cases hA:jR ls.length a with
   |false=>
    have pA:=jS hA;obtain rfl:v=false:=by rw[<- hv];simp[bJ,hA]
    simp only[go_sem,s105,eD,cY pA]
   |true=>
    have pA:=jS hA;simp only[go_sem,s105,eD,cY pA];refine eK [3,4,6,7,9,133] fun e4 fT=>?_;simp only[go_sem,eD] at fT;by_cases hb:b=0
    rotate_left
    .have cD:=(jf hb).2;obtain rfl:v=false:=by rw[<- hv];simp[bJ,hA,hb]
     simp only[go_sem,fT,cD]
    subst hb;simp only[go_sem,fT];refine eK [3,4,6,7,9,142] fun e5 jE=>?_;simp only[go_sem,fT] at jE;by_cases hc:c=0
    rotate_left
    .have fG:=(jf hc).2;obtain rfl:v=false:=by rw[<- hv];simp[bJ,hA,hc]
     simp only[go_sem,jE,fG]
    subst hc;obtain rfl:v=true:=by rw[<- hv];simp[bJ,hA]
    simp only[go_sem,jE]
theorem agJ:aI S 93 [.one (.p (eI F ls)),lZ 5 a b c l o sg] (rb (bJ F ls 5 a b c l o sg)):=by
 obtain⟨v,hv⟩:∃v,bJ F ls 5 a b c l o sg=v:=⟨_,rfl⟩;rw[hv];refine aZ c93 ?_;simp only[go_sem,i93,fW];refine eK [0,3,4,5,6,7,8,9,10,41] fun e1 fy=>?_;simp only[go_sem] at fy;cases l with
 |true=>
  obtain rfl:v=false:=by rw[<- hv];simp[bJ]
  simp only[go_sem,fy]
 |false=>
  simp only[go_sem,fy];refine eK [0,3,4,5,6,7,8,9,10,60] fun e2 eW=>?_;simp only[go_sem,fy] at eW;by_cases q0:sg=0
  .subst q0;obtain rfl:v=false:=by rw[<- hv];simp[bJ]
   simp only[go_sem,eW]
  by_cases q1:sg=1
  rotate_left;by_cases q2:sg= -1
  rotate_left
  .have Lm:=(jf q0).2;have fK:=(vR q1).2;have vU:=(vR q2).2;obtain rfl:v=false:=by rw[<- hv];simp[bJ,q1,q2]
   simp only[go_sem,eW,Lm,fK,vU]
  .subst q1;cases hA:jR ls.length a with
   |false=>
    have pA:=jS hA;obtain rfl:v=false:=by rw[<- hv];simp[bJ,hA]
    simp only[go_sem,s105,eW,cY pA]
   |true=>
    have pA:=jS hA;simp only[go_sem,s105,eW,cY pA];refine eK [3,4,6,7,9,133] fun e3 eD=>?_;simp only[go_sem,eW] at eD;by_cases hb:b=0
    rotate_left
    .have cD:=(jf hb).2;obtain rfl:v=false:=by rw[<- hv];simp[bJ,hA,hb]
     simp only[go_sem,eD,cD]
    subst hb;simp only[go_sem,eD];refine eK [3,4,6,7,9,142] fun e4 fT=>?_;simp only[go_sem,eD] at fT;by_cases hc:c=0
    rotate_left
    .have fG:=(jf hc).2;obtain rfl:v=false:=by rw[<- hv];simp[bJ,hA,hc]
     simp only[go_sem,fT,fG]
    subst hc;obtain rfl:v=true:=by rw[<- hv];simp[bJ,hA]
    simp only[go_sem,fT]
  subst q2;cases hA:jR ls.length a with
  |false=>
   have pA:=jS hA;obtain rfl:v=false:=by rw[<- hv];simp[bJ,hA]
   simp only[go_sem,s105,eW,cY pA]
  |true=>
   have pA:=jS hA;simp only[go_sem,s105,eW,cY pA];refine eK [3,4,6,7,9,133] fun e5 jE=>?_;simp only[go_sem,eW] at jE;by_cases hb:b=0
   rotate_left
   .have cD:=(jf hb).2;obtain rfl:v=false:=by rw[<- hv];simp[bJ,hA,hb]
    simp only[go_sem,jE,cD]
   subst hb;simp only[go_sem,jE];refine eK [3,4,6,7,9,142] fun e6 Ec=>?_;simp only[go_sem,jE] at Ec;by_cases hc:c=0
   rotate_left
   .have fG:=(jf hc).2;obtain rfl:v=false:=by rw[<- hv];simp[bJ,hA,hc]
    simp only[go_sem,Ec,fG]
   subst hc;obtain rfl:v=true:=by rw[<- hv];simp[bJ,hA]
   simp only[go_sem,Ec]
end
end
section
attribute [local go_sem ↓] fm1 fm2
section
variable {F:Nat} {ls:List Let} {a b c:Int} {l o:Bool} {sg:Int}
theorem agK:aI S 93 [.one (.p (eI F ls)),lZ 6 a b c l o sg] (rb (bJ F ls 6 a b c l o sg)):=by
 obtain⟨v,hv⟩:∃v,bJ F ls 6 a b c l o sg=v:=⟨_,rfl⟩;rw[hv];refine aZ c93 ?_;simp only[go_sem,i93,fW];refine eK [0,3,4,5,6,7,8,9,10,41] fun e1 fy=>?_;simp only[go_sem] at fy;cases l with
 |true=>
  obtain rfl:v=false:=by rw[<- hv];simp[bJ]
  simp only[go_sem,fy]
 |false=>
  simp only[go_sem,fy];refine eK [0,3,4,5,6,7,8,9,10,53] fun e2 eW=>?_;simp only[go_sem,fy] at eW;cases o with
  |true=>
   obtain rfl:v=false:=by rw[<- hv];simp[bJ]
   simp only[go_sem,eW]
  |false=>
   simp only[go_sem,eW];refine eK [0,3,4,5,6,7,8,9,10,60] fun e3 eD=>?_;simp only[go_sem,eW] at eD;by_cases hs:sg=0
   rotate_left
   .have ji:=(jf hs).1;have eG:=(jf hs).2;obtain rfl:v=false:=by rw[<- hv];simp[bJ,hs]
    simp only[go_sem,eD,eG]
   subst hs;cases hA:jR ls.length a with
   |false=>
    have pA:=jS hA;obtain rfl:v=false:=by rw[<- hv];simp[bJ,hA]
    simp only[go_sem,s105,eD,cY pA]
   |true=>
    have pA:=jS hA;simp only[go_sem,s105,eD,cY pA];refine eK [3,4,6,7,9,142] fun e4 fT=>?_;simp only[go_sem,eD] at fT;by_cases hc:c=0
    rotate_left
    .have fG:=(jf hc).2;obtain rfl:v=false:=by rw[<- hv];simp[bJ,hA,hc]
     simp only[go_sem,fT,fG]
    subst hc;cases hB:jR ls.length b with
    |false=>
     have pB:=jS hB;obtain rfl:v=false:=by rw[<- hv];simp[bJ,hA,hB]
     simp only[go_sem,s105,fT,cY pB]
    |true=>
     have pB:=jS hB;simp only[go_sem,s105,fT,cY pB];refine eK [3,4,7,172,178] fun e5 jE=>?_;simp only[go_sem,fT] at jE;by_cases hl:a<b
     rotate_left
     .obtain rfl:v=false:=by rw[<- hv];simp[bJ,hA,hB,hl]
      simp only[go_sem,jE,hl]
     obtain rfl:v=true:=by rw[<- hv];simp[bJ,hA,hB,hl]
     simp only[go_sem,jE,hl]
theorem agL:aI S 93 [.one (.p (eI F ls)),lZ 7 a b c l o sg] (rb (bJ F ls 7 a b c l o sg)):=by
 obtain⟨v,hv⟩:∃v,bJ F ls 7 a b c l o sg=v:=⟨_,rfl⟩;rw[hv];refine aZ c93 ?_;simp only[go_sem,i93,fW];refine eK [0,3,4,5,6,7,8,9,10,60] fun e1 fy=>?_;simp only[go_sem] at fy;by_cases hs:sg=0
 rotate_left
 .have ji:=(jf hs).1;have eG:=(jf hs).2;obtain rfl:v=false:=by rw[<- hv];simp[bJ,hs]
  simp only[go_sem,fy,eG]
 subst hs;cases hA:jR ls.length a with
 |false=>
  have pA:=jS hA;obtain rfl:v=false:=by rw[<- hv];simp[bJ,hA]
  simp only[go_sem,s105,fy,cY pA]
 |true=>
  have pA:=jS hA;simp only[go_sem,s105,fy,cY pA];refine eK [3,4,6,7,9,142] fun e2 eW=>?_;simp only[go_sem,fy] at eW;by_cases hc:c=0
  rotate_left
  .have fG:=(jf hc).2;obtain rfl:v=false:=by rw[<- hv];simp[bJ,hA,hc]
   simp only[go_sem,eW,fG]
  subst hc;cases hB:jR ls.length b with
  |false=>
   have pB:=jS hB;obtain rfl:v=false:=by rw[<- hv];simp[bJ,hA,hB]
   simp only[go_sem,s105,eW,cY pB]
  |true=>
   have pB:=jS hB;simp only[go_sem,s105,eW,cY pB];by_cases hn:a=b
   .subst hn;obtain rfl:v=false:=by rw[<- hv];simp[bJ,hA]
    simp only[go_sem]
   have iH:=(vR hn).2;obtain rfl:v=true:=by rw[<- hv];simp[bJ,hA,hB,hn]
   simp only[go_sem,iH]
theorem agM:aI S 93 [.one (.p (eI F ls)),lZ 8 a b c l o sg] (rb (bJ F ls 8 a b c l o sg)):=by
 obtain⟨v,hv⟩:∃v,bJ F ls 8 a b c l o sg=v:=⟨_,rfl⟩;rw[hv];refine aZ c93 ?_;simp only[go_sem,i93,fW];refine eK [0,3,4,5,6,7,8,9,10,41] fun e1 fy=>?_;simp only[go_sem] at fy;cases l with
 |true=>
  obtain rfl:v=false:=by rw[<- hv];simp[bJ]
  simp only[go_sem,fy]
 |false=>
  simp only[go_sem,fy];refine eK [0,3,4,5,6,7,8,9,10,53] fun e2 eW=>?_;simp only[go_sem,fy] at eW;cases o with
  |true=>
   obtain rfl:v=false:=by rw[<- hv];simp[bJ]
   simp only[go_sem,eW]
  |false=>
   simp only[go_sem,eW];refine eK [0,3,4,5,6,7,8,9,10,60] fun e3 eD=>?_;simp only[go_sem,eW] at eD;by_cases hs:sg=0
   rotate_left
   .have ji:=(jf hs).1;have eG:=(jf hs).2;obtain rfl:v=false:=by rw[<- hv];simp[bJ,hs]
    simp only[go_sem,eD,eG]
   subst hs;cases hA:jR ls.length a with
   |false=>
    have pA:=jS hA;obtain rfl:v=false:=by rw[<- hv];simp[bJ,hA]
    simp only[go_sem,s105,eD,cY pA]
   |true=>
    have pA:=jS hA;simp only[go_sem,s105,eD,cY pA];cases hB:jR ls.length b with
    |false=>
     have pB:=jS hB;obtain rfl:v=false:=by rw[<- hv];simp[bJ,hA,hB]
     simp only[go_sem,eD,cY pB]
    |true=>
     have pB:=jS hB;cases hD:jR ls.length c with
     |false=>
      have pD:=jS hD;obtain rfl:v=false:=by rw[<- hv];simp[bJ,hA,hB,hD]
      simp only[go_sem,s105,eD,cY pB,cY pD]
     |true=>
      have pD:=jS hD;simp only[go_sem,s105,eD,cY pB,cY pD];refine eK [3,4,7,172,178] fun e4 fT=>?_;simp only[go_sem,eD] at fT;by_cases hl:a<b
      rotate_left
      .obtain rfl:v=false:=by rw[<- hv];simp[bJ,hA,hB,hD,hl]
       simp only[go_sem,fT,hl]
      by_cases hm:b<c
      rotate_left
      .obtain rfl:v=false:=by rw[<- hv];simp[bJ,hA,hB,hD,hl,hm]
       simp only[go_sem,fT,hl,hm]
      obtain rfl:v=true:=by rw[<- hv];simp[bJ,hA,hB,hD,hl,hm]
      simp only[go_sem,fT,hl,hm]
theorem agN:aI S 93 [.one (.p (eI F ls)),lZ 9 a b c l o sg] (rb (bJ F ls 9 a b c l o sg)):=by
 obtain⟨v,hv⟩:∃v,bJ F ls 9 a b c l o sg=v:=⟨_,rfl⟩;rw[hv];refine aZ c93 ?_;simp only[go_sem,i93,fW];refine eK [0,3,4,5,6,7,8,9,10,41] fun e1 fy=>?_;simp only[go_sem] at fy;cases l with
 |true=>
  obtain rfl:v=false:=by rw[<- hv];simp[bJ]
  simp only[go_sem,fy]
 |false=>
  simp only[go_sem,fy];refine eK [0,3,4,5,6,7,8,9,10,53] fun e2 eW=>?_;simp only[go_sem,fy] at eW;cases o with
  |true=>
   obtain rfl:v=false:=by rw[<- hv];simp[bJ]
   simp only[go_sem,eW]
  |false=>
   simp only[go_sem,eW];refine eK [0,3,4,5,6,7,8,9,10,60] fun e3 eD=>?_;simp only[go_sem,eW] at eD;by_cases hs:sg=0
   rotate_left
   .have ji:=(jf hs).1;have eG:=(jf hs).2;obtain rfl:v=false:=by rw[<- hv];simp[bJ,hs]
    simp only[go_sem,eD,eG]
   subst hs;cases hA:jR ls.length a with
   |false=>
    have pA:=jS hA;obtain rfl:v=false:=by rw[<- hv];simp[bJ,hA]
    simp only[go_sem,s105,eD,cY pA]
   |true=>
    have pA:=jS hA;simp only[go_sem,s105,eD,cY pA];refine eK [3,4,6,7,9,133] fun e4 fT=>?_;simp only[go_sem,eD] at fT;by_cases hb:b=0
    rotate_left
    .have cD:=(jf hb).2;obtain rfl:v=false:=by rw[<- hv];simp[bJ,hA,hb]
     simp only[go_sem,fT,cD]
    subst hb;simp only[go_sem,fT];refine eK [3,4,6,7,9,142] fun e5 jE=>?_;simp only[go_sem,fT] at jE;by_cases hc:c=0
    rotate_left
    .have fG:=(jf hc).2;obtain rfl:v=false:=by rw[<- hv];simp[bJ,hA,hc]
     simp only[go_sem,jE,fG]
    subst hc;obtain rfl:v=true:=by rw[<- hv];simp[bJ,hA]
    simp only[go_sem,jE]
theorem agE:aI S 93 [.one (.p (eI F ls)),lZ 10 a b c l o sg] (rb (bJ F ls 10 a b c l o sg)):=by
 obtain⟨v,hv⟩:∃v,bJ F ls 10 a b c l o sg=v:=⟨_,rfl⟩;rw[hv];refine aZ c93 ?_;simp only[go_sem,i93,fW];refine eK [0,3,4,5,6,7,8,9,10,41] fun e1 fy=>?_;simp only[go_sem] at fy;cases l with
 |true=>
  obtain rfl:v=false:=by rw[<- hv];simp[bJ]
  simp only[go_sem,fy]
 |false=>
  simp only[go_sem,fy];refine eK [0,3,4,5,6,7,8,9,10,53] fun e2 eW=>?_;simp only[go_sem,fy] at eW;cases o with
  |true=>
   obtain rfl:v=false:=by rw[<- hv];simp[bJ]
   simp only[go_sem,eW]
  |false=>
   simp only[go_sem,eW];refine eK [0,3,4,5,6,7,8,9,10,60] fun e3 eD=>?_;simp only[go_sem,eW] at eD;by_cases hs:sg=0
   rotate_left
   .have ji:=(jf hs).1;have eG:=(jf hs).2;obtain rfl:v=false:=by rw[<- hv];simp[bJ,hs]
    simp only[go_sem,eD,eG]
   subst hs;cases hA:jR ls.length a with
   |false=>
    have pA:=jS hA;obtain rfl:v=false:=by rw[<- hv];simp[bJ,hA]
    simp only[go_sem,s105,eD,cY pA]
   |true=>
    have pA:=jS hA;simp only[go_sem,s105,eD,cY pA];refine eK [3,4,6,7,9,133] fun e4 fT=>?_;simp only[go_sem,eD] at fT;by_cases hb:b=0
    rotate_left
    .have cD:=(jf hb).2;obtain rfl:v=false:=by rw[<- hv];simp[bJ,hA,hb]
     simp only[go_sem,fT,cD]
    subst hb;simp only[go_sem,fT];refine eK [3,4,6,7,9,142] fun e5 jE=>?_;simp only[go_sem,fT] at jE;by_cases hc:c=0
    rotate_left
    .have fG:=(jf hc).2;obtain rfl:v=false:=by rw[<- hv];simp[bJ,hA,hc]
     simp only[go_sem,jE,fG]
    subst hc;obtain rfl:v=true:=by rw[<- hv];simp[bJ,hA]
    simp only[go_sem,jE]
theorem agD(k:Int):aI S 93 [.one (.p (eI F ls)),lZ k a b c l o sg] (rb (bJ F ls k a b c l o sg)):=by
 by_cases h1:k=1
 .subst h1;exact agF
 by_cases h2:k=2
 .subst h2;exact agG
 by_cases h3:k=3
 .subst h3;exact agH
 by_cases h4:k=4
 .subst h4;exact agI
 by_cases h5:k=5
 .subst h5;exact agJ
 by_cases h6:k=6
 .subst h6;exact agK
 by_cases h7:k=7
 .subst h7;exact agL
 by_cases h8:k=8
 .subst h8;exact agM
 by_cases h9:k=9
 .subst h9;exact agN
 by_cases eQ:k=10
 .subst eQ;exact agE
 rw[show bJ F ls k a b c l o sg=false by simp[bJ,h1,h2,h3,h4,h5,h6,h7,h8,h9,eQ]];have e1:=(vR h1).1;have e2:=(vR h2).1;have e3:=(vR h3).1;have e4:=(vR h4).1;have e5:=(vR h5).1;have e6:=(vR h6).1;have e7:=(vR h7).1;have e8:=(vR h8).1;have e9:=(vR h9).1;have qC:=(vR eQ).1;refine aZ c93 ?_;simp only[go_sem,i93,fW,e1,e2,e3,e4,e5,e6,e7,e8,e9,qC]
end
end
structure Swo {α:Type} (lt:α->α->Bool):Prop where
 asym:∀a b,lt a b=true->lt b a=false
 ntrans:∀a b c,lt b a=false->lt c b=false->lt c a=false
def yt{α:Type}(lt:α->α->Bool)(ws:List α)(a b:Nat):Prop:=∀p q x y,a<=p->p<q->q<b->ws[p]?=some x->ws[q]?=some y->lt y x=false
structure yq {α:Type} (lt:α->α->Bool) (zs ws:List α) (x:α) (a i j:Nat):Prop where
 perm:ws.Perm zs
 le:a<=j/\j<=i/\i<ws.length
 at':ws[j]?=some x
 up:∀p y,j<p->p<=i->ws[p]?=some y->lt x y=true
 so:∀p q y z,a<=p->p<q->q<=i->p≠j->q≠j->ws[p]?=some y->ws[q]?=some z->lt z y=false
 out:∀p,p<a\/i<p->ws[p]?=zs[p]?
theorem yq.start{α:Type}{lt:α->α->Bool}{zs:List α}{x:α}{a i:Nat}(ha:a<=i)(hi:zs[i]?=some x)(hs:yt lt zs a i):yq lt zs zs x a i i:=
 ⟨.refl _,⟨ha,bN _,(aW.1 hi).1⟩,hi,fun p y h1 h2=>aa,fun p q y z h0 h1 h2 h3 h4=>hs p q y z h0 h1 aa,fun _ _=>rfl⟩
theorem swap_perm{α:Type}{ws:List α}{i j:Nat}{x y:α}(hi:ws[i]?=some x)(hj:ws[j]?=some y):((ws.set i y).set j x).Perm ws:=by obtain⟨h1,e1⟩:=aW.1 hi;obtain⟨h2,e2⟩:=aW.1 hj;have:=List.set_set_perm h1 h2;rwa[e1,e2] at this
theorem yq.step{α:Type}{lt:α->α->Bool}{zs ws:List α}{x y:α}{a i j:Nat}(o:Swo lt)(h:yq lt zs ws x a i (j+1))(hj:a<=j)(hy:ws[j]?=some y)(ay:lt x y=true):
  yq lt zs ((ws.set (j+1) y).set j x) x a i j:=by
 obtain⟨hp,⟨_,hle,hl⟩,jP,ze,IQ,nA⟩:=h;have hj1:j<ws.length:=(aW.1 hy).1;have get:∀p,((ws.set (j+1) y).set j x)[p]?=if p=j then some x else if p=j+1 then some y else ws[p]? :=fun p=>by
  rw[pN,pN,qX];by_cases e1:j=p
  .subst e1;simp[hj1]
  by_cases e2:j+1=p
  .subst e2;have:¬(j+1=j):=aa;rw[if_neg e1,if_pos rfl,if_pos aa,if_neg this,if_pos rfl]
  rw[if_neg e1,if_neg e2,if_neg (fun h=>e1 h.symm),if_neg (fun h=>e2 h.symm)]
 refine⟨(swap_perm jP hy).trans hp,⟨hj,aa,by simp;omega⟩,by rw[get];simp,?_,?_,?_⟩
 .intro p z h1 h2 hz;rw[get,if_neg aa] at hz;by_cases e:p=j+1
  .rw[if_pos e] at hz;cases hz;exact ay
  rw[if_neg e] at hz;exact ze p z aa h2 hz
 .intro p q u v h0 h1 h2 h3 h4 hu hv;rw[get,if_neg h3] at hu;rw[get,if_neg h4] at hv;by_cases e:p=j+1
  .rw[if_pos e] at hu;cases hu;rw[if_neg aa] at hv;exact IQ j q _ _ hj aa h2 aa aa hy hv
  rw[if_neg e] at hu;by_cases e2:q=j+1
  .rw[if_pos e2] at hv;cases hv;exact IQ p j _ _ h0 aa aa e aa hu hy
  rw[if_neg e2] at hv;exact IQ p q _ _ h0 h1 h2 e e2 hu hv
 intro p iS;rw[get,if_neg aa,if_neg aa,nA p iS]
theorem yq.stop{α:Type}{lt:α->α->Bool}{zs ws:List α}{x:α}{a i j:Nat}(o:Swo lt)(h:yq lt zs ws x a i j)(hj:j=a\/ ∃y,a<j/\ws[j-1]?=some y/\lt x y=false):yt lt ws a (i+1):=by
 obtain⟨hp,⟨hja,hle,hl⟩,jP,ze,IQ,nA⟩:=h;intro p q u v h0 h1 h2 hu hv;by_cases e:q=j
 .subst e;rw[jP] at hv;cases hv;rcases hj with hj|⟨y,CB,hy,lf⟩
  .omega
  by_cases e3:p=q-1
  .subst e3;rw[hy] at hu;cases hu;exact lf
  exact o.ntrans _ _ _ (IQ p (q-1) _ _ h0 aa aa aa aa hu hy) lf
 by_cases e2:p=j
 .subst e2;rw[jP] at hu;cases hu;exact o.asym _ _ (ze q v h1 aa hv)
 exact IQ p q u v h0 h1 aa e2 e hu hv
theorem yt.mono{α:Type}{lt:α->α->Bool}{ws:List α}{a b c:Nat}(h:yt lt ws a c)(hb:b<=c\/ws.length<=c):yt lt ws a b:=fun p q x y h0 h1 h2 hx hy=>h p q x y h0 h1 (by
 rcases hb with hb|hb
 .omega
 have:=(aW.1 hy).1;omega) hx hy
abbrev tM(a b:Int):Bool:=decide (a<b)
theorem Wl:Swo tM:=⟨fun a b h=>by simp at*;omega,fun a b c h k=>by simp at*;omega⟩
theorem anE(a:Int):aI S 203 [vi a] (rb false):=by refine aZ c203 ?_;have h:(a !=a)=false:=af;simp only[go_sem,i203,h]
theorem amB(a b:Int):aI S 182 [vi a,vi b] (rb (tM a b)):=by have pn:=anE a;refine aZ c182 ?_;simp only[go_sem,i182,s203,cY pn,tM]
theorem Rk(n:Nat)(h:n<=1000000):∃k:Int,aI S 147 [.one (.p (.int .u64 n))] (ri k):=by
 refine⟨((Lib.bitLen n:Nat):Int),⟨1,?_⟩⟩;have hp:S.prim 147 [.one (.p (.int .u64 (n:Int)))]=some (some (ri ((Lib.bitLen n:Nat):Int))):=by show some (M4 [.one (.p (.int .u64 (n:Int)))])=_;simp only[M4];rw[if_pos ⟨aa,aa⟩];rfl
 rw[gn,hp]
theorem U4(o:List Int)(k:Nat)(v:Int):(iP o).set k [.int .i64 v]=iP (o.set k v):=by simp[List.map_set]
theorem wy(o:List Int):(iP o).length=o.length:=cM _
def EU(lt:Int->Int->Bool)(id g ty:Nat)(es:List Int)(aj:aA)(v:V)(ao:aA):Prop:=v=.tup []/\(∃ws:List Int,ao id=(g,some (.arr ty 1 (iP ws)))/\ws.Perm es/\yt lt ws 0 ws.length)/\Kept (· =id) aj ao
theorem alV{al:Al}{aj:aA}{id g:Nat}{es:List Int}(o:al.ok id=true)(hl:es.length<=1000000)(hC:aj id=(g,some (.arr ty 1 (iP es)))):
  ∃v ao,iK S 176 [.one (.hsl id g 1 0 es.length),vi 0,vi es.length] al aj v ao/\EU tM id g ty es aj v ao:=by
 refine mF c176 (iv rfl) ?_;have w0:IntKind.i64.wrap (0+1)=((0+1:Nat):Int):=ae;simp only[go_sem,i176];refine cV (fun k ak ao=>ak 0=.one (.hsl id g 1 0 es.length)/\ak 1=vi 0/\ak 2=vi es.length/\ak 6=vi ((k+1:Nat):Int)/\ ∃zs:List Int,ao id=(g,some (.arr ty 1 (iP zs)))/\zs.Perm es/\yt tM zs 0 (k+1)/\Kept (· =id) aj ao) 0 es.length (bG _) ?_ ?_
 .simp only[go_sem];exact⟨rfl,es,hC,.refl _,fun p q x y _ h1 h2=>aa,Kept.refl _ _⟩
 rintro k ak bK hk ⟨h0,h1,h2,h6,zs,hZ,hp,hs,dd⟩
 have mr:=hp.length_eq;by_cases ay:k+1<es.length
 .have aJ:((k+1:Nat):Int)<(es.length:Int):=aa;obtain⟨x,hx⟩:=aL (ls:=zs) (k:=k+1) aa;simp only[go_sem,i176_l3,h2,h6,aJ];refine cV (fun q ak ao=>ak 0=.one (.hsl id g 1 0 es.length)/\ak 1=vi 0/\ak 2=vi es.length/\ak 6=vi ((k+1:Nat):Int)/\ak 7=vi ((k+1-q:Nat):Int)/\ ∃ws:List Int,ao id=(g,some (.arr ty 1 (iP ws)))/\yq tM zs ws x 0 (k+1) (k+1-q)/\Kept (· =id) aj ao) 0 (k+1) (bG _) ?_ ?_
  .simp only[go_sem,h0,h1,h2,h6];exact⟨zs,hZ,yq.start (bG _) hx hs,dd⟩
  rintro q cT bh hq ⟨k0,k1,k2,k6,k7,ws,hW,hI,F5⟩
  have lL:ws.length=es.length:=hI.perm.length_eq.trans mr;have wk:IntKind.i64.wrap (((k+1:Nat):Int)+1)=((k+1+1:Nat):Int):=cn (n:=k+1) aa;by_cases hj0:k+1-q=0
  .have e7:¬((0:Int)<((k+1-q:Nat):Int)):=aa;simp only[go_sem,i176_l1,i176_r2,k0,k1,k2,k6,k7,e7,wk];refine⟨aG,aa,ws,hW,hI.perm.trans hp,hI.stop Wl (.inl hj0),F5⟩
  obtain⟨j,hj⟩:∃j,k+1-q=j+1:=⟨k-q,aa⟩;have e7:((0:Int)<((j+1:Nat):Int)):=aa;obtain⟨y,hy⟩:=aL (ls:=ws) (k:=j) aa;rw[hj] at hI k7;have wj:IntKind.i64.wrap (((j+1:Nat):Int)-1)=(j:Int):=by rw[ye aa];omega
  have Ay:=AL hI.at';have CB:=AL hy;have j1:j+1<es.length:=by have:=hI.le;omega
  have j2:j<es.length:=aa;have pl:=amB x y;cases lf:tM x y with
  |false=>rw[lf] at pl;simp only[go_sem,i176_l1,i176_r2,k0,k1,k2,k6,k7,e7,wk,wj,hW,Ay,CB,j1,j2,o,s182,NT pl];refine⟨aG,aa,ws,rfl,hI.perm.trans hp,hI.stop Wl (.inr ⟨y,aa,hy,lf⟩),F5⟩
  |true=>rw[lf] at pl;have vW:=hI.step Wl (bG _) hy lf;have hjj:¬(j+1=j):=aa;have l1:j+1<ws.length:=aa;have l2:j<ws.length:=aa;simp only[go_sem,i176_l1,i176_r2,k0,k1,k2,k6,k7,e7,wj,hW,Ay,CB,j1,j2,l1,hjj,o,s182,NT pl,pN,wy];have Ml:k+1-(q+1)=j:=aa;refine⟨aG,aG,aa,by rw[Ml],(ws.set (j+1) y).set j x,by rw[U4,U4],by rw[Ml];exact vW,(F5.dK rfl _).dK rfl _⟩
 have aJ:¬(((k+1:Nat):Int)<(es.length:Int)):=aa;simp only[go_sem,i176_l3,h2,h6,aJ];exact⟨rfl,⟨zs,hZ,hp,hs.mono (.inl aa)⟩,dd⟩
theorem zZ{Q:dA}{al:Al}{ak:Env}{aj:aA}{os:List aO}{d:Option Nat}{f id g ty z o n:Nat}{vs:List V}{es:List (List PV)}{P:V->aA->Prop}(hC:aj id=(g,some (.arr ty z es)))(qP:(vs.map (jm aj)).flatten=[])(hh:al=.all\/al.ok id=true/\(S.sites f).all al.fs.contains=true)
  (h:∀qy,qy.ok id=true->qy.fs=S.sites f->∃v ao,iK S f (.one (.hsl id g z o n)::vs) qy aj v ao/\P v ao)
  (hK:∀v ao,P v ao->RN S al os Q (put ak d v) ao):gP S al (.sc f (.one (.hsl id g z o n)::vs)) d os Q ak aj:=by
 have hr:((V.one (.hsl id g z o n)::vs).map (jm aj)).flatten=[id]:=by rw[dS,l8,qP,VX hC];rfl
 refine rC (P:=P) ?_ (h _ (se (by rw[hr];simp)) rfl) hK;rcases hh with rfl|⟨h1,h2⟩
 .rfl
 refine holds_of ?_ h2;show al.fD ((V.one (.hsl id g z o n)::vs).map (jm aj)).flatten=true;rw[hr];simp[Al.fD,h1]
theorem aoc{al:Al}{aj:aA}{id g:Nat}{es:List Int}(o:al.ok id=true)(f1:al.fs.contains 176=true)(hl:es.length<=12)(hC:aj id=(g,some (.arr ty 1 (iP es))))(lim:Int):
  ∃v ao,iK S 157 [.one (.hsl id g 1 0 es.length),vi 0,vi es.length,vi lim] al aj v ao/\EU tM id g ty es aj v ao:=by
 refine mF c157 (iv rfl) ?_;have w0:IntKind.i64.wrap ((es.length:Int)-0)=(es.length:Int):=by rw[Int.sub_zero];exact vE aa aa
 have jD:(es.length:Int)<=12:=aa;simp only[go_sem,i157];refine rj ?_;simp only[go_sem,i157_l1,w0,jD,s176];refine zZ hC (by rfl) (.inr ⟨o,by rw[show S.sites 176=[176] by kernel_rfl];simp only[mB,pM,f1,wN]⟩) (P:=EU tM id g ty es aj) (fun qy h1 _=>alV h1 aa hC) fun v ao hP=>?_;obtain⟨rfl,h2⟩:=hP;simp only[go_sem];exact⟨rfl,h2⟩
theorem Wi{al:Al}{aj:aA}{id g:Nat}{es:List Int}(o:al.ok id=true)(f1:(S.sites 157).all al.fs.contains=true)(hl:es.length<=12)(hC:aj id=(g,some (.arr ty 1 (iP es)))):
  ∃v ao,iK S 139 [.one (.hsl id g 1 0 es.length)] al aj v ao/\EU tM id g ty es aj v ao:=by
 obtain⟨k,pb⟩:=Rk es.length aa;have wu:IntKind.u64.wrap (es.length:Int)=(es.length:Int):=by
  have e:IntKind.u64.wrap (es.length:Int)=(es.length:Int)%18446744073709551616:=by unfold IntKind.wrap;rfl
  rw[e];omega
 refine mF c139 (iv rfl) ?_;have sbl:S.shared 147=false:=ah;simp only[go_sem,i139,wu,sbl,FK pb,s157];refine zZ hC (by rfl) (.inr ⟨o,f1⟩) (P:=EU tM id g ty es aj) (fun qy h1 h2=>aoc h1 (by rw[h2];kernel_rfl) hl hC k) fun v ao hP=>?_;obtain⟨rfl,h2⟩:=hP;simp only[go_sem];exact⟨rfl,h2⟩
def lU(ws:List Int):Nat->List Int
 |0=>[]
 |k+1=>match ws[k]? with
  |some x=>if 0<k/\ws[k-1]?=some x then lU ws k else lU ws k++[x]
  |none=>lU ws k
theorem Yh(ws:List Int):∀k,(lU ws k).length<=k:=by
 intro k
 induction k with
 |zero=>exact bN _
 |succ k ih=>
  unfold lU;split
  .split
   .omega
   simp;omega
  omega
theorem R7{k:Nat}(h:ws[k+1]?=some x)(hp:ws[k]?=some x):lU ws (k+2)=lU ws (k+1):=by
 conv=>lhs;unfold lU
 rw[h];simp[hp]
theorem R5{k:Nat}{y:Int}(h:ws[k+1]?=some x)(hp:ws[k]?=some y)(hn:¬x=y):lU ws (k+2)=lU ws (k+1)++[x]:=by
 conv=>lhs;unfold lU
 rw[h];have:¬y=x:=fun e=>hn e.symm;simp[hp,this]
theorem aib(h:ws[0]?=some x):lU ws 1=[x]:=by simp[lU,h]
def Pz(ws:List Int)(k:Nat):Prop:=∀i x y,i+1<k->ws[i]?=some x->ws[i+1]?=some y-> ¬y=x
theorem R6:∀k,k<=ws.length->Pz ws k->lU ws k=ws.take k:=by
 intro k
 induction k with
 |zero=>intro _ _;rfl
 |succ k ih=>
  intro hk h;obtain⟨x,hx⟩:=aL (ls:=ws) (k:=k) aa;have e:=ih aa fun i x y h1=>h i x y aa;have ht:ws.take (k+1)=ws.take k++[x]:=by rw[pP,hx];rfl
  rcases k with _|k
  .rw[aib hx,ht];rfl
  obtain⟨y,hy⟩:=aL (ls:=ws) (k:=k) aa;rw[R5 hx hy (h k y x aa hy hx),e,ht]
structure yD (ws cs:List Int) (k q:Nat):Prop where
 len:cs.length=ws.length
 kl:k=(lU ws q).length
 pre:cs.take k=lU ws q
 out:∀p,q-1<=p->cs[p]?=ws[p]?
 kq:k<q
theorem yD.step{cs:List Int}{k q:Nat}{y:Int}(h:yD ws cs k (q+1))(hx:ws[q+1]?=some x)(hy:ws[q]?=some y)(hn:¬x=y):yD ws (cs.set k x) (k+1) (q+2):=by
 obtain⟨h1,h2,h3,h4,h5⟩:=h;have hl:=Yh ws (q+1);have hq:q+1<ws.length:=(aW.1 hx).1;refine⟨by simpa using h1,by rw[R5 hx hy hn,gh,<- h2];rfl,?_,fun p hp=>?_,aa⟩
 .rw[R5 hx hy hn,pP,pN];have:k<cs.length:=aa;rw[if_pos rfl,if_pos this,List.take_set_of_le (bN _),h3];rfl
 rw[pN,if_neg aa];exact h4 p aa
theorem yD.skip{cs:List Int}{k q:Nat}(h:yD ws cs k (q+1))(hx:ws[q+1]?=some x)(hy:ws[q]?=some x):yD ws cs k (q+2):=by obtain⟨h1,h2,h3,h4,h5⟩:=h;exact⟨h1,by rw[R7 hx hy];exact h2,by rw[R7 hx hy];exact h3,fun p hp=>h4 p aa,aa⟩
theorem yD.start{k:Nat}(hk:k+1<ws.length)(h:Pz ws (k+1))(hx:ws[k+1]?=some x)(hy:ws[k]?=some x):yD ws ws (k+1) (k+2):=by have e:=R6 (k+1) aa h;have e2:lU ws (k+2)=ws.take (k+1):=(R7 hx hy).trans e;exact⟨rfl,by rw[e2];simp;omega,by rw[e2],fun _ _=>rfl,aa⟩
def Rw(id g ty:Nat)(ws:List Int)(aj:aA)(v:V)(ao:aA):Prop:=v=.one (.hsl id g 1 0 (lU ws ws.length).length)/\(∃cs:List Int,ao id=(g,some (.arr ty 1 (iP cs)))/\cs.length=ws.length/\cs.take (lU ws ws.length).length=lU ws ws.length)/\Kept (· =id) aj ao
theorem alE{cs:List Int}{k:Nat}(hk:k<=cs.length):List.take k (iP cs)++List.replicate (cs.length-k) [PV.int .i64 0]++List.drop (k+(cs.length-k)) (iP cs)=iP (cs.take k++List.replicate (cs.length-k) 0):=by rw[List.drop_of_length_le (by simp;omega),kN];simp only[iP,ll,List.map_replicate,List.map_take]
theorem X8{al:Al}{aj:aA}{id g:Nat}(o:al.ok id=true)(hl:ws.length<=1000000)(hC:aj id=(g,some (.arr ty 1 (iP ws)))):
  ∃v ao,iK S 140 [.one (.hsl id g 1 0 ws.length)] al aj v ao/\Rw id g ty ws aj v ao:=by
 refine mF c140 (iv rfl) ?_;by_cases h2:ws.length<2
 .have gH:((ws.length:Int)<2):=aa;have iR:Pz ws ws.length:=fun i x y h=>aa;have e:=R6 ws.length (bN _) iR;rw[kS] at e;simp only[go_sem,i140,gH];exact⟨by rw[e],⟨ws,hC,rfl,by rw[e,kS]⟩,Kept.refl _ _⟩
 have gH:¬((ws.length:Int)<2):=aa;simp only[go_sem,i140,gH];refine cV (fun q ak ao=>ak 0=.one (.hsl id g 1 0 ws.length)/\ak 3=vi ((q+1:Nat):Int)/\Pz ws (q+1)/\ao=aj) 0 ws.length (bG _) ?_ ?_
 .simp only[go_sem];exact⟨rfl,fun i x y h=>aa⟩
 rintro q ak bK hq ⟨h0,h3,iR,rfl⟩
 by_cases ay:q+1<ws.length
 .have aJ:(((q+1:Nat):Int)<(ws.length:Int)):=aa;obtain⟨x,hx⟩:=aL (ls:=ws) (k:=q+1) ay;obtain⟨y,hy⟩:=aL (ls:=ws) (k:=q) aa;have Ay:=AL hx;have CB:=AL hy;have wj:IntKind.i64.wrap (((q+1:Nat):Int)-1)=(q:Int):=by rw[ye aa];omega
  have wk:=cn (n:=q+1) aa;have q1:q<ws.length:=aa;have q2:q+1<=ws.length:=aa;by_cases e:x=y
  .subst e;simp only[go_sem,i140_l4,h0,h3,ay,aJ,Ay,CB,wj,q1,q2,hC,o];refine⟨aG,?_⟩;refine cV (fun r ak ao=>ak 0=.one (.hsl id g 1 0 ws.length)/\ak 4=.one (.hsl id g 1 (q+1) (ws.length-(q+1)))/\ak 5=vi ((r+1:Nat):Int)/\ ∃(cs:List Int) (k:Nat),ak 3=vi (k:Nat)/\ao id=(g,some (.arr ty 1 (iP cs)))/\yD ws cs k (q+2+r)/\q+2+r<=ws.length/\Kept (· =id) bK ao) 0 ws.length (bG _) ?_ ?_
   .simp only[go_sem,h0];exact⟨rfl,ws,q+1,h3,hC,yD.start ay iR hx hy,aa,Kept.refl _ _⟩
   rintro r cT bh hr ⟨k0,k4,k5,cs,k,k3,hB,hI,hqr,dd⟩
   have cq:=hI.len;have dU:=hI.kl;have hkle:=Yh ws (q+2+r);have hkq:=hI.kq;have DP:yD ws cs k (q+1+r+1):=by rw[show q+1+r+1=q+2+r by omega];exact hI
   by_cases OS:r+1<ws.length-(q+1)
   .have OT:(((r+1:Nat):Int)<((ws.length-(q+1):Nat):Int)):=aa;obtain⟨u,hu⟩:=aL (ls:=ws) (k:=q+1+(r+1)) aa;obtain⟨v,hv⟩:=aL (ls:=ws) (k:=q+1+r) aa;have cu:=AL ((hI.out (q+1+(r+1)) aa).trans hu);have cv:=AL ((hI.out (q+1+r) aa).trans hv);have wr:IntKind.i64.wrap (((r+1:Nat):Int)-1)=(r:Int):=by rw[ye aa];omega
    have wr2:=cn (n:=r+1) aa;have wk2:=cn (n:=k) aa;have r1:r<ws.length-(q+1):=aa;have kk:k<ws.length:=aa;have kk2:k<cs.length:=aa;obtain⟨z,hz⟩:=aL kk2;have cz:=AL hz;by_cases e2:u=v
    .subst e2;have Es:(u !=u)=false:=af;have vW:=DP.skip (by rw[show q+1+r+1=q+1+(r+1) by omega];exact hu) hv;simp only[go_sem,i140_l1,k0,k4,k5,k3,OS,OT,r1,hB,cu,cv,wr,wr2,Es,o];refine⟨aG,aa,cs,k,rfl,rfl,by rw[show q+2+(r+1)=q+1+r+2 by omega];exact vW,aa,dd⟩
    have Es:=(show(u !=v)=true by simp[e2]);simp only[go_sem,i140_l1,k0,k4,k5,k3,OS,OT,r1,hB,cu,cv,wr,wr2,wk2,kk,cz,Es,o];have vW:=DP.step (by rw[show q+1+r+1=q+1+(r+1) by omega];exact hu) hv e2;refine⟨aG,aa,cs.set k u,k+1,rfl,by rw[U4],by rw[show q+2+(r+1)=q+1+r+2 by omega];exact vW,aa,dd.dK rfl _⟩
   have OT:¬(((r+1:Nat):Int)<((ws.length-(q+1):Nat):Int)):=aa;have kk3:k<=ws.length:=aa;have kk4:k+(ws.length-k)<=cs.length:=aa;have aH:¬(ws.length-k=0):=aa;have OJ:q+2+r=ws.length:=aa;rw[OJ] at hI;have nY:=alE (cs:=cs) (k:=k) aa;rw[cq] at nY;simp only[go_sem,i140_l1,i140_r2,k0,k4,k5,k3,OT,hB,o,kk3,kk4,aH,List.length_replicate,wy,nY];obtain⟨i1,i2,i3,i4,i5⟩:=hI;refine⟨by rw[<- i2],⟨_,wM,by simp;omega,?_⟩,dd.dK rfl _⟩;rw[<- i2,List.take_left' (by simp;omega),i3]
  have e1:=(show(x==y)=false by simp[e]);simp only[go_sem,i140_l4,i140_r3,h0,h3,ay,aJ,Ay,CB,wj,wk,q1,hC,o,e1];refine⟨aG,fun i u v h h4 h5=>?_⟩;by_cases e2:i=q
  .subst e2;rw[hy] at h4;rw[hx] at h5;cases h4;cases h5;exact e
  exact iR i u v aa h4 h5
 have aJ:¬(((q+1:Nat):Int)<(ws.length:Int)):=aa;have e:=R6 ws.length (bN _) (fun i x y h=>iR i x y aa);rw[kS] at e;simp only[go_sem,i140_l4,i140_r5,h0,h3,aJ];exact⟨by rw[e],⟨ws,hC,rfl,by rw[e,kS]⟩,Kept.refl _ _⟩
def nu:List Int->List Int
 |[]=>[]
 |x::r=>if x∈r then nu r else x::nu r
theorem NV:∀ {l:List Int},x∈nu l↔x∈l:=by
 intro l
 induction l with
 |nil=>simp[nu]
 |cons y r ih=>
  unfold nu;split
  .rename_i h;rw[ih,cP];constructor
   .exact .inr
   rintro (rfl|h2)
   .exact h
   exact h2
  rw[cP,cP,ih]
theorem aiu:∀l:List Int,(nu l).Nodup:=by
 intro l
 induction l with
 |nil=>exact wS
 |cons y r ih=>
  unfold nu;split
  .exact ih
  rename_i h;exact r6.2 ⟨fun h2=>h (NV.1 h2),ih⟩
theorem Yi:∀k,k<=ws.length->(x∈lU ws k↔x∈ws.take k):=by
 intro k
 induction k with
 |zero=>intro _;simp[lU]
 |succ k ih=>
  intro hk;obtain⟨y,hy⟩:=aL (ls:=ws) (k:=k) aa;have ht:ws.take (k+1)=ws.take k++[y]:=by rw[pP,hy];rfl
  have ih:=ih aa;unfold lU;rw[hy,ht];simp only;split
  .rename_i h;obtain⟨h1,h2⟩:=h;have hm:y∈ws.take k:=by
    rw[List.mem_take_iff_getElem];obtain⟨h3,h4⟩:=aW.1 h2;exact⟨k-1,aa,h4⟩
   rw[ih,fg];constructor
   .exact .inl
   rintro (h|h)
   .exact h
   simp at h;subst h;exact hm
  rw[fg,fg,ih]
theorem aia(hs:yt tM ws 0 ws.length):∀k,k<=ws.length->(lU ws k).Nodup:=by
 intro k
 induction k with
 |zero=>intro _;exact wS
 |succ k ih=>
  intro hk;obtain⟨y,hy⟩:=aL (ls:=ws) (k:=k) aa;have ih:=ih aa;unfold lU;rw[hy];simp only;split
  .exact ih
  rename_i h;rw[Hf];refine⟨ih,af,fun z hz w hw=>?_⟩;simp at hw;subst hw;rintro rfl
  rw[Yi k aa,List.mem_take_iff_getElem] at hz;obtain⟨p,hp,hpz⟩:=hz;have hpk:p<k:=aa;have nC:ws[p]?=some z:=by rw[s0 aa,hpz]
  obtain⟨u,hu⟩:=aL (ls:=ws) (k:=k-1) aa;have s1:=hs (k-1) k u z (bG _) aa aa hu hy;have huz:u=z:=by
   by_cases e:p=k-1
   .rw[e,hu] at nC;cases nC;rfl
   have s2:=hs p (k-1) z u (bG _) aa aa nC hu;simp at s1 s2;omega
  rw[huz] at hu;exact h ⟨aa,hu⟩
theorem X7{es:List Int}(hp:ws.Perm es)(hs:yt tM ws 0 ws.length):(lU ws ws.length).length=(nu es).length:=by refine List.Perm.length_eq ((List.perm_ext_iff_of_nodup (aia hs _ (bN _)) (aiu es)).2 fun x=>?_);rw[Yi _ (bN _),kS,NV,hp.mem_iff]
def BS(ls:List Let)(e:Nat):Bool:=((pA ls e).l.kind==2)&&((pA ls (nx ls e)).l.kind==2)
def vA(ls:List Let)(es:List Nat):List Int:=es.flatMap fun e:Nat=>[(e:Int),(nx ls e:Int)]
def wL(ls:List Let)(es:List Nat):List Int:=es.flatMap fun e:Nat=>[(pA ls e).l.id,(pA ls (nx ls e)).l.id]
def Nf(F:Nat)(ls:List Let)(a b c:Nat):Bool:=[a,b,c].all (BS ls)&&(((nu (vA ls [a,b,c])).length==6)&&(((nu (wL ls [a,b,c])).length==3)&&([a,b,c].any (kV ls · true)&&([a,b,c].any (kV ls · false)&&tm F ls 0 [a,b,c] a))))
def xY(F:Nat)(ls:List Let)(a b c:Nat):Option (List Pc):=if Nf F ls a b c then some (iW ls (pieces ls) [a,b,c]) else none
theorem Qz(f:Nat->List Int)(hf:∀e,(f e).length=2):∀l:List Nat,(l.flatMap f).length=2*l.length:=by
 intro l
 induction l with
 |nil=>rfl
 |cons a r ih=>rw[List.flatMap_cons,gh,ih,hf,dh];omega
theorem aag(f:Nat->List Int)(l:List Nat)(k e:Nat)(h:l[k]?=some e):(l.take (k+1)).flatMap f=(l.take k).flatMap f++f e:=by rw[pP,h];simp
theorem Xb(f:Nat->Bool)(l:List Nat)(k e:Nat)(h:l[k]?=some e):(l.take (k+1)).any f=((l.take k).any f||f e):=by rw[pP,h];simp
theorem agq(f:Nat->Bool)(l:List Nat)(k e:Nat)(h:l[k]?=some e):(l.take (k+1)).all f=((l.take k).all f&&f e):=by rw[pP,h];simp
theorem afA(f:Nat->List Int)(es:List Nat)(x y:Int):iP (es.flatMap f)++[[PV.int .i64 x],[PV.int .i64 y]]=iP (es.flatMap f++[x,y]):=af
theorem arJ{F:Nat}(g:dF F ls){av bv cv:Nat}(ha:av<ls.length)(hb:bv<ls.length)(hc:cv<ls.length){k:Int}{l o:Bool}{sg:Int}:
  aI S 113 [.one (.p (eI F ls)),lZ k av bv cv l o sg] (kR (xY F ls av bv cv)):=by
 have hlen:=g.len;have cA:=fW ls;have mL:∀e∈[av,bv,cv],e<ls.length:=fun e h=>by simp at h;rcases h with rfl|rfl|rfl<;>assumption
 generalize hE:[av,bv,cv]=es at*;have dC:es.length=3:=by rw[<- hE];rfl
 have Ma:nP [av,bv,cv]=[[.int .i64 av],[.int .i64 bv],[.int .i64 cv]]:=rfl;rw[hE] at Ma;have w3:((3:Nat):Int)=3:=rfl;refine aZ c113 ?_;simp only[go_sem,i113];refine cV (fun j ak aj=>ak 0=.one (.p (eI F ls))/\ak 6=.one (.hsl 7232064384 1 1 0 3)/\ak 22=.one (.hsl 7232064384 1 1 0 3)/\ak 23=vi 3/\ak 24=vi j/\aj 7232064384=(1,some (.arr 3 1 (nP es)))/\(es.take j).all (BS ls)=true/\
  ak 9=vb ((es.take j).any (kV ls · true))/\ak 10=vb ((es.take j).any (kV ls · false))/\ ∃c7 c8,ak 7=.one c7/\ak 8=.one c8/\grown 7232640256 3 1 (iP (vA ls (es.take j))) (.one c7) aj/\grown 7232705280 3 1 (iP (wL ls (es.take j))) (.one c8) aj) 0 3 (bG _) ?_ ?_
 .simp only[go_sem];exact⟨rfl,rfl,by rw[Ma],rfl,rfl,_,_,rfl,rfl,grown.nil,grown.nil⟩
 rintro j ak aj hj ⟨h0,h6,vU,pX,mh,b6,dy,h9,eQ,c7,c8,h7,h8,g7,g8⟩
 by_cases ay:j<3
 .have aJ:((j:Int)<3):=aa;obtain⟨e,he⟩:=aL (ls:=es) (k:=j) aa;have OI:=mL e (aU he);have hnp:=j9 he;have pe:=BW g OI;have hm:=eH (e+1) (show 0<ls.length by omega);obtain⟨P,hP⟩:=aL (ls:=pieces ls) (k:=e) aa;obtain⟨Q,hQ⟩:=aL (ls:=pieces ls) (k:=(e+1)%ls.length) aa;have oU:=jW hP;have haq:=jW hQ;have w1:=cn (n:=j) aa;have po:=HB g OI true;have pu:=HB g OI false;have fv:BS ls e=((P.l.kind==2)&&(Q.l.kind==2)):=by unfold BS;rw[kh hP,kh hQ]
  have hl7:(iP (vA ls (es.take j))).length<=100:=by unfold vA;rw[wy,Qz _ (fun _=>rfl),iu];omega
  have hl8:(iP (wL ls (es.take j))).length<=100:=by unfold wL;rw[wy,Qz _ (fun _=>rfl),iu];omega
  have dD:BS ls e=false->xY F ls av bv cv=none:=fun h=>by
   have:es.all (BS ls)=false:=by
    cases hh:es.all (BS ls) with
    |false=>rfl
    |true=>rw[ko.1 hh e (aU he)] at h;cases h
   unfold xY Nf;rw[hE,this];rfl
  cases k1:(P.l.kind==2) with
  |false=>
   rw[k1] at fv;have k1':(P.l.kind !=2)=true:=by simp only[bne,k1];rfl
   rw[dD fv];simp only[go_sem,i113_l1,h0,vU,pX,mh,b6,ay,aJ,hnp,s126,cJ pe fL,oU,Pc.ps,k1'];rfl
  |true=>
   have k1':(P.l.kind !=2)=false:=by simp only[bne,k1];rfl
   cases k2:(Q.l.kind==2) with
   |false=>
    rw[k1,k2] at fv;have k2':(Q.l.kind !=2)=true:=by simp only[bne,k2];rfl
    rw[dD fv];simp only[go_sem,i113_l1,h0,vU,pX,mh,b6,ay,aJ,hnp,s126,cJ pe fL,oU,haq,Pc.ps,k1',k2'];rfl
   |true=>
    rw[k1,k2] at fv;have k2':(Q.l.kind !=2)=false:=by simp only[bne,k2];rfl
    simp only[go_sem,i113_l1,h0,h7,vU,pX,mh,b6,ay,aJ,hnp,s126,cJ pe fL,oU,haq,Pc.ps,k1',k2'];refine um (xs:=[[.int .i64 (e:Nat)],[.int .i64 ((e+1)%ls.length:Nat)]]) (g7.of_eq (aS ae)) (by simp only[fF,aN,if_true];rfl) (.inl rfl) (by simp only[dh,ff];omega) fun d7 bK gd7 cD=>?_;have q6:=cD 7232064384 ae ae;simp only[go_sem,b6] at q6;have g8':=g8.of_eq ((cD 7232705280 ae ae).trans (aS ae));simp only[go_sem,h0,h8,oU,haq,Pc.ps];refine zR (xs:=[[.int .i64 P.l.id],[.int .i64 Q.l.id]]) (g8'.of_eq (aS ae)) (by simp only[fF,aN,if_true];rfl) (.inl rfl) (by simp only[dh,ff];omega) fun d8 bh r w gd8 bj hw=>?_
    have p6:=(bj 7232064384 ae ae).trans ((aS ae).trans q6);have aj3:=gd7.of_eq ((bj 7232640256 ae ae).trans (aS ae));simp only[go_sem];refine⟨?_,?_⟩
    .rcases hw with ⟨rfl,rfl⟩|⟨rfl,rfl⟩|⟨rfl,rfl⟩<;>kernel_rfl
    generalize hx9:(es.take j).any (kV ls · true)=x9 at h9;generalize alA:(es.take j).any (kV ls · false)=GW at eQ;have e9:=Xb (kV ls · true) es j e he;have qC:=Xb (kV ls · false) es j e he;have eA:=agq (BS ls) es j e he;rw[hx9] at e9;rw[alA] at qC;rw[dy,fv] at eA;have G7:grown 7232640256 3 1 (iP (vA ls (es.take (j+1)))) (.one d7) bh:=by have:=afA (fun e:Nat=>[(e:Int),(nx ls e:Int)]) (es.take j) e (nx ls e);have h2:=aag (fun e:Nat=>[(e:Int),(nx ls e:Int)]) es j e he;rw[show vA ls (es.take (j+1))=(es.take j).flatMap (fun e:Nat=>[(e:Int),(nx ls e:Int)])++[(e:Int),(nx ls e:Int)] from h2,<- this];exact aj3
    have G8:grown 7232705280 3 1 (iP (wL ls (es.take (j+1)))) (.one d8) bh:=by have:=afA (fun e:Nat=>[(pA ls e).l.id,(pA ls (nx ls e)).l.id]) (es.take j) (pA ls e).l.id (pA ls (nx ls e)).l.id;have h2:=aag (fun e:Nat=>[(pA ls e).l.id,(pA ls (nx ls e)).l.id]) es j e he;rw[show wL ls (es.take (j+1))=(es.take j).flatMap (fun e:Nat=>[(pA ls e).l.id,(pA ls (nx ls e)).l.id])++[(pA ls e).l.id,(pA ls (nx ls e)).l.id] from h2,<- this,kh hP,show pA ls (nx ls e)=Q from kh hQ];exact gd8
    cases x9<;>cases GW<;>simp only[go_sem,h0,h9,eQ,vU,pX,mh,s137,cY po,cY pu,w1,ay]<;>exact⟨h6,p6,by rw[eA];rfl,by rw[e9];rfl,by rw[qC];rfl,d7,d8,rfl,rfl,G7,G8⟩
 have:j=3:=aa;subst this;have ht:es.take 3=es:=by rw[<- hE];rfl
 rw[ht] at dy h9 eQ g7 g8;have n7:(vA ls es).length=6:=by unfold vA;rw[Qz _ (fun _=>rfl),dC]
 have n8:(wL ls es).length=6:=by unfold wL;rw[Qz _ (fun _=>rfl),dC]
 rcases g7 with ⟨e,_⟩|⟨_,gg7,e,b7⟩
 .have:=congrArg List.length e;rw[wy,n7] at this;cases this
 cases e;rcases g8 with ⟨e,_⟩|⟨_,gg8,e,b8⟩
 .have:=congrArg List.length e;rw[wy,n8] at this;cases this
 cases e;have s506:S.shared 139=true:=ah;have s507:S.shared 140=true:=ah;have DN:¬(((3:Nat):Int)<3):=ae;simp only[go_sem,i113_l1,i113_r2,h7,pX,mh,DN,s506,wy];refine zZ b7 (by rfl) (.inl rfl) (P:=EU tM 7232640256 gg7 3 (vA ls es) aj) (fun qy h1 h2=>Wi h1 (by rw[h2];kernel_rfl) aa b7) fun v bK hP=>?_;obtain⟨rfl,⟨ws,bw,pw,sw⟩,kw⟩:=hP;have b8':=(kw 7232705280 ae).trans b8;have b6':=(kw 7232064384 ae).trans b6;simp only[go_sem,h8,s506,wy];refine zZ b8' (by rfl) (.inl rfl) (P:=EU tM 7232705280 gg8 3 (wL ls es) bK) (fun qy h1 h2=>Wi h1 (by rw[h2];kernel_rfl) aa b8') fun v bh hP=>?_
 obtain⟨rfl,⟨us,bu,pu,su⟩,ku⟩:=hP;have bw':=(ku 7232640256 ae).trans bw;have ag5:=(ku 7232064384 ae).trans b6';have wl:=pw.length_eq;have ul:=pu.length_eq;have cw:=X7 pw sw;have cu:=X7 pu su;have pcn:=RW g es aa (e0:=av) (by rw[<- hE];rfl) ha 0;have c00:((0:Nat):Int)=0:=rfl;rw[c00] at pcn;have psw:=arq g es mL aa;have ht3:List.take 3 (nP es)=nP es:=gR (by rw[VC];omega);have hB:Nf F ls av bv cv=((((nu (vA ls es)).length:Int)==6)&&((((nu (wL ls es)).length:Int)==3)&&(es.any (kV ls · true)&&(es.any (kV ls · false)&&tm F ls 0 es av)))):=by unfold Nf;rw[hE,dy,Pf,Pf];rfl
 unfold xY;rw[hB];clear hB;simp only[go_sem,h7,s507,wy,<- wl];refine zZ bw' (by rfl) (.inl rfl) (P:=Rw 7232640256 gg7 3 ws bh) (fun qy h1 h2=>X8 h1 aa bw') fun v gT hP=>?_;obtain⟨rfl,_,kc⟩:=hP;have bu':=(kc 7232705280 ae).trans bu;have b63:=(kc 7232064384 ae).trans ag5;rw[cw];have lo:S.lone 7233152128=false:=ah;cases q1:(((nu (vA ls es)).length:Int)==6) with
 |false=>
  have q1':(((nu (vA ls es)).length:Int)!=6)=true:=by simp only[bne,q1];rfl
  simp only[go_sem,q1'];rfl
 |true=>
  have q1':(((nu (vA ls es)).length:Int)!=6)=false:=by simp only[bne,q1];rfl
  simp only[go_sem,h8,q1',s507,wy,<- ul];refine zZ bu' (by rfl) (.inl rfl) (P:=Rw 7232705280 gg8 3 us gT) (fun qy h1 h2=>X8 h1 aa bu') fun v je hP=>?_;obtain⟨rfl,_,kd⟩:=hP;have w7:=(kd 7232064384 ae).trans b63;rw[cu];cases q2:(((nu (wL ls es)).length:Int)==3) with
  |false=>
   have Jt:(((nu (wL ls es)).length:Int)!=3)=true:=by simp only[bne,q2];rfl
   simp only[go_sem,Jt];rfl
  |true=>
   have Jt:(((nu (wL ls es)).length:Int)!=3)=false:=by simp only[bne,q2];rfl
   cases q3:es.any (kV ls · true) with
   |false=>rw[q3] at h9;simp only[go_sem,h9,Jt];rfl
   |true=>
    rw[q3] at h9;cases q4:es.any (kV ls · false) with
    |false=>rw[q4] at eQ;simp only[go_sem,h9,eQ,Jt];rfl
    |true=>
     rw[q4] at eQ;cases q5:tm F ls 0 es av with
     |false=>rw[q5] at pcn;simp only[go_sem,h0,h6,h9,eQ,Jt,w7,s134,cY pcn,dC,VC,ht3];rfl
     |true=>rw[q5] at pcn;simp only[go_sem,h0,h6,h9,eQ,Jt,w7,s134,cY pcn,s141,dC,VC,ht3];refine rB psw lo (.inr (qA (CU _))) fun cc BK gc DW=>?_;simp only[go_sem];rw[<- hE] at gc;exact yO gc
abbrev Vd:List C:=[.p .jx,.p (.fn 106 [] []),.p (.fn 107 [] []),.p (.fn 108 [] []),.p (.fn 109 [] []),.p (.fn 110 [] []),.p (.fn 111 [] []),.p (.fn 112 [] []),.p (.fn 113 [] []),.p (.fn 114 [] []),.p (.fn 114 [] [])]
theorem akh(k:Int):0<=(nz k).1/\(nz k).1<=4/\0<=(nz k).2/\(nz k).2<=2:=by
 unfold nz;split
 .simp
 split
 .simp
 split<;>simp
theorem KP{F:Nat}(hlen:ls.length<=400)(fv:aw Let.aB ls<=200){k f:Nat}{rest:List C}(hk:Vd.drop k=.p (.fn f [] [])::rest)(jt:k<11)(IM:S.shared f=false){a b c:Int}{l o:Bool}{sg:Int}{res:Option (List Pc)}(ha:aI S 93 [.one (.p (eI F ls)),lZ k a b c l o sg] (rb true))(hm:aI S f [.one (.p (eI F ls)),lZ k a b c l o sg] (kR res))(hL:∀L,res=some L->L.length<=1000000):
  aI S 75 [.one (.p (eI F ls)),lZ k a b c l o sg] (zT F ls k res):=by
 have yS:=ajt F;have pg:=akg k;have lY:S.lone 4800192384=false:=ah;have vn:S.lone 4800576128=false:=ah;have hlk:∀(aj:aA),land aj [] 4800192000 ((RV.agg [.p .jx,.p (.fn 106 [] []),.p (.fn 107 [] []),.p (.fn 108 [] []),.p (.fn 109 [] []),.p (.fn 110 [] []),.p (.fn 111 [] []),.p (.fn 112 [] []),.p (.fn 113 [] []),.p (.fn 114 [] []),.p (.fn 114 [] [])]).gK (S.lone 4800192000))=some (.agg Vd,[]):=fun aj=>by cases S.lone 4800192000<;>rfl
 have cA:=fW ls;obtain⟨g1,g2,g3,g4⟩:=akh k;have lg:∀aj:aA,land aj [] 4800384128 ((RV.tup [.one (.p (.int .i64 (nz k).1)),.one (.p (.int .i64 (nz k).2))]).gK (S.lone 4800384128))=some (.tup [.one (.p (.int .i64 (nz k).1)),.one (.p (.int .i64 (nz k).2))],[]):=fun aj=>fL;obtain⟨Lj,Lk,rH⟩:∃x y,nz k=(x,y):=⟨_,_,rfl⟩;have d4:zT F ls k none=uI 4:=rfl;have d7:∀L,((400:Int)<(ls.length:Int)+Lj\/(100:Int)<((aw Let.aB ls/2:Nat):Int)+Lk)->zT F ls k (some L)=uI 7:=fun L h=>by unfold zT;rw[rH];exact if_pos h
 have d0:∀L,¬((400:Int)<(ls.length:Int)+Lj\/(100:Int)<((aw Let.aB ls/2:Nat):Int)+Lk)->zT F ls k (some L)=rX F (qF L):=fun L h=>by unfold zT;rw[rH];exact if_neg h
 rw[rH] at g1 g2 g3 g4 pg;simp only[rH] at lg;simp only at g1 g2 g3 g4 lg pg;have w1:IntKind.i64.wrap (((pieces ls).length:Int)+Lj)=(ls.length:Int)+Lj:=by rw[cA];exact vE aa aa
 have w2:IntKind.i64.wrap (((aw Let.aB ls/2:Nat):Int)+Lk)=((aw Let.aB ls/2:Nat):Int)+Lk:=vE aa aa;unfold kR at hm;generalize Vd=kg at hk hlk;refine aZ c75 ?_;simp only[go_sem,i75,s93,cY ha,s94,DC amf (hlk _),hk,jt,IM];refine ain hm lY fun cc bK w gc hb hw=>?_;have b0:=hb 4800000000 ae;have b1:=hb 4800000064 ae;simp only[go_sem] at b0 b1;cases res with
 |none=>rw[d4];simp only[go_sem,b1];refine⟨?_,rfl⟩;rcases hw with rfl|rfl<;>kernel_rfl
 |some L=>
  simp only[nc] at gc;have pfin:=yS L (hL L rfl) (.sl (dN (pieces ls))) (.sl (tx (eV F ls))) (.sl (nP (ow F ls))) (.int .i64 (aw Let.aE ls:Nat)) (.int .i64 ((aw Let.aB ls/2:Nat):Int)) (.sl (nP (counts ls F)));obtain⟨rs,lK,_⟩:=gc.fH;by_cases h1:(400:Int)<(ls.length:Int)+Lj
  .rw[d7 L (.inl h1)];simp only[go_sem,b0,b1,s95,cJ pg (lg _),w1,h1];refine⟨?_,rfl⟩;rcases hw with rfl|rfl<;>kernel_rfl
  by_cases h2:(100:Int)<((aw Let.aB ls/2:Nat):Int)+Lk
  .rw[d7 L (.inr h2)];simp only[go_sem,b0,b1,s95,cJ pg (lg _),w1,w2,h1,h2];refine⟨?_,rfl⟩;rcases hw with rfl|rfl<;>kernel_rfl
  rw[d0 L (by rintro (h|h);exact h1 h;exact h2 h)];simp only[go_sem,b0,s95,cJ pg (lg _),w1,w2,h1,h2,lK,s96];refine⟨?_,?_⟩
  .rcases hw with rfl|rfl<;>kernel_rfl
  refine ajW pfin vn rfl (GM _) fun c2 bh uY bj=>?_;have b02:=(bj 4800000064 ae).trans b1;simp only[go_sem,b02];exact Ll (uY.of_eq (aS ae))
theorem aix{F:Nat}{k a b c:Int}{l o:Bool}{sg:Int}(ha:aI S 93 [.one (.p (eI F ls)),lZ k a b c l o sg] (rb false)):aI S 75 [.one (.p (eI F ls)),lZ k a b c l o sg] (uI 2):=by refine aZ c75 ?_;simp only[go_sem,i75,s93,cY ha];try rfl
def tN(F:Nat)(ls:List Let)(k:Int)(a b c:Nat)(l o:Bool)(sg:Int):Option (List Pc):=if k=1 then zL ls a else if k=2 then amR F ls a b c else if k=3 then zN F ls a b else if k=4 then AO ls a else if k=5 then some (lmR ls a sg o) else if k=6 then A1 F ls a b else if k=7 then pmR F ls a b l o else if k=8 then xY F ls a b c else if k=9 then trR F ls a else tlR ls a
def vK(F:Nat)(ls:List Let)(k a b c:Int)(l o:Bool)(sg:Int):RV:=if bJ F ls k a b c l o sg then zT F ls k (tN F ls k a.toNat b.toNat c.toNat l o sg) else uI 2
theorem agw{F:Nat}{k a b c:Int}{l o:Bool}{sg:Int}:(∃e,vK F ls k a b c l o sg=uI e)\/ ∃L,vK F ls k a b c l o sg=rX F L:=by
 unfold vK;split
 .cases tN F ls k a.toNat b.toNat c.toNat l o sg with
  |none=>exact .inl ⟨4,rfl⟩
  |some L=>
   by_cases h:(400:Int)<(ls.length:Int)+(nz k).1\/(100:Int)<((aw Let.aB ls/2:Nat):Int)+(nz k).2
   .exact .inl ⟨7,if_pos h⟩
   exact .inr ⟨qF L,if_neg h⟩
 exact .inl ⟨2,rfl⟩
theorem agA{F:Nat}{k a b c:Int}{l o:Bool}{sg:Int}{res:RV}(po:aI S 74 [dX F ls] (zA (eI F ls) (.int .i64 0)))(hd:aI S 75 [.one (.p (eI F ls)),lZ k a b c l o sg] res)(fin:(∃e,res=uI e)\/ ∃L,res=rX F L):
  aI S 47 [dX F ls,lZ k a b c l o sg] res:=by
 have lo:S.lone 3008256128=false:=ah;refine aZ c47 ?_;rcases fin with ⟨e,rfl⟩|⟨L,rfl⟩
 .simp only[go_sem,i47,s74,cJ po fL,s75,cJ hd ami];rfl
 simp only[go_sem,i47,s74,cJ po fL,s75];refine Ii hd lo fun cc bK gc hb=>?_;have b4:=hb 3008000128 ae;simp only[go_sem] at b4;simp only[go_sem,b4];exact Ll (gc.of_eq (aS ae))
theorem rQ{n:Nat}{i:Int}(h:jR n i=true):∃k:Nat,i=(k:Int)/\k<n:=by unfold jR at h;simp at h;exact⟨i.toNat,aa,aa⟩
theorem Vf(l:List Pc)(drop:Nat->Pc->Bool):(pz l drop).length<=l.length:=Gr l drop l.length
theorem aeQ(l:List Pc)(i:Nat)(g r:Int):(Qk l i g r).length=l.length:=by simp[Qk]
theorem anC{F:Nat}{k:Int}{a b c:Nat}{l o:Bool}{sg:Int}{L:List Pc}(h:tN F ls k a b c l o sg=some L):L.length<=ls.length+4:=by
 have hp:=fW ls;unfold tN at h;repeat' split at h
 .unfold zL at h;simp only at h;split at h
  .cases h;have:=Vf (pieces ls) (fun k _=>decide (k=a)||decide (k=(a+1)%ls.length));simp only[kn,cM];omega
  cases h
 .unfold amR at h;split at h
  .cases h;simp only[NF,Pa,kn,cM,dh,ff];omega
  split at h
  .cases h;simp only[NF,Pa,kn,cM,dh,ff];omega
  cases h
 .unfold zN at h;split at h
  .cases h;simp only[Bh,Bd];omega
  cases h
 .unfold AO at h;simp only at h;split at h
  .cases h;have:=Vf (pieces ls) (uh [((pieces ls).getD a ⟨lh,false⟩).l.id]);simp only[HR,cM];omega
  cases h
 .cases h;simp only[lmR,Pa,dh,ff];omega
 .unfold A1 at h;split at h
  .cases h;have:=Vf (pieces ls) (uh [(pA ls a).l.id,(pA ls (nx ls a)).l.id]);simp only[HR,cM];omega
  cases h
 .have key:∀s t,pmV ls a b l o s t=some L->L.length<=ls.length+4:=fun s t h=>by
   unfold pmV at h;split at h
   .cases h
   simp only[fI] at h;subst h;have h2:∀x sg o s,(pmS x sg o s).length=2:=fun x sg o s=>by unfold pmS;split<;>rfl
   split<;>simp only[Pa,h2,dh,ff]<;>omega
  unfold pmR at h;split at h
  .exact key _ _ h
  exact key _ _ h
 .unfold xY at h;split at h
  .cases h;simp only[Bh];omega
  cases h
 .unfold trR at h;split at h
  .cases h;simp only[aeQ,kn,cM];omega
  cases h
 unfold tlR at h;split at h
 .cases h;simp only[aeQ,kn,cM];omega
 cases h
abbrev lA(ls:List Let)(i:Nat):Let:=ls.getD i lh
theorem Pn{i:Nat}{l:Let}(h:ls[i]?=some l):lA ls i=l:=by rw[lA,dq,h];rfl
theorem AN{i:Nat}(h:i<ls.length):ls[i]?=some (lA ls i):=by obtain⟨l,hl⟩:=aL h;rw[Pn hl,hl]
theorem szL(l:List Let):ie 6 (dw l)=true:=by simp[ie,Let.ps]
theorem amF(a b:List Let):dw (a++b)=dw a++dw b:=ll
theorem amH{L:List Let}(h:L≠[]):dw L≠[]:=by simpa [dw] using h
def leq(a b:Let):Bool:=(a.kind==b.kind)&&((a.gate==b.gate)&&((a.aD==b.aD)&&((a.id==b.id)&&((a.sign==b.sign)&&(a.over==b.over)))))
theorem Sj(x y:Let):ui [true,true,true,true,true,false] [.p (.int .i64 x.kind),.p (.int .i64 x.gate),.p (.int .i64 x.aD),.p (.int .i64 x.id),.p (.int .i64 x.sign),.p (.bool x.over)] [.p (.int .i64 y.kind),.p (.int .i64 y.gate),.p (.int .i64 y.aD),.p (.int .i64 y.id),.p (.int .i64 y.sign),.p (.bool y.over)]=some (leq x y):=by
 have e:∀a b:Int,tq true (.int .i64 a) (.int .i64 b)=some (a==b):=fun a b=>by simp[tq]
 have e2:∀a b:Bool,tq false (.bool a) (.bool b)=some (a==b):=fun a b=>by simp[tq]
 simp only[ui,leq,e,e2];cases (x.kind==y.kind)<;>cases (x.gate==y.gate)<;>cases (x.aD==y.aD)<;>cases (x.id==y.id)<;>cases (x.sign==y.sign)<;>cases (x.over==y.over)<;>rfl
theorem I6(x:Let):leq x x=true:=by simp[leq]
theorem V5(L:List Let)(k:Nat)(hk:k<=L.length)(hl:L.length<=1000000):aI S 20 [.one (.p (cF L)),vi k] (.one (aT jI 6 (dw (L.drop k++L.take k)))):=by
 have hs6:=szL L;have v7:List.take (L.length-k) (List.drop k (dw L))=dw (L.drop k):=by rw[gR af];simp[List.map_drop]
 have mq:List.take k (dw L)=dw (L.take k):=by simp[List.map_take]
 rw[amF];refine aZ c20 ?_;simp only[go_sem,i20,hk,hs6,v7];refine zR (id:=1280064192) (bytes:=48) grown.nil (xs:=dw (L.drop k)) (rd:=[]) rfl (.inr (szL _)) (by simp;omega) fun c1 bK r w g1 cD hw=>?_;rw[gD] at g1;simp only[go_sem,hk,hs6,mq];refine zR (bytes:=48) g1 (xs:=dw (L.take k)) (rd:=[]) rfl (.inr (szL _)) (by simp;omega) fun c2 bh r2 w2 g2 bj hw2=>?_;simp only[go_sem];refine⟨?_,yN g2⟩;rcases hw with ⟨rfl,rfl⟩|⟨rfl,rfl⟩|⟨rfl,rfl⟩<;>rcases hw2 with ⟨rfl,rfl⟩|⟨rfl,rfl⟩|⟨rfl,rfl⟩<;>kernel_rfl

theorem Hn{S:Sys}{f:Nat}{fn:aX}{args:List V}{P:RV->Prop}(hp:S.prim f args=none)(hf:S.fns f=some fn)(hl:args.length<=fn.ntmps)
  (h:W S .all fn.body (mJ .all fn.results fun v aj=>∃r,P r/\iU aj v=some r) (rL args) zo):∃r,P r/\aI S f args r:=by
 obtain⟨n,v,ao,h1,r,h3,h2⟩:=QV h;refine⟨r,h3,n+1,?_⟩;rw[gn];simp only[hp,hf,hl,if_true];unfold EP;simp only[h1,h2]
theorem XT{l:List Let}(aH:l≠[])(hl:l.length<=1000000):aI S 44 [.one (.p (cF l))] (.one (aT jI 6 (dw l))):=by
 have hs:((dw l).all fun e=>e.length==6)=true:=szL l;have hr:(0+(dw l).length)*48<=room:=by unfold room;rw[cM];omega
 show aI S _ [.one (.p (.sl (dw l)))] _;obtain⟨e0,es,hq⟩:∃e0 es,dw l=e0::es:=by cases l with
  |nil=>exact absurd rfl aH
  |cons a t=>exact⟨_,_,rfl⟩
 rw[hq] at hs hr ⊢;refine aZ c44 ?_;have aH:e0::es≠[]:=af;have rH:aT jI 6 (e0::es)=.own jI 6 (e0::es):=if_neg aH;rw[rH];unfold room at hr;simp only[kU,dh] at hr;simp only[mB] at hs;simp only[go_sem,i44,fQ,ie];simp only[hs,hr,not_true_eq_false,if_true,if_false];simp only[go_sem];exact Jm wM rfl
abbrev ML(M:List (Int×Int)):List (PV×List PV):=M.map fun e=>(PV.int .i64 e.1,[PV.int .i64 e.2])
def La:List (Int×Int)->Int->Nat->Option (Nat×Int)
 |[],_,_=>none
 |(a,v)::r,x,i=>if x==a then some (i,v) else La r x (i+1)
theorem Z7(M:List (Int×Int))(x:Int):∀i,oO (.int .i64 x) (ML M) i=some ((La M x i).map fun p=>(p.1,[PV.int .i64 p.2])):=by
 induction M with
 |nil=>intro i;rfl
 |cons e M ih=>
  intro i;obtain⟨a,v⟩:=e;show oO (.int .i64 x) ((PV.int .i64 a,[PV.int .i64 v])::ML M) i=_;unfold oO;have hs:sameKey (.int .i64 x) (.int .i64 a)=some (x==a):=by simp[sameKey]
  rw[hs];unfold La;cases (x==a) with
  |true=>rfl
  |false=>exact ih (i+1)
theorem ade(M:List (Int×Int))(x v:Int):ML M++[(PV.int .i64 x,[PV.int .i64 v])]=ML (M++[(x,v)]):=af
theorem acM(l:List Let)(k:Nat)(p:Let):(dw l).set k p.ps=dw (l.set k p):=by simp[List.map_set]
theorem acH{e:List PV}(h:e.length=6):∃x0 x1 x2 x3 x4 x5,e=[x0,x1,x2,x3,x4,x5]:=by
 match e,h with
 |[x0,x1,x2,x3,x4,x5],_=>exact⟨_,_,_,_,_,_,rfl⟩
theorem apv{al:Al}{aj:aA}{id:Nat}{es:List (List PV)}{c:C}(o:es=[]\/al.ok id=true)(hl:es.length<=1000000)(mL:∀e∈es,e.length=6/\ ∀v∈e,v.norm=v)(h:grown id ty 6 es (.one c) aj):
  ∃v ao,iK S 45 [.one c] al aj v ao/\GL id ty 6 es c aj v ao:=by
 refine mF c45 (iv rfl) ?_;rcases h with ⟨rfl,h2⟩|⟨aH,g,h2,hC⟩
 .cases h2;have w0:IntKind.i64.wrap (((0:Nat):Int)-1)= -1:=ae;have hz:¬((0:Int)< -1):=ae;simp only[go_sem,i45,w0];refine cV (fun k ak ao=>k=0/\ak 2=vi 0/\ak 3=vi (-1)/\ao=aj) 0 0 (bN _) ?_ ?_
  .simp only[go_sem]
  rintro k ak ao _ ⟨rfl,h2,h3,rfl⟩
  simp only[go_sem,i45_l1,h2,h3,hz];exact⟨rfl,.inl ⟨rfl,rfl⟩,fun _ _=>rfl⟩
 cases h2;have o:=o.resolve_left aH;have w0:=ye (a:=es.length) aa;simp only[go_sem,i45,w0];refine cV (fun k ak ao=>ak 0=.one (.hsl id g 6 0 es.length)/\ak 2=vi k/\ak 3=vi ((es.length:Int)-1-(k:Int))/\ ∃fs,ao id=(g,some (.arr ty 6 fs))/\wI es fs k/\Kept (· =id) aj ao) 0 es.length (bG _) ?_ ?_
 .simp only[go_sem];refine⟨rfl,af,es,hC,wI.start es,Kept.refl _ _⟩
 rintro k ak ao hk ⟨h0,h2,h3,fs,hF,hI,dd⟩
 by_cases ay:k<es.length-1-k
 .have e1:((es.length:Int)-1-(k:Int))=((es.length-1-k:Nat):Int):=aa;rw[e1] at h3;have aJ:((k:Int)<((es.length-1-k:Nat):Int)):=aa;have w1:=cn (n:=k) aa;have w2:IntKind.i64.wrap (((es.length-1-k:Nat):Int)-1)=((es.length:Int)-1-((k+1:Nat):Int)):=by
   rw[ye aa];omega
  obtain⟨a,ha⟩:=aL (show k<es.length by omega);obtain⟨b,hb⟩:=aL (show es.length-1-k<es.length by omega);obtain⟨fa,fb,vW⟩:=hI.step ay ha hb;obtain⟨la,na⟩:=mL a (aU ha);obtain⟨lb,nb⟩:=mL b (aU hb);obtain⟨x0,x1,x2,x3,x4,x5,rfl⟩:=acH la;obtain⟨y0,y1,y2,y3,y4,y5,rfl⟩:=acH lb;have Me:=na x0 af;have UN:=na x1 af;have ak7:=na x2 af;have ak8:=na x3 af;have ak9:=na x4 af;have ala:=na x5 af;have Mf:=nb y0 af;have UO:=nb y1 af;have alb:=nb y2 af;have alc:=nb y3 af;have ald:=nb y4 af;have ale:=nb y5 af;have xE:=hI.len;have F4:¬(k=es.length-1-k):=aa;have aa6:¬(es.length-1-k=k):=aa;have l1:k<fs.length:=aa;have l2:es.length-1-k<fs.length:=aa;have l3:k<es.length:=aa;have l4:es.length-1-k<es.length:=aa
  simp only[go_sem,i45_l1,h0,h2,h3,hF,aJ,fa,fb,w1,w2,o,l1,l3,l4,F4,Me,UN,ak7,ak8,ak9,ala,Mf,UO,alb,alc,ald,ale,pN];refine⟨aG,_,rfl,vW,?_⟩;exact(dd.dK rfl _).dK rfl _
 have aJ:¬((k:Int)<(es.length:Int)-1-(k:Int)):=aa;simp only[go_sem,i45_l1,h2,h3,aJ];refine⟨rfl,?_,dd⟩;rw[hI.done ay] at hF;exact .inr ⟨by simpa using aH,g,by rw[qW],hF⟩
theorem amJ(l:List Let):∀e∈dw l,e.length=6/\ ∀v∈e,v.norm=v:=fun e he=>by obtain⟨x,_,rfl⟩:=dQ.1 he;refine⟨rfl,fun v hv=>?_⟩;simp only[Let.ps,cP,jz,or_false] at hv;rcases hv with rfl|rfl|rfl|rfl|rfl|rfl<;>rfl
theorem amI(l:List Let):(dw l).reverse=dw l.reverse:=af
theorem Vt{s:Nat}(h:s/64000000=46):S.lone s=true:=by show EF acT (s/64000000)=true;rw[h];kernel_rfl
theorem Gt{aj:aA}{s:Nat}{L:List Let}(aH:L≠[])(hs:S.lone s=true):land aj [] s ((RV.one (aT jI 6 (dw L))).gK (S.lone s))=some (.one (.p (cF L)),[]):=by rw[hs,ake (amH aH)];unfold land;rw[if_pos (.inl rfl)];rfl

abbrev nQ:Prop:=aI S 44 [.one (.p (.sl []))] (.one (.p (.sl [])))
theorem revE{al:Al}{aj:aA}:∃v ao,iK S 45 [.one (.p (.sl []))] al aj v ao/\(v=.tup []/\ao=aj):=by
 refine mF c45 (iv rfl) ?_;have w0:IntKind.i64.wrap (((0:Nat):Int)-1)= -1:=ae;have hz:¬((0:Int)< -1):=ae;simp only[go_sem,i45,w0];refine cV (fun k ak ao=>k=0/\ak 2=vi 0/\ak 3=vi (-1)/\ao=aj) 0 0 (bN _) ?_ ?_
 .simp only[go_sem]
 rintro k ak ao _ ⟨rfl,h2,h3,rfl⟩
 simp only[go_sem,i45_l1,h2,h3,hz]
theorem Vl{aj:aA}{s:Nat}{x:PV}{l:Bool}:land aj [] s ((RV.one (.p x)).gK l)=some (.one (.p x),[]):=by cases l<;>rfl
theorem Xu(cq:nQ)(F:Int):aI S 22 [.one (.p (uW F))] (.one (.p (.sl []))):=by
 refine aZ c22 ?_;simp only[go_sem,i22,s44,cJ cq Vl,s45];refine rC (P:=fun v ao=>v=.tup []/\ao=zo) za revE ?_;rintro v ao ⟨rfl,rfl⟩
 simp only[go_sem];refine cV (fun k ak aj=>k=0/\ak 3=.one (.p (.sl []))/\ak 15=vi 0/\ak 16=vi 0) 0 0 (bN _) ?_ ?_
 .simp only[go_sem];rfl
 rintro k ak aj _ ⟨rfl,h3,lG,oQ⟩
 have hz:¬((0:Int)<0):=ae;simp only[go_sem,i22_l1,i22_r2,h3,lG,oQ,hz]
theorem anH(cq:nQ)(F:Int):aI S 46 [.one (.p (uW F))] (.agg [.p (.int .i64 F),.p .nils]):=by
 have pb:=Xu cq F;refine aZ c46 ?_;simp only[go_sem,i46,s22,DC pb Vl];refine⟨aG,?_⟩;refine cV (fun k ak aj=>ak 0=.one (.p (uW F))/\ak 2=.one (.aY 2944000000 1 0)/\ak 17=.one (.hsl 2944128448 1 1 0 2)/\ak 18=vi 2/\ak 19=vi k/\ak 3=.one (.p .nils)/\
  aj 2944000000=(1,some (.var [.p (.int .i64 0),.p .nils]))/\aj 2944128448=(1,some (.arr 22 1 [[.sl []],[.sl []]]))) 0 2 (bG _) ?_ ?_
 .simp only[go_sem];first|done|rfl|exact⟨rfl,rfl⟩
 rintro k ak aj hk ⟨h0,h2,jg,gY,iB,h3,b0,bB⟩
 by_cases ay:k<2
 .have UE:k=0\/k=1:=aa;have l02:((0:Nat):Int)<2:=ae;have l12:((1:Nat):Int)<2:=ae;have hz:¬((0:Int)<0):=ae;rcases UE with rfl|rfl
  .simp only[go_sem,i46_l3,jg,gY,iB,bB,l02];refine cV (fun i aC ao=>i=0/\ao=aj/\aC 0=ak 0/\aC 2=ak 2/\aC 17=ak 17/\aC 18=ak 18/\aC 19=ak 19/\aC 3=ak 3/\aC 24=vi 0/\aC 25=vi 0) 0 0 (bN _) ?_ ?_
   .simp only[go_sem];first|done|rfl|exact⟨rfl,rfl⟩
   rintro i aC ao _ ⟨rfl,rfl,e0,e2,HS,HT,e19,e3,e24,e25⟩
   simp only[go_sem,i46_l1,i46_r2,e0,e2,HS,HT,e19,e3,e24,e25,h0,h2,h3,jg,gY,iB,b0,bB,hz];first|done|rfl|exact⟨rfl,rfl⟩
  simp only[go_sem,i46_l3,jg,gY,iB,bB,l12];refine cV (fun i aC ao=>i=0/\ao=aj/\aC 0=ak 0/\aC 2=ak 2/\aC 17=ak 17/\aC 18=ak 18/\aC 19=ak 19/\aC 3=ak 3/\aC 24=vi 0/\aC 25=vi 0) 0 0 (bN _) ?_ ?_
  .simp only[go_sem];first|done|rfl|exact⟨rfl,rfl⟩
  rintro i aC ao _ ⟨rfl,rfl,e0,e2,HS,HT,e19,e3,e24,e25⟩
  simp only[go_sem,i46_l1,i46_r2,e0,e2,HS,HT,e19,e3,e24,e25,h0,h2,h3,jg,gY,iB,b0,bB,hz];first|done|rfl|exact⟨rfl,rfl⟩
 have:k=2:=aa;subst this;have l22:¬(((2:Nat):Int)<2):=ae;simp only[go_sem,i46_l3,i46_r4,h0,h2,h3,gY,iB,b0,l22];first|done|rfl|exact⟨rfl,rfl⟩
theorem ahS:nQ:=⟨1,ah⟩
theorem amh{aj:aA}{s:Nat}{x c:PV}{l:Bool}:land aj [] s ((RV.agg [.p x,.p c]).gK l)=some (.agg [.p x,.p c],[]):=by cases l<;>rfl

theorem ED{aj:aA}{s:Nat}{x c e:PV}{l:Bool}:land aj [] s ((RV.tup [.agg [.p x,.p c],.one (.p e)]).gK l)=some (.tup [.agg [.p x,.p c],.one (.p e)],[]):=by cases l<;>rfl

structure bd where
 k:Int
 a:Int
 b:Int
 c:Int
 l:Bool
 o:Bool
 s:Int
def bd.ps(m:bd):List PV:=[.int .i64 m.k,.int .i64 m.a,.int .i64 m.b,.int .i64 m.c,.bool m.l,.bool m.o,.int .i64 m.s]
abbrev kK(ms:List bd):PV:=.sl (ms.map bd.ps)
theorem I8{ms:List bd}{k:Nat}{m:bd}(h:ms[k]?=some m):(ms.map bd.ps)[k]?=some m.ps:=by rw[fZ,h];rfl
def KD(L:List Let)(c:C)(aj:aA):Prop:=grown 4160256128 jI 6 (dw L) (.one c) aj\/grown 4160512129 jI 6 (dw L) (.one c) aj\/(L=[]/\c=.p (.sl []))
theorem KD.snap{L:List Let}{c:C}{aj:aA}(h:KD L c aj):∃r,Go.Abs.snap aj fH c=some (cF L,r):=by
 rcases h with h|h|⟨rfl,rfl⟩
 .obtain⟨r,h1,_⟩:=h.fH;exact⟨r,h1⟩
 .obtain⟨r,h1,_⟩:=h.fH;exact⟨r,h1⟩
 exact⟨[],rfl⟩
theorem KD.of_eq{L:List Let}{c:C}{aj ao:aA}(h:KD L c aj)(h1:ao 4160256128=aj 4160256128)(h2:ao 4160512129=aj 4160512129):KD L c ao:=by
 rcases h with h|h|h
 .exact .inl (h.of_eq h1)
 .exact .inr (.inl (h.of_eq h2))
 exact .inr (.inr h)
theorem amj{aj:aA}{rd:List Nat}{s:Nat}{e:Int}{l:Bool}:land aj rd s ((uI e).gK l)=some (.tup [.agg [.p (.int .i64 0),.p .nils],.one (.p (.int .i64 e))],[]):=by cases l<;>(unfold land;rw[if_pos (.inr rfl)];rfl)
def isN(r:RV):Prop:= ∃i:Int,r=ri i
abbrev Gy(m:bd):V:=lZ m.k m.a m.b m.c m.l m.o m.s
section
variable {Q:dA} {ak:Env} {aj:aA} {os:List aO} {d:Option Nat}
end
def KC(s:Nat)(L:List Let)(c:C)(aj:aA):Prop:=grown s jI 6 (dw L) (.one c) aj\/(L=[]/\c=.p (.sl []))
theorem KC.snap{s:Nat}{L:List Let}{c:C}{aj:aA}(h:KC s L c aj):∃r,Go.Abs.snap aj fH c=some (cF L,r):=by
 rcases h with h|⟨rfl,rfl⟩
 .obtain⟨r,h1,_⟩:=h.fH;exact⟨r,h1⟩
 exact⟨[],rfl⟩
theorem KC.of_eq{s:Nat}{L:List Let}{c:C}{aj ao:aA}(h:KC s L c aj)(h1:ao s=aj s):KC s L c ao:=by
 rcases h with h|h
 .exact .inl (h.of_eq h1)
 exact .inr h
section
variable {Q:dA} {ak:Env} {aj:aA} {os:List aO} {d:Option Nat}
end
end
end Go.Abs
