/- A part. -/
import Derived.Test.YtaajncoljnafjaaGreatDoorWw
set_option linter.all false
set_option maxRecDepth 100000
set_option maxHeartbeats 16000000
namespace Go.Abs
section
variable{ls:ai}{x:Int}{F ty:Nat}{ws:d_}
section
attribute [local go_sem ↓] fm1 fm2
def di(F:Nat)(ls:ai)(k a b c:Int)(l o:Bool)(sg:Int):Bool:=
 if k=2 then !l&&(!o&&(sg==0&&((jD ls.length a||(ls.length==0&&a==0))&&(decide (0<=b)&&(decide (b<=(F:Int))&&(decide (0<=c)&&decide (c<=(cg ls b.toNat:Int))))))))
 else if k=3\/k=6 then !l&&(!o&&(sg==0&&(jD ls.length a&&(c==0&&(jD ls.length b&&decide (a<b))))))
 else if k=5 then !l&&((sg==1||sg== -1)&&(jD ls.length a&&(b==0&&c==0)))
 else if k=7 then sg==0&&(jD ls.length a&&(c==0&&(jD ls.length b&& !(a==b))))
 else if k=8 then !l&&(!o&&(sg==0&&(jD ls.length a&&(jD ls.length b&&(jD ls.length c&&(decide (a<b)&&decide (b<c)))))))
 else if k=1\/k=4\/k=9\/k=10 then !l&&(!o&&(sg==0&&(jD ls.length a&&(b==0&&c==0))))
 else false
def pZ{i:Int}{x:Bool}(h:jD ls.length i=x):aK S 111 [vi i,.one (.p (.box [.int .i64 ls.length]))] (rb x):=h▸is_p i ls.length
def rA(h:¬x=0):(x==0)=false/\(x !=0)=true:=by simp[h]
def xV{y:Int}(h:¬x=y):(x==y)=false/\(x !=y)=true:=by simp[h]
section
variable {F:Nat} {ls:ai} {a b c:Int} {l o:Bool} {sg:Int}
def Qo{k:Int}(hk:k=1\/k=4\/k=9\/k=10):aK S 82 [.one (.p (fp F ls)),qj k a b c l o sg] (rb (di F ls k a b c l o sg)):=by
 obtain⟨v,hv⟩:∃v,di F ls k a b c l o sg=v:=⟨_,rfl⟩;rw[hv];rcases hk with rfl|rfl|rfl|rfl
 all_goals
  refine bt c82 ?_;simp only[go_sem,i82,eY];refine jq [0,3,4,5,6,7,8,9,10,41] fun e1 lf=>?_;simp only[go_sem]at lf;cases l with
  |true=>
   obtain rfl:v=false:=by rw[<-hv];simp[di]
   simp only[go_sem,lf]
  |false=>
   simp only[go_sem,lf];refine jq [0,3,4,5,6,7,8,9,10,53] fun e2 jJ=>?_;simp only[go_sem,lf]at jJ;cases o with
   |true=>
    obtain rfl:v=false:=by rw[<-hv];simp[di]
    simp only[go_sem,jJ]
   |false=>
    simp only[go_sem,jJ];refine jq [0,3,4,5,6,7,8,9,10,60] fun e3 jK=>?_;simp only[go_sem,jJ]at jK;by_cases hs:sg=0
    rotate_left
    .have kM:=(rA hs).1;have fO:=(rA hs).2;obtain rfl:v=false:=by rw[<-hv];simp[di,hs]
     simp only[go_sem,jK,fO]
    subst hs;cases hA:jD ls.length a with
    |false=>
     have pA:=pZ hA;obtain rfl:v=false:=by rw[<-hv];simp[di,hA]
     simp only[go_sem,s111,jK,eD pA]
    |true=>
     have pA:=pZ hA;simp only[go_sem,s111,jK,eD pA];refine jq [3,4,6,7,9,133] fun e4 nO=>?_;simp only[go_sem,jK]at nO;by_cases hb:b=0
     rotate_left
     .have dE:=(rA hb).2;obtain rfl:v=false:=by rw[<-hv];simp[di,hA,hb]
      simp only[go_sem,nO,dE]
     subst hb;simp only[go_sem,nO];refine jq [3,4,6,7,9,142] fun e5 ub=>?_;simp only[go_sem,nO]at ub;by_cases hc:c=0
     rotate_left
     .have je:=(rA hc).2;obtain rfl:v=false:=by rw[<-hv];simp[di,hA,hc]
      simp only[go_sem,ub,je]
     subst hc;obtain rfl:v=true:=by rw[<-hv];simp[di,hA]
     simp only[go_sem,ub]
def alH:aK S 82 [.one (.p (fp F ls)),qj 2 a b c l o sg] (rb (di F ls 2 a b c l o sg)):=by
 obtain⟨v,hv⟩:∃v,di F ls 2 a b c l o sg=v:=⟨_,rfl⟩;rw[hv];refine bt c82 ?_;simp only[go_sem,i82,eY];refine jq [0,3,4,5,6,7,8,9,10,41] fun e1 lf=>?_;simp only[go_sem]at lf;cases l with
 |true=>
  obtain rfl:v=false:=by rw[<-hv];simp[di]
  simp only[go_sem,lf]
 |false=>
  simp only[go_sem,lf];refine jq [0,3,4,5,6,7,8,9,10,53] fun e2 jJ=>?_;simp only[go_sem,lf]at jJ;cases o with
  |true=>
   obtain rfl:v=false:=by rw[<-hv];simp[di]
   simp only[go_sem,jJ]
  |false=>
   simp only[go_sem,jJ];refine jq [0,3,4,5,6,7,8,9,10,60] fun e3 jK=>?_;simp only[go_sem,jJ]at jK;by_cases hs:sg=0
   rotate_left
   .have kM:=(rA hs).1;have fO:=(rA hs).2;obtain rfl:v=false:=by rw[<-hv];simp[di,hs]
    simp only[go_sem,jK,fO]
   subst hs;cases hA:jD ls.length a with
   |true=>
    have pA:=pZ hA;simp only[go_sem,s111,jK,mZ pA];refine wR [0,3,4,6,7,9,92] fun e4 nO=>?_;simp only[go_sem,jK]at nO;by_cases tY:0<=b
    rotate_left
    .obtain rfl:v=false:=by rw[<-hv];simp[di,hA,tY]
     simp only[go_sem,nO,tY];exact aJ
    simp only[go_sem,nO,tY];refine wR [0,3,4,6,7,9,101] fun e5 ub=>?_;simp only[go_sem,nO]at ub;by_cases vI:b<=(F:Int)
    rotate_left
    .obtain rfl:v=false:=by rw[<-hv];simp[di,hA,tY,vI]
     simp only[go_sem,ub,vI];exact aJ
    obtain⟨B,rfl⟩:=tJ tY;have hBF:B<=F:=aa;have yl:=kN (QF (ls:=ls) hBF);have h5:B<F+1:=aa;have h6:(counts ls F).length=F+1:=by simp[counts]
    simp only[go_sem,ub,vI];refine wR [0,3,4,6,7,9,106] fun e6 FU=>?_;simp only[go_sem,ub]at FU;by_cases ye:0<=c
    rotate_left
    .obtain rfl:v=false:=by rw[<-hv];simp[di,hA,tY,vI,ye]
     simp only[go_sem,FU,ye];exact aJ
    by_cases DU:c<=(cg ls B:Int)
    rotate_left
    .obtain rfl:v=false:=by rw[<-hv];simp[di,hA,tY,vI,ye,DU]
     simp only[go_sem,yl,FU,ye,DU];exact aJ
    obtain rfl:v=true:=by rw[<-hv];simp[di,hA,tY,vI,ye,DU]
    simp only[go_sem,yl,FU,ye,DU];exact aJ
   |false=>
    have pA:=pZ hA;by_cases hn:ls.length=0
    rotate_left
    .have uW:((ls.length:Int)==0)=false:=beq_false_of_ne aa;have Ol:ls≠[]:=fun h=>hn (by rw[h];rfl);obtain rfl:v=false:=by rw[<-hv];simp[di,hA,hn]
     simp only[go_sem,s111,jK,mZ pA,uW];exact aJ
    have uW:((ls.length:Int)==0)=true:=by rw[hn];rfl
    have Ol:=GD.mp hn;by_cases ha:a=0
    rotate_left
    .have DW:=(rA ha).1;obtain rfl:v=false:=by rw[<-hv];simp[di,Ol,ha,show jD 0 a=false by rw[<-hn];exact hA]
     simp only[go_sem,s111,jK,mZ pA,uW,DW];exact aJ
    subst ha;simp only[go_sem,s111,jK,mZ pA,uW];refine wR [0,3,4,6,7,9,92] fun e7 hh7=>?_;simp only[go_sem,jK]at hh7;by_cases tY:0<=b
    rotate_left
    .obtain rfl:v=false:=by rw[<-hv];simp[di,hn,tY]
     simp only[go_sem,hh7,tY];exact aJ
    simp only[go_sem,hh7,tY];refine wR [0,3,4,6,7,9,101] fun e8 hh8=>?_;simp only[go_sem,hh7]at hh8;by_cases vI:b<=(F:Int)
    rotate_left
    .obtain rfl:v=false:=by rw[<-hv];simp[di,hn,tY,vI]
     simp only[go_sem,hh8,vI];exact aJ
    obtain⟨B,rfl⟩:=tJ tY;have hBF:B<=F:=aa;have yl:=kN (QF (ls:=ls) hBF);have h5:B<F+1:=aa;have h6:(counts ls F).length=F+1:=by simp[counts]
    simp only[go_sem,hh8,vI];refine wR [0,3,4,6,7,9,106] fun e9 hh9=>?_;simp only[go_sem,hh8]at hh9;by_cases ye:0<=c
    rotate_left
    .obtain rfl:v=false:=by rw[<-hv];simp[di,hn,tY,vI,ye]
     simp only[go_sem,hh9,ye];exact aJ
    by_cases DU:c<=(cg ls B:Int)
    rotate_left
    .obtain rfl:v=false:=by rw[<-hv];simp[di,hn,tY,vI,ye,DU]
     simp only[go_sem,yl,hh9,ye,DU];exact aJ
    obtain rfl:v=true:=by rw[<-hv];simp[di,hn,tY,vI,ye,DU]
    simp only[go_sem,yl,hh9,ye,DU];exact aJ
def abf{k:Int}(hk:k=3\/k=6):aK S 82 [.one (.p (fp F ls)),qj k a b c l o sg] (rb (di F ls k a b c l o sg)):=by
 obtain⟨v,hv⟩:∃v,di F ls k a b c l o sg=v:=⟨_,rfl⟩;rw[hv];rcases hk with rfl|rfl
 all_goals
  refine bt c82 ?_;simp only[go_sem,i82,eY];refine jq [0,3,4,5,6,7,8,9,10,41] fun e1 lf=>?_;simp only[go_sem]at lf;cases l with
  |true=>
   obtain rfl:v=false:=by rw[<-hv];simp[di]
   simp only[go_sem,lf]
  |false=>
   simp only[go_sem,lf];refine jq [0,3,4,5,6,7,8,9,10,53] fun e2 jJ=>?_;simp only[go_sem,lf]at jJ;cases o with
   |true=>
    obtain rfl:v=false:=by rw[<-hv];simp[di]
    simp only[go_sem,jJ]
   |false=>
    simp only[go_sem,jJ];refine jq [0,3,4,5,6,7,8,9,10,60] fun e3 jK=>?_;simp only[go_sem,jJ]at jK;by_cases hs:sg=0
    rotate_left
    .have kM:=(rA hs).1;have fO:=(rA hs).2;obtain rfl:v=false:=by rw[<-hv];simp[di,hs]
     simp only[go_sem,jK,fO]
    subst hs;cases hA:jD ls.length a with
    |false=>
     have pA:=pZ hA;obtain rfl:v=false:=by rw[<-hv];simp[di,hA]
     simp only[go_sem,s111,jK,eD pA]
    |true=>
     have pA:=pZ hA;simp only[go_sem,s111,jK,eD pA];refine jq [3,4,6,7,9,142] fun e4 nO=>?_;simp only[go_sem,jK]at nO;by_cases hc:c=0
     rotate_left
     .have je:=(rA hc).2;obtain rfl:v=false:=by rw[<-hv];simp[di,hA,hc]
      simp only[go_sem,nO,je]
     subst hc;cases hB:jD ls.length b with
     |false=>
      have pB:=pZ hB;obtain rfl:v=false:=by rw[<-hv];simp[di,hA,hB]
      simp only[go_sem,s111,nO,eD pB]
     |true=>
      have pB:=pZ hB;simp only[go_sem,s111,nO,eD pB];refine jq [3,4,7,172,178] fun e5 ub=>?_;simp only[go_sem,nO]at ub;by_cases hl:a<b
      rotate_left
      .obtain rfl:v=false:=by rw[<-hv];simp[di,hA,hB,hl]
       simp only[go_sem,ub,hl]
      obtain rfl:v=true:=by rw[<-hv];simp[di,hA,hB,hl]
      simp only[go_sem,ub,hl]
def alI:aK S 82 [.one (.p (fp F ls)),qj 5 a b c l o sg] (rb (di F ls 5 a b c l o sg)):=by
 obtain⟨v,hv⟩:∃v,di F ls 5 a b c l o sg=v:=⟨_,rfl⟩;rw[hv];refine bt c82 ?_;simp only[go_sem,i82,eY];refine jq [0,3,4,5,6,7,8,9,10,41] fun e1 lf=>?_;simp only[go_sem]at lf;cases l with
 |true=>
  obtain rfl:v=false:=by rw[<-hv];simp[di]
  simp only[go_sem,lf]
 |false=>
  simp only[go_sem,lf];refine jq [0,3,4,5,6,7,8,9,10,60] fun e2 jJ=>?_;simp only[go_sem,lf]at jJ;by_cases q0:sg=0
  .subst q0;obtain rfl:v=false:=by rw[<-hv];simp[di]
   simp only[go_sem,jJ]
  by_cases q1:sg=1
  rotate_left;by_cases q2:sg= -1
  rotate_left
  .have Nx:=(rA q0).2;have ie:=(xV q1).2;have ya:=(xV q2).2;obtain rfl:v=false:=by rw[<-hv];simp[di,q1,q2]
   simp only[go_sem,jJ,Nx,ie,ya]
  .subst q1;cases hA:jD ls.length a with
   |false=>
    have pA:=pZ hA;obtain rfl:v=false:=by rw[<-hv];simp[di,hA]
    simp only[go_sem,s111,jJ,eD pA]
   |true=>
    have pA:=pZ hA;simp only[go_sem,s111,jJ,eD pA];refine jq [3,4,6,7,9,133] fun e3 jK=>?_;simp only[go_sem,jJ]at jK;by_cases hb:b=0
    rotate_left
    .have dE:=(rA hb).2;obtain rfl:v=false:=by rw[<-hv];simp[di,hA,hb]
     simp only[go_sem,jK,dE]
    subst hb;simp only[go_sem,jK];refine jq [3,4,6,7,9,142] fun e4 nO=>?_;simp only[go_sem,jK]at nO;by_cases hc:c=0
    rotate_left
    .have je:=(rA hc).2;obtain rfl:v=false:=by rw[<-hv];simp[di,hA,hc]
     simp only[go_sem,nO,je]
    subst hc;obtain rfl:v=true:=by rw[<-hv];simp[di,hA]
    simp only[go_sem,nO]
  subst q2;cases hA:jD ls.length a with
  |false=>
   have pA:=pZ hA;obtain rfl:v=false:=by rw[<-hv];simp[di,hA]
   simp only[go_sem,s111,jJ,eD pA]
  |true=>
   have pA:=pZ hA;simp only[go_sem,s111,jJ,eD pA];refine jq [3,4,6,7,9,133] fun e5 ub=>?_;simp only[go_sem,jJ]at ub;by_cases hb:b=0
   rotate_left
   .have dE:=(rA hb).2;obtain rfl:v=false:=by rw[<-hv];simp[di,hA,hb]
    simp only[go_sem,ub,dE]
   subst hb;simp only[go_sem,ub];refine jq [3,4,6,7,9,142] fun e6 FU=>?_;simp only[go_sem,ub]at FU;by_cases hc:c=0
   rotate_left
   .have je:=(rA hc).2;obtain rfl:v=false:=by rw[<-hv];simp[di,hA,hc]
    simp only[go_sem,FU,je]
   subst hc;obtain rfl:v=true:=by rw[<-hv];simp[di,hA]
   simp only[go_sem,FU]
end
end
section
attribute [local go_sem ↓] fm1 fm2
section
variable {F:Nat} {ls:ai} {a b c:Int} {l o:Bool} {sg:Int}
def alJ:aK S 82 [.one (.p (fp F ls)),qj 7 a b c l o sg] (rb (di F ls 7 a b c l o sg)):=by
 obtain⟨v,hv⟩:∃v,di F ls 7 a b c l o sg=v:=⟨_,rfl⟩;rw[hv];refine bt c82 ?_;simp only[go_sem,i82,eY];refine jq [0,3,4,5,6,7,8,9,10,60] fun e1 lf=>?_;simp only[go_sem]at lf;by_cases hs:sg=0
 rotate_left
 .have kM:=(rA hs).1;have fO:=(rA hs).2;obtain rfl:v=false:=by rw[<-hv];simp[di,hs]
  simp only[go_sem,lf,fO]
 subst hs;cases hA:jD ls.length a with
 |false=>
  have pA:=pZ hA;obtain rfl:v=false:=by rw[<-hv];simp[di,hA]
  simp only[go_sem,s111,lf,eD pA]
 |true=>
  have pA:=pZ hA;simp only[go_sem,s111,lf,eD pA];refine jq [3,4,6,7,9,142] fun e2 jJ=>?_;simp only[go_sem,lf]at jJ;by_cases hc:c=0
  rotate_left
  .have je:=(rA hc).2;obtain rfl:v=false:=by rw[<-hv];simp[di,hA,hc]
   simp only[go_sem,jJ,je]
  subst hc;cases hB:jD ls.length b with
  |false=>
   have pB:=pZ hB;obtain rfl:v=false:=by rw[<-hv];simp[di,hA,hB]
   simp only[go_sem,s111,jJ,eD pB]
  |true=>
   have pB:=pZ hB;simp only[go_sem,s111,jJ,eD pB];by_cases hn:a=b
   .subst hn;obtain rfl:v=false:=by rw[<-hv];simp[di,hA]
    simp only[go_sem]
   have iL:=(xV hn).2;obtain rfl:v=true:=by rw[<-hv];simp[di,hA,hB,hn]
   simp only[go_sem,iL]
def alK:aK S 82 [.one (.p (fp F ls)),qj 8 a b c l o sg] (rb (di F ls 8 a b c l o sg)):=by
 obtain⟨v,hv⟩:∃v,di F ls 8 a b c l o sg=v:=⟨_,rfl⟩;rw[hv];refine bt c82 ?_;simp only[go_sem,i82,eY];refine jq [0,3,4,5,6,7,8,9,10,41] fun e1 lf=>?_;simp only[go_sem]at lf;cases l with
 |true=>
  obtain rfl:v=false:=by rw[<-hv];simp[di]
  simp only[go_sem,lf]
 |false=>
  simp only[go_sem,lf];refine jq [0,3,4,5,6,7,8,9,10,53] fun e2 jJ=>?_;simp only[go_sem,lf]at jJ;cases o with
  |true=>
   obtain rfl:v=false:=by rw[<-hv];simp[di]
   simp only[go_sem,jJ]
  |false=>
   simp only[go_sem,jJ];refine jq [0,3,4,5,6,7,8,9,10,60] fun e3 jK=>?_;simp only[go_sem,jJ]at jK;by_cases hs:sg=0
   rotate_left
   .have kM:=(rA hs).1;have fO:=(rA hs).2;obtain rfl:v=false:=by rw[<-hv];simp[di,hs]
    simp only[go_sem,jK,fO]
   subst hs;cases hA:jD ls.length a with
   |false=>
    have pA:=pZ hA;obtain rfl:v=false:=by rw[<-hv];simp[di,hA]
    simp only[go_sem,s111,jK,eD pA]
   |true=>
    have pA:=pZ hA;simp only[go_sem,s111,jK,eD pA];cases hB:jD ls.length b with
    |false=>
     have pB:=pZ hB;obtain rfl:v=false:=by rw[<-hv];simp[di,hA,hB]
     simp only[go_sem,jK,eD pB]
    |true=>
     have pB:=pZ hB;cases hD:jD ls.length c with
     |false=>
      have pD:=pZ hD;obtain rfl:v=false:=by rw[<-hv];simp[di,hA,hB,hD]
      simp only[go_sem,s111,jK,eD pB,eD pD]
     |true=>
      have pD:=pZ hD;simp only[go_sem,s111,jK,eD pB,eD pD];refine jq [3,4,7,172,178] fun e4 nO=>?_;simp only[go_sem,jK]at nO;by_cases hl:a<b
      rotate_left
      .obtain rfl:v=false:=by rw[<-hv];simp[di,hA,hB,hD,hl]
       simp only[go_sem,nO,hl]
      by_cases hm:b<c
      rotate_left
      .obtain rfl:v=false:=by rw[<-hv];simp[di,hA,hB,hD,hl,hm]
       simp only[go_sem,nO,hl,hm]
      obtain rfl:v=true:=by rw[<-hv];simp[di,hA,hB,hD,hl,hm]
      simp only[go_sem,nO,hl,hm]
def alG(k:Int):aK S 82 [.one (.p (fp F ls)),qj k a b c l o sg] (rb (di F ls k a b c l o sg)):=by
 by_cases h1:k=1
 .subst h1;exact Qo ae
 by_cases h2:k=2
 .subst h2;exact alH
 by_cases h3:k=3
 .subst h3;exact abf ae
 by_cases h4:k=4
 .subst h4;exact Qo ae
 by_cases h5:k=5
 .subst h5;exact alI
 by_cases h6:k=6
 .subst h6;exact abf ae
 by_cases h7:k=7
 .subst h7;exact alJ
 by_cases h8:k=8
 .subst h8;exact alK
 by_cases h9:k=9
 .subst h9;exact Qo ae
 by_cases fq:k=10
 .subst fq;exact Qo ae
 rw[show di F ls k a b c l o sg=false by simp[di,h1,h2,h3,h4,h5,h6,h7,h8,h9,fq]];have e1:=(xV h1).1;have e2:=(xV h2).1;have e3:=(xV h3).1;have e4:=(xV h4).1;have e5:=(xV h5).1;have e6:=(xV h6).1;have e7:=(xV h7).1;have e8:=(xV h8).1;have e9:=(xV h9).1;have rY:=(xV fq).1;refine bt c82 ?_;simp only[go_sem,i82,eY,e1,e2,e3,e4,e5,e6,e7,e8,e9,rY]
end
end
structure Swo {α:Type} (lt:α->α->Bool):Prop where
 asym:∀a b,lt a b=true->lt b a=false
 ntrans:∀a b c,lt b a=false->lt c b=false->lt c a=false
def xQ{α:Type}(lt:α->α->Bool)(ws:List α)(a b:Nat):Prop:=∀p q x y,a<=p->p<q->q<b->ws[p]?=some x->ws[q]?=some y->lt y x=false
structure Ax {α:Type} (lt:α->α->Bool) (zs ws:List α) (x:α) (a i j:Nat):Prop where
 perm:ws.Perm zs
 le:a<=j/\j<=i/\i<ws.length
 at':ws[j]?=some x
 up:∀p y,j<p->p<=i->ws[p]?=some y->lt x y=true
 so:∀p q y z,a<=p->p<q->q<=i->p≠j->q≠j->ws[p]?=some y->ws[q]?=some z->lt z y=false
 out:∀p,p<a\/i<p->ws[p]?=zs[p]?
def Ax.start{α:Type}{lt:α->α->Bool}{zs:List α}{x:α}{a i:Nat}(ha:a<=i)(hi:zs[i]?=some x)(hs:xQ lt zs a i):Ax lt zs zs x a i i:=
 ⟨.refl _,⟨ha,bY _,(aT.1 hi).1⟩,hi,fun p y h1 h2=>aa,fun p q y z h0 h1 h2 h3 h4=>hs p q y z h0 h1 aa,fun _ _=>rfl⟩
def swap_perm{α:Type}{ws:List α}{i j:Nat}{x y:α}(hi:ws[i]?=some x)(hj:ws[j]?=some y):((ws.set i y).set j x).Perm ws:=by obtain⟨h1,e1⟩:=aT.1 hi;obtain⟨h2,e2⟩:=aT.1 hj;have:=List.set_set_perm h1 h2;rwa[e1,e2]at this
def Ax.step{α:Type}{lt:α->α->Bool}{zs ws:List α}{x y:α}{a i j:Nat}(o:Swo lt)(h:Ax lt zs ws x a i (j+1))(hj:a<=j)(hy:ws[j]?=some y)(aA:lt x y=true):
  Ax lt zs ((ws.set (j+1) y).set j x) x a i j:=by
 obtain⟨hp,⟨_,hle,hl⟩,jI,xm,KM,qL⟩:=h;have HN:j<ws.length:=(aT.1 hy).1;have get:∀p,((ws.set (j+1) y).set j x)[p]?=if p=j then some x else if p=j+1 then some y else ws[p]? :=fun p=>by
  rw[qZ,qZ,ux];by_cases e1:j=p
  .subst e1;simp[HN]
  by_cases e2:j+1=p
  .subst e2;have:¬(j+1=j):=aa;rw[au e1,aD rfl,aD aa,au this,aD rfl]
  rw[au e1,au e2,au (fun h=>e1 h.symm),au (fun h=>e2 h.symm)]
 refine⟨(swap_perm jI hy).trans hp,⟨hj,aa,by simp;omega⟩,by rw[get];simp,?_,?_,?_⟩
 .intro p z h1 h2 hz;rw[get,au aa]at hz;by_cases e:p=j+1
  .rw[aD e]at hz;cases hz;exact aA
  rw[au e]at hz;exact xm p z aa h2 hz
 .intro p q u v h0 h1 h2 h3 h4 hu hv;rw[get,au h3]at hu;rw[get,au h4]at hv;by_cases e:p=j+1
  .rw[aD e]at hu;cases hu;rw[au aa]at hv;exact KM j q _ _ hj aa h2 aa aa hy hv
  rw[au e]at hu;by_cases e2:q=j+1
  .rw[aD e2]at hv;cases hv;exact KM p j _ _ h0 aa aa e aa hu hy
  rw[au e2]at hv;exact KM p q _ _ h0 h1 h2 e e2 hu hv
 intro p fv;rw[get,au aa,au aa,qL p fv]
def Ax.stop{α:Type}{lt:α->α->Bool}{zs ws:List α}{x:α}{a i j:Nat}(o:Swo lt)(h:Ax lt zs ws x a i j)(hj:j=a\/ ∃y,a<j/\ws[j-1]?=some y/\lt x y=false):xQ lt ws a (i+1):=by
 obtain⟨hp,⟨hja,hle,hl⟩,jI,xm,KM,qL⟩:=h;intro p q u v h0 h1 h2 hu hv;by_cases e:q=j
 .subst e;rw[jI]at hv;cases hv;rcases hj with hj|⟨y,Ep,hy,js⟩
  .omega
  by_cases e3:p=q-1
  .subst e3;rw[hy]at hu;cases hu;exact js
  exact o.ntrans _ _ _ (KM p (q-1) _ _ h0 aa aa aa aa hu hy) js
 by_cases e2:p=j
 .subst e2;rw[jI]at hu;cases hu;exact o.asym _ _ (xm q v h1 aa hv)
 exact KM p q u v h0 h1 aa e2 e hu hv
def xQ.mono{α:Type}{lt:α->α->Bool}{ws:List α}{a b c:Nat}(h:xQ lt ws a c)(hb:b<=c\/ws.length<=c):xQ lt ws a b:=fun p q x y h0 h1 h2 hx hy=>h p q x y h0 h1 (by
 rcases hb with hb|hb
 .omega
 have:=(aT.1 hy).1;omega) hx hy
abbrev tA(a b:Int):Bool:=decide (a<b)
def ZU:Swo tA:=⟨fun a b h=>by simp at*;omega,fun a b c h k=>by simp at*;omega⟩
def asX(a:Int):aK S 197 [vi a] (rb false):=by refine bt c197 ?_;have h:(a !=a)=false:=af;simp only[go_sem,i197,h]
def arY(a b:Int):aK S 173 [vi a,vi b] (rb (tA a b)):=by have pn:=asX a;refine bt c173 ?_;simp only[go_sem,i173,s197,eD pn,tA]
def UA(n:Nat)(h:n<=1000000):∃k:Int,aK S 106 [.one (.p (.int .u64 n))] (ri k):=by
 refine⟨((Lib.bitLen n:Nat):Int),⟨1,?_⟩⟩;have hp:S.prim 106 [.one (.p (.int .u64 (n:Int)))]=some (some (ri ((Lib.bitLen n:Nat):Int))):=by show some (Ph [.one (.p (.int .u64 (n:Int)))])=_;simp only[Ph];rw[aD ⟨aa,aa⟩];rfl
 rw[hU,hp]
def Yl(o:d_)(k:Nat)(v:Int):(iP o).set k [.int .i64 v]=iP (o.set k v):=by simp[Mi]
def yA(o:d_):(iP o).length=o.length:=cE _
def Gu(lt:Int->Int->Bool)(id g ty:Nat)(es:d_)(aj:aC)(v:V)(ao:aC):Prop:=v=.tup []/\(∃ws:d_,ao id=(g,some (.arr ty 1 (iP ws)))/\ws.Perm es/\xQ lt ws 0 ws.length)/\Kept (· =id) aj ao
def arb{al:Al}{aj:aC}{id g:Nat}{es:d_}(o:al.ok id=true)(hl:es.length<=1000000)(hC:aj id=(g,some (.arr ty 1 (iP es)))):
  ∃v ao,jg S 167 [.one (.hsl id g 1 0 es.length),vi 0,vi es.length] al aj v ao/\Gu tA id g ty es aj v ao:=by
 refine nL c167 (iH rfl) ?_;have w0:IntKind.i64.wrap (0+1)=((0+1:Nat):Int):=ae;simp only[go_sem,i167];refine dD (fun k ak ao=>ak 0=.one (.hsl id g 1 0 es.length)/\ak 1=vi 0/\ak 2=vi es.length/\ak 6=vi ((k+1:Nat):Int)/\ ∃zs:d_,ao id=(g,some (.arr ty 1 (iP zs)))/\zs.Perm es/\xQ tA zs 0 (k+1)/\Kept (· =id) aj ao) 0 es.length (bR _) ?_ ?_
 .simp only[go_sem];exact⟨rfl,es,hC,.refl _,fun p q x y _ h1 h2=>aa,Kept.refl _ _⟩
 rintro k ak cF hk ⟨h0,h1,h2,h6,zs,hZ,hp,hs,dM⟩
 have mN:=hp.length_eq;by_cases aA:k+1<es.length
 .have aM:((k+1:Nat):Int)<(es.length:Int):=aa;obtain⟨x,hx⟩:=aL (ls:=zs) (k:=k+1) aa;simp only[go_sem,i167_l3,h2,h6,aM];refine dD (fun q ak ao=>ak 0=.one (.hsl id g 1 0 es.length)/\ak 1=vi 0/\ak 2=vi es.length/\ak 6=vi ((k+1:Nat):Int)/\ak 7=vi ((k+1-q:Nat):Int)/\ ∃ws:d_,ao id=(g,some (.arr ty 1 (iP ws)))/\Ax tA zs ws x 0 (k+1) (k+1-q)/\Kept (· =id) aj ao) 0 (k+1) (bR _) ?_ ?_
  .simp only[go_sem,h0,h1,h2,h6];exact⟨zs,hZ,Ax.start (bR _) hx hs,dM⟩
  rintro q dy bn hq ⟨k0,k1,k2,k6,k7,ws,hW,hI,HQ⟩
  have jU:ws.length=es.length:=hI.perm.length_eq.trans mN;have wk:IntKind.i64.wrap (((k+1:Nat):Int)+1)=((k+1+1:Nat):Int):=cU (n:=k+1) aa;by_cases hj0:k+1-q=0
  .have e7:¬((0:Int)<((k+1-q:Nat):Int)):=aa;simp only[go_sem,i167_l1,i167_r2,k0,k1,k2,k6,k7,e7,wk];refine⟨aJ,aa,ws,hW,hI.perm.trans hp,hI.stop ZU (.inl hj0),HQ⟩
  obtain⟨j,hj⟩:∃j,k+1-q=j+1:=⟨k-q,aa⟩;have e7:((0:Int)<((j+1:Nat):Int)):=aa;obtain⟨y,hy⟩:=aL (ls:=ws) (k:=j) aa;rw[hj]at hI k7;have wj:IntKind.i64.wrap (((j+1:Nat):Int)-1)=(j:Int):=by rw[An aa];omega
  have uf:=Ct hI.at';have Ep:=Ct hy;have j1:j+1<es.length:=by have:=hI.le;omega
  have j2:j<es.length:=aa;have pl:=arY x y;cases js:tA x y with
  |false=>rw[js]at pl;simp only[go_sem,i167_l1,i167_r2,k0,k1,k2,k6,k7,e7,wk,wj,hW,uf,Ep,j1,j2,o,s173,QG pl];refine⟨aJ,aa,ws,rfl,hI.perm.trans hp,hI.stop ZU (.inr ⟨y,aa,hy,js⟩),HQ⟩
  |true=>rw[js]at pl;have yf:=hI.step ZU (bR _) hy js;have hjj:¬(j+1=j):=aa;have l1:j+1<ws.length:=aa;have l2:j<ws.length:=aa;simp only[go_sem,i167_l1,i167_r2,k0,k1,k2,k6,k7,e7,wj,hW,uf,Ep,j1,j2,l1,hjj,o,s173,QG pl,qZ,yA];have HW:k+1-(q+1)=j:=aa;refine⟨aJ,aJ,aa,by rw[HW],(ws.set (j+1) y).set j x,by rw[Yl,Yl],by rw[HW];exact yf,(HQ.eh rfl _).eh rfl _⟩
 have aM:¬(((k+1:Nat):Int)<(es.length:Int)):=aa;simp only[go_sem,i167_l3,h2,h6,aM];exact⟨rfl,⟨zs,hZ,hp,hs.mono (.inl aa)⟩,dM⟩
def BU{Q:dX}{al:Al}{ak:Env}{aj:aC}{os:h_}{d:w_}{f id g ty z o n:Nat}{vs:e_}{es:s_}{P:V->aC->Prop}(hC:aj id=(g,some (.arr ty z es)))(se:(vs.map (jF aj)).flatten=[])(hh:al=.all\/al.ok id=true/\(S.sites f).all al.fs.contains=true)
  (h:∀rU,rU.ok id=true->rU.fs=S.sites f->∃v ao,jg S f (.one (.hsl id g z o n)::vs) rU aj v ao/\P v ao)
  (hK:∀v ao,P v ao->RN S al os Q (put ak d v) ao):gP S al (.sc f (.one (.hsl id g z o n)::vs)) d os Q ak aj:=by
 have hr:((V.one (.hsl id g z o n)::vs).map (jF aj)).flatten=[id]:=by rw[ek,mT,se,Zy hC];rfl
 refine r5 (P:=P) ?_ (h _ (tM (by rw[hr];simp)) rfl) hK;rcases hh with rfl|⟨h1,h2⟩
 .rfl
 refine holds_of ?_ h2;show al.fQ ((V.one (.hsl id g z o n)::vs).map (jF aj)).flatten=true;rw[hr];simp[Al.fQ,h1]
def atA{al:Al}{aj:aC}{id g:Nat}{es:d_}(o:al.ok id=true)(f1:al.fs.contains 167=true)(hl:es.length<=12)(hC:aj id=(g,some (.arr ty 1 (iP es))))(lim:Int):
  ∃v ao,jg S 139 [.one (.hsl id g 1 0 es.length),vi 0,vi es.length,vi lim] al aj v ao/\Gu tA id g ty es aj v ao:=by
 refine nL c139 (iH rfl) ?_;have w0:IntKind.i64.wrap ((es.length:Int)-0)=(es.length:Int):=by rw[Int.sub_zero];exact xI aa aa
 have kG:(es.length:Int)<=12:=aa;simp only[go_sem,i139];refine sK ?_;simp only[go_sem,i139_l1,w0,kG,s167];refine BU hC (by rfl) (.inr ⟨o,by rw[show S.sites 167=[167] by kernel_rfl];simp only[nI,qY,f1,yP]⟩) (P:=Gu tA id g ty es aj) (fun rU h1 _=>arb h1 aa hC) fun v ao hP=>?_;obtain⟨rfl,h2⟩:=hP;simp only[go_sem];exact⟨rfl,h2⟩
def ZR{al:Al}{aj:aC}{id g:Nat}{es:d_}(o:al.ok id=true)(f1:(S.sites 139).all al.fs.contains=true)(hl:es.length<=12)(hC:aj id=(g,some (.arr ty 1 (iP es)))):
  ∃v ao,jg S 107 [.one (.hsl id g 1 0 es.length)] al aj v ao/\Gu tA id g ty es aj v ao:=by
 obtain⟨k,pb⟩:=UA es.length aa;have wu:IntKind.u64.wrap (es.length:Int)=(es.length:Int):=by
  have e:IntKind.u64.wrap (es.length:Int)=(es.length:Int)%18446744073709551616:=by unfold IntKind.wrap;rfl
  rw[e];omega
 refine nL c107 (iH rfl) ?_;have sbl:S.shared 106=false:=ah;simp only[go_sem,i107,wu,sbl,FB pb,s139];refine BU hC (by rfl) (.inr ⟨o,f1⟩) (P:=Gu tA id g ty es aj) (fun rU h1 h2=>atA h1 (by rw[h2];kernel_rfl) hl hC k) fun v ao hP=>?_;obtain⟨rfl,h2⟩:=hP;simp only[go_sem];exact⟨rfl,h2⟩
def mI(ws:d_):Nat->d_
 |0=>[]
 |k+1=>match ws[k]? with
  |some x=>if 0<k/\ws[k-1]?=some x then mI ws k else mI ws k++[x]
  |none=>mI ws k
def acg(ws:d_):∀k,(mI ws k).length<=k:=by
 intro k
 induction k with
 |zero=>exact bY _
 |succ k ih=>
  unfold mI;split
  .split
   .omega
   simp;omega
  omega
def UZ{k:Nat}(h:ws[k+1]?=some x)(hp:ws[k]?=some x):mI ws (k+2)=mI ws (k+1):=by
 conv=>lhs;unfold mI
 rw[h];simp[hp]
def UX{k:Nat}{y:Int}(h:ws[k+1]?=some x)(hp:ws[k]?=some y)(hn:¬x=y):mI ws (k+2)=mI ws (k+1)++[x]:=by
 conv=>lhs;unfold mI
 rw[h];have:¬y=x:=fun e=>hn e.symm;simp[hp,this]
def ans(h:ws[0]?=some x):mI ws 1=[x]:=by simp[mI,h]
def SF(ws:d_)(k:Nat):Prop:=∀i x y,i+1<k->ws[i]?=some x->ws[i+1]?=some y-> ¬y=x
def UY:∀k,k<=ws.length->SF ws k->mI ws k=ws.take k:=by
 intro k
 induction k with
 |zero=>intro _ _;rfl
 |succ k ih=>
  intro hk h;obtain⟨x,hx⟩:=aL (ls:=ws) (k:=k) aa;have e:=ih aa fun i x y h1=>h i x y aa;have ht:ws.take (k+1)=ws.take k++[x]:=by rw[oZ,hx];rfl
  rcases k with _|k
  .rw[ans hx,ht];rfl
  obtain⟨y,hy⟩:=aL (ls:=ws) (k:=k) aa;rw[UX hx hy (h k y x aa hy hx),e,ht]
structure AT (ws cs:d_) (k q:Nat):Prop where
 len:cs.length=ws.length
 kl:k=(mI ws q).length
 pre:cs.take k=mI ws q
 out:∀p,q-1<=p->cs[p]?=ws[p]?
 kq:k<q
def AT.step{cs:d_}{k q:Nat}{y:Int}(h:AT ws cs k (q+1))(hx:ws[q+1]?=some x)(hy:ws[q]?=some y)(hn:¬x=y):AT ws (cs.set k x) (k+1) (q+2):=by
 obtain⟨h1,h2,h3,h4,h5⟩:=h;have hl:=acg ws (q+1);have hq:q+1<ws.length:=(aT.1 hx).1;refine⟨by simpa using h1,by rw[UX hx hy hn,fS,<-h2];rfl,?_,fun p hp=>?_,aa⟩
 .rw[UX hx hy hn,oZ,qZ];have:k<cs.length:=aa;rw[aD rfl,aD this,List.take_set_of_le (bY _),h3];rfl
 rw[qZ,au aa];exact h4 p aa
def AT.skip{cs:d_}{k q:Nat}(h:AT ws cs k (q+1))(hx:ws[q+1]?=some x)(hy:ws[q]?=some x):AT ws cs k (q+2):=by obtain⟨h1,h2,h3,h4,h5⟩:=h;exact⟨h1,by rw[UZ hx hy];exact h2,by rw[UZ hx hy];exact h3,fun p hp=>h4 p aa,aa⟩
def AT.start{k:Nat}(hk:k+1<ws.length)(h:SF ws (k+1))(hx:ws[k+1]?=some x)(hy:ws[k]?=some x):AT ws ws (k+1) (k+2):=by have e:=UY (k+1) aa h;have e2:mI ws (k+2)=ws.take (k+1):=(UZ hx hy).trans e;exact⟨rfl,by rw[e2];simp;omega,by rw[e2],fun _ _=>rfl,aa⟩
def UK(id g ty:Nat)(ws:d_)(aj:aC)(v:V)(ao:aC):Prop:=v=.one (.hsl id g 1 0 (mI ws ws.length).length)/\(∃cs:d_,ao id=(g,some (.arr ty 1 (iP cs)))/\cs.length=ws.length/\cs.take (mI ws ws.length).length=mI ws ws.length)/\Kept (· =id) aj ao
def aqV{cs:d_}{k:Nat}(hk:k<=cs.length):List.take k (iP cs)++List.replicate (cs.length-k) [PV.int .i64 0]++List.drop (k+(cs.length-k)) (iP cs)=iP (cs.take k++List.replicate (cs.length-k) 0):=by rw[TT (by simp;omega),jG];simp only[iP,kS,List.map_replicate,Je]
def ab1{al:Al}{aj:aC}{id g:Nat}(o:al.ok id=true)(hl:ws.length<=1000000)(hC:aj id=(g,some (.arr ty 1 (iP ws)))):
  ∃v ao,jg S 155 [.one (.hsl id g 1 0 ws.length)] al aj v ao/\UK id g ty ws aj v ao:=by
 refine nL c155 (iH rfl) ?_;by_cases h2:ws.length<2
 .have jB:((ws.length:Int)<2):=aa;have gI:SF ws ws.length:=fun i x y h=>aa;have e:=UY ws.length (bY _) gI;rw[lJ]at e;simp only[go_sem,i155,jB];exact⟨by rw[e],⟨ws,hC,rfl,by rw[e,lJ]⟩,Kept.refl _ _⟩
 have jB:¬((ws.length:Int)<2):=aa;simp only[go_sem,i155,jB];refine dD (fun q ak ao=>ak 0=.one (.hsl id g 1 0 ws.length)/\ak 3=vi ((q+1:Nat):Int)/\SF ws (q+1)/\ao=aj) 0 ws.length (bR _) ?_ ?_
 .simp only[go_sem];exact⟨rfl,fun i x y h=>aa⟩
 rintro q ak cF hq ⟨h0,h3,gI,rfl⟩
 by_cases aA:q+1<ws.length
 .have aM:(((q+1:Nat):Int)<(ws.length:Int)):=aa;obtain⟨x,hx⟩:=aL (ls:=ws) (k:=q+1) aA;obtain⟨y,hy⟩:=aL (ls:=ws) (k:=q) aa;have uf:=Ct hx;have Ep:=Ct hy;have wj:IntKind.i64.wrap (((q+1:Nat):Int)-1)=(q:Int):=by rw[An aa];omega
  have wk:=cU (n:=q+1) aa;have q1:q<ws.length:=aa;have q2:q+1<=ws.length:=aa;by_cases e:x=y
  .subst e;simp only[go_sem,i155_l4,h0,h3,aA,aM,uf,Ep,wj,q1,q2,hC,o];refine⟨aJ,?_⟩;refine dD (fun r ak ao=>ak 0=.one (.hsl id g 1 0 ws.length)/\ak 4=.one (.hsl id g 1 (q+1) (ws.length-(q+1)))/\ak 5=vi ((r+1:Nat):Int)/\ ∃(cs:d_) (k:Nat),ak 3=vi (k:Nat)/\ao id=(g,some (.arr ty 1 (iP cs)))/\AT ws cs k (q+2+r)/\q+2+r<=ws.length/\Kept (· =id) cF ao) 0 ws.length (bR _) ?_ ?_
   .simp only[go_sem,h0];exact⟨rfl,ws,q+1,h3,hC,AT.start aA gI hx hy,aa,Kept.refl _ _⟩
   rintro r dy bn hr ⟨k0,k4,k5,cs,k,k3,hB,hI,hqr,dM⟩
   have cS:=hI.len;have eK:=hI.kl;have hkle:=acg ws (q+2+r);have hkq:=hI.kq;have Km:AT ws cs k (q+1+r+1):=by rw[show q+1+r+1=q+2+r by omega];exact hI
   by_cases RW:r+1<ws.length-(q+1)
   .have RX:(((r+1:Nat):Int)<((ws.length-(q+1):Nat):Int)):=aa;obtain⟨u,hu⟩:=aL (ls:=ws) (k:=q+1+(r+1)) aa;obtain⟨v,hv⟩:=aL (ls:=ws) (k:=q+1+r) aa;have cu:=Ct ((hI.out (q+1+(r+1)) aa).trans hu);have cv:=Ct ((hI.out (q+1+r) aa).trans hv);have wr:IntKind.i64.wrap (((r+1:Nat):Int)-1)=(r:Int):=by rw[An aa];omega
    have wr2:=cU (n:=r+1) aa;have wk2:=cU (n:=k) aa;have r1:r<ws.length-(q+1):=aa;have kk:k<ws.length:=aa;have kk2:k<cs.length:=aa;obtain⟨z,hz⟩:=aL kk2;have cz:=Ct hz;by_cases e2:u=v
    .subst e2;have F6:(u !=u)=false:=af;have yf:=Km.skip (by rw[show q+1+r+1=q+1+(r+1) by omega];exact hu) hv;simp only[go_sem,i155_l1,k0,k4,k5,k3,RW,RX,r1,hB,cu,cv,wr,wr2,F6,o];refine⟨aJ,aa,cs,k,rfl,rfl,by rw[show q+2+(r+1)=q+1+r+2 by omega];exact yf,aa,dM⟩
    have F6:=(show(u !=v)=true by simp[e2]);simp only[go_sem,i155_l1,k0,k4,k5,k3,RW,RX,r1,hB,cu,cv,wr,wr2,wk2,kk,cz,F6,o];have yf:=Km.step (by rw[show q+1+r+1=q+1+(r+1) by omega];exact hu) hv e2;refine⟨aJ,aa,cs.set k u,k+1,rfl,by rw[Yl],by rw[show q+2+(r+1)=q+1+r+2 by omega];exact yf,aa,dM.eh rfl _⟩
   have RX:¬(((r+1:Nat):Int)<((ws.length-(q+1):Nat):Int)):=aa;have kk3:k<=ws.length:=aa;have kk4:k+(ws.length-k)<=cs.length:=aa;have aH:¬(ws.length-k=0):=aa;have Rw:q+2+r=ws.length:=aa;rw[Rw]at hI;have pW:=aqV (cs:=cs) (k:=k) aa;rw[cS]at pW;simp only[go_sem,i155_l1,i155_r2,k0,k4,k5,k3,RX,hB,o,kk3,kk4,aH,aau,yA,pW];obtain⟨i1,i2,i3,i4,i5⟩:=hI;refine⟨by rw[<-i2],⟨_,Ak,by simp;omega,?_⟩,dM.eh rfl _⟩;rw[<-i2,List.take_left' (by simp;omega),i3]
  have e1:=(show(x==y)=false by simp[e]);simp only[go_sem,i155_l4,i155_r3,h0,h3,aA,aM,uf,Ep,wj,wk,q1,hC,o,e1];refine⟨aJ,fun i u v h h4 h5=>?_⟩;by_cases e2:i=q
  .subst e2;rw[hy]at h4;rw[hx]at h5;cases h4;cases h5;exact e
  exact gI i u v aa h4 h5
 have aM:¬(((q+1:Nat):Int)<(ws.length:Int)):=aa;have e:=UY ws.length (bY _) (fun i x y h=>gI i x y aa);rw[lJ]at e;simp only[go_sem,i155_l4,i155_r5,h0,h3,aM];exact⟨by rw[e],⟨ws,hC,rfl,by rw[e,lJ]⟩,Kept.refl _ _⟩
def iS:d_->d_
 |[]=>[]
 |x::r=>if x∈r then iS r else x::iS r
def AW:∀ {l:d_},x∈iS l↔x∈l:=by
 intro l
 induction l with
 |nil=>simp[iS]
 |cons y r ih=>
  unfold iS;split
  .rename_i h;rw[ih,bJ];constructor
   .exact .inr
   rintro(rfl|h2)
   .exact h
   exact h2
  rw[bJ,bJ,ih]
def anK:∀l:d_,(iS l).Nodup:=by
 intro l
 induction l with
 |nil=>exact xO
 |cons y r ih=>
  unfold iS;split
  .exact ih
  rename_i h;exact rh.2 ⟨fun h2=>h (AW.1 h2),ih⟩
def ach:∀k,k<=ws.length->(x∈mI ws k↔x∈ws.take k):=by
 intro k
 induction k with
 |zero=>intro _;simp[mI]
 |succ k ih=>
  intro hk;obtain⟨y,hy⟩:=aL (ls:=ws) (k:=k) aa;have ht:ws.take (k+1)=ws.take k++[y]:=by rw[oZ,hy];rfl
  have ih:=ih aa;unfold mI;rw[hy,ht];simp only;split
  .rename_i h;obtain⟨h1,h2⟩:=h;have hm:y∈ws.take k:=by
    rw[List.mem_take_iff_getElem];obtain⟨h3,h4⟩:=aT.1 h2;exact⟨k-1,aa,h4⟩
   rw[ih,eO];constructor
   .exact .inl
   rintro(h|h)
   .exact h
   simp at h;subst h;exact hm
  rw[eO,eO,ih]
def anr(hs:xQ tA ws 0 ws.length):∀k,k<=ws.length->(mI ws k).Nodup:=by
 intro k
 induction k with
 |zero=>intro _;exact xO
 |succ k ih=>
  intro hk;obtain⟨y,hy⟩:=aL (ls:=ws) (k:=k) aa;have ih:=ih aa;unfold mI;rw[hy];simp only;split
  .exact ih
  rename_i h;rw[GG];refine⟨ih,af,fun z hz w hw=>?_⟩;simp at hw;subst hw;rintro rfl
  rw[ach k aa,List.mem_take_iff_getElem]at hz;obtain⟨p,hp,hpz⟩:=hz;have hpk:p<k:=aa;have ml:ws[p]?=some z:=by rw[rS aa,hpz]
  obtain⟨u,hu⟩:=aL (ls:=ws) (k:=k-1) aa;have s1:=hs (k-1) k u z (bR _) aa aa hu hy;have huz:u=z:=by
   by_cases e:p=k-1
   .rw[e,hu]at ml;cases ml;rfl
   have s2:=hs p (k-1) z u (bR _) aa aa ml hu;simp at s1 s2;omega
  rw[huz]at hu;exact h ⟨aa,hu⟩
def ab0{es:d_}(hp:ws.Perm es)(hs:xQ tA ws 0 ws.length):(mI ws ws.length).length=(iS es).length:=by refine List.Perm.length_eq ((T3 (anr hs _ (bY _)) (anK es)).2 fun x=>?_);rw[ach _ (bY _),lJ,AW,hp.mem_iff]
def ru(ls:ai)(e:Nat):Bool:=((pA ls e).l.kind==2)&&((pA ls (nx ls e)).l.kind==2)
def mw(ls:ai)(es:a_):d_:=es.flatMap fun e:Nat=>[(e:Int),(nx ls e:Int)]
def qX(ls:ai)(es:a_):d_:=es.flatMap fun e:Nat=>[(pA ls e).l.id,(pA ls (nx ls e)).l.id]
def tgB(F:Nat)(ls:ai)(a b c:Nat):Bool:=[a,b,c].all (ru ls)&&(((iS (mw ls [a,b,c])).length==6)&&(((iS (qX ls [a,b,c])).length==3)&&([a,b,c].any (iA ls · true)&&([a,b,c].any (iA ls · false)&&kX F ls 0 [a,b,c] a))))
def nY(F:Nat)(ls:ai)(a b c:Nat):Option c_:=if tgB F ls a b c then some (dG ls (pieces ls) [a,b,c])else none
def Tz(f:Nat->d_)(hf:∀e,(f e).length=2):∀l:a_,(l.flatMap f).length=2*l.length:=by
 intro l
 induction l with
 |nil=>rfl
 |cons a r ih=>rw[Me,fS,ih,hf,dI];omega
def aep(f:Nat->d_)(l:a_)(k e:Nat)(h:l[k]?=some e):(l.take (k+1)).flatMap f=(l.take k).flatMap f++f e:=by rw[oZ,h];simp
def abb(f:Nat->Bool)(l:a_)(k e:Nat)(h:l[k]?=some e):(l.take (k+1)).any f=((l.take k).any f||f e):=by rw[oZ,h];simp
def alp(f:Nat->Bool)(l:a_)(k e:Nat)(h:l[k]?=some e):(l.take (k+1)).all f=((l.take k).all f&&f e):=by rw[oZ,h];simp
def ajY(f:Nat->d_)(es:a_)(x y:Int):iP (es.flatMap f)++[[PV.int .i64 x],[PV.int .i64 y]]=iP (es.flatMap f++[x,y]):=af
def axc(g:ch F ls){av bv cv:Nat}(ha:av<ls.length)(hb:bv<ls.length)(hc:cv<ls.length){k:Int}{l o:Bool}{sg:Int}:
  aK S 119 [.one (.p (fp F ls)),qj k av bv cv l o sg] (kR (nY F ls av bv cv)):=by
 have hlen:=g.len;have bU:=eY ls;have gb:∀e∈[av,bv,cv],e<ls.length:=fun e h=>by simp at h;rcases h with rfl|rfl|rfl<;>assumption
 generalize hE:[av,bv,cv]=es at*;have dB:es.length=3:=by rw[<-hE];rfl
 have Ol:nP [av,bv,cv]=[[.int .i64 av],[.int .i64 bv],[.int .i64 cv]]:=rfl;rw[hE]at Ol;have w3:((3:Nat):Int)=3:=rfl;refine bt c119 ?_;simp only[go_sem,i119];refine dD (fun j ak aj=>ak 0=.one (.p (fp F ls))/\ak 6=.one (.hsl 7616064384 1 1 0 3)/\ak 22=.one (.hsl 7616064384 1 1 0 3)/\ak 23=vi 3/\ak 24=vi j/\aj 7616064384=(1,some (.arr 3 1 (nP es)))/\(es.take j).all (ru ls)=true/\
  ak 9=vb ((es.take j).any (iA ls · true))/\ak 10=vb ((es.take j).any (iA ls · false))/\ ∃c7 c8,ak 7=.one c7/\ak 8=.one c8/\grown 7616640256 3 1 (iP (mw ls (es.take j))) (.one c7) aj/\grown 7616705280 3 1 (iP (qX ls (es.take j))) (.one c8) aj) 0 3 (bR _) ?_ ?_
 .simp only[go_sem];exact⟨rfl,rfl,by rw[Ol],rfl,rfl,_,_,rfl,rfl,grown.nil,grown.nil⟩
 rintro j ak aj hj ⟨h0,h6,ya,rC,ni,b6,dz,h9,fq,c7,c8,h7,h8,g7,g8⟩
 by_cases aA:j<3
 .have aM:((j:Int)<3):=aa;obtain⟨e,he⟩:=aL (ls:=es) (k:=j) aa;have Rv:=gb e (aV he);have hnp:=kN he;have pe:=DM g Rv;have hm:=de (e+1) (show 0<ls.length by omega);obtain⟨P,hP⟩:=aL (ls:=pieces ls) (k:=e) aa;obtain⟨Q,hQ⟩:=aL (ls:=pieces ls) (k:=(e+1)%ls.length) aa;have qI:=ko hP;have haq:=ko hQ;have w1:=cU (n:=j) aa;have po:=JD g Rv true;have pu:=JD g Rv false;have eX:ru ls e=((P.l.kind==2)&&(Q.l.kind==2)):=by unfold ru;rw[iY hP,iY hQ]
  have hl7:(iP (mw ls (es.take j))).length<=100:=by unfold mw;rw[yA,Tz _ (fun _=>rfl),iz];omega
  have hl8:(iP (qX ls (es.take j))).length<=100:=by unfold qX;rw[yA,Tz _ (fun _=>rfl),iz];omega
  have dR:ru ls e=false->nY F ls av bv cv=none:=fun h=>by
   have:es.all (ru ls)=false:=by
    cases hh:es.all (ru ls)with
    |false=>rfl
    |true=>rw[gk.1 hh e (aV he)]at h;cases h
   unfold nY tgB;rw[hE,this];rfl
  cases k1:(P.l.kind==2)with
  |false=>
   rw[k1]at eX;have k1':(P.l.kind !=2)=true:=by simp only[bne,k1];rfl
   rw[dR eX];simp only[go_sem,i119_l1,h0,ya,rC,ni,b6,aA,aM,hnp,s142,dr pe iM,qI,Pc.ps,k1'];rfl
  |true=>
   have k1':(P.l.kind !=2)=false:=by simp only[bne,k1];rfl
   cases k2:(Q.l.kind==2)with
   |false=>
    rw[k1,k2]at eX;have k2':(Q.l.kind !=2)=true:=by simp only[bne,k2];rfl
    rw[dR eX];simp only[go_sem,i119_l1,h0,ya,rC,ni,b6,aA,aM,hnp,s142,dr pe iM,qI,haq,Pc.ps,k1',k2'];rfl
   |true=>
    rw[k1,k2]at eX;have k2':(Q.l.kind !=2)=false:=by simp only[bne,k2];rfl
    simp only[go_sem,i119_l1,h0,h7,ya,rC,ni,b6,aA,aM,hnp,s142,dr pe iM,qI,haq,Pc.ps,k1',k2'];refine uO (xs:=[[.int .i64 (e:Nat)],[.int .i64 ((e+1)%ls.length:Nat)]]) (g7.of_eq (bj ae)) (by simp only[fN,aP,if_true];rfl) (.inl rfl) (by simp only[dI,fe];omega) fun d7 cF gd7 dE=>?_;have q6:=dE 7616064384 ae ae;simp only[go_sem,b6]at q6;have g8':=g8.of_eq ((dE 7616705280 ae ae).trans (bj ae));simp only[go_sem,h0,h8,qI,haq,Pc.ps];refine BO (xs:=[[.int .i64 P.l.id],[.int .i64 Q.l.id]]) (g8'.of_eq (bj ae)) (by simp only[fN,aP,if_true];rfl) (.inl rfl) (by simp only[dI,fe];omega) fun d8 bn r w gd8 bK hw=>?_
    have p6:=(bK 7616064384 ae ae).trans ((bj ae).trans q6);have apk:=gd7.of_eq ((bK 7616640256 ae ae).trans (bj ae));simp only[go_sem];refine⟨?_,?_⟩
    .rcases hw with⟨rfl,rfl⟩|⟨rfl,rfl⟩|⟨rfl,rfl⟩<;>kernel_rfl
    generalize hx9:(es.take j).any (iA ls · true)=x9 at h9;generalize aqT:(es.take j).any (iA ls · false)=IT at fq;have e9:=abb (iA ls · true) es j e he;have rY:=abb (iA ls · false) es j e he;have eA:=alp (ru ls) es j e he;rw[hx9]at e9;rw[aqT]at rY;rw[dz,eX]at eA;have G7:grown 7616640256 3 1 (iP (mw ls (es.take (j+1)))) (.one d7) bn:=by have:=ajY (fun e:Nat=>[(e:Int),(nx ls e:Int)]) (es.take j) e (nx ls e);have h2:=aep (fun e:Nat=>[(e:Int),(nx ls e:Int)]) es j e he;rw[show mw ls (es.take (j+1))=(es.take j).flatMap (fun e:Nat=>[(e:Int),(nx ls e:Int)])++[(e:Int),(nx ls e:Int)]from h2,<-this];exact apk
    have G8:grown 7616705280 3 1 (iP (qX ls (es.take (j+1)))) (.one d8) bn:=by have:=ajY (fun e:Nat=>[(pA ls e).l.id,(pA ls (nx ls e)).l.id]) (es.take j) (pA ls e).l.id (pA ls (nx ls e)).l.id;have h2:=aep (fun e:Nat=>[(pA ls e).l.id,(pA ls (nx ls e)).l.id]) es j e he;rw[show qX ls (es.take (j+1))=(es.take j).flatMap (fun e:Nat=>[(pA ls e).l.id,(pA ls (nx ls e)).l.id])++[(pA ls e).l.id,(pA ls (nx ls e)).l.id]from h2,<-this,iY hP,show pA ls (nx ls e)=Q from iY hQ];exact gd8
    cases x9<;>cases IT<;>simp only[go_sem,h0,h9,fq,ya,rC,ni,s153,eD po,eD pu,w1,aA]<;>exact⟨h6,p6,by rw[eA];rfl,by rw[e9];rfl,by rw[rY];rfl,d7,d8,rfl,rfl,G7,G8⟩
 have:j=3:=aa;subst this;have ht:es.take 3=es:=by rw[<-hE];rfl
 rw[ht]at dz h9 fq g7 g8;have n7:(mw ls es).length=6:=by unfold mw;rw[Tz _ (fun _=>rfl),dB]
 have n8:(qX ls es).length=6:=by unfold qX;rw[Tz _ (fun _=>rfl),dB]
 rcases g7 with⟨e,_⟩|⟨_,gg7,e,b7⟩
 .have:=congrArg List.length e;rw[yA,n7]at this;cases this
 cases e;rcases g8 with⟨e,_⟩|⟨_,gg8,e,b8⟩
 .have:=congrArg List.length e;rw[yA,n8]at this;cases this
 cases e;have s506:S.shared 107=true:=ah;have s507:S.shared 155=true:=ah;have FI:¬(((3:Nat):Int)<3):=ae;simp only[go_sem,i119_l1,i119_r2,h7,rC,ni,FI,s506,yA];refine BU b7 (by rfl) (.inl rfl) (P:=Gu tA 7616640256 gg7 3 (mw ls es) aj) (fun rU h1 h2=>ZR h1 (by rw[h2];kernel_rfl) aa b7) fun v cF hP=>?_;obtain⟨rfl,⟨ws,bw,pw,sw⟩,kw⟩:=hP;have b8':=(kw 7616705280 ae).trans b8;have b6':=(kw 7616064384 ae).trans b6;simp only[go_sem,h8,s506,yA];refine BU b8' (by rfl) (.inl rfl) (P:=Gu tA 7616705280 gg8 3 (qX ls es) cF) (fun rU h1 h2=>ZR h1 (by rw[h2];kernel_rfl) aa b8') fun v bn hP=>?_
 obtain⟨rfl,⟨us,bu,pu,su⟩,ku⟩:=hP;have bw':=(ku 7616640256 ae).trans bw;have al3:=(ku 7616064384 ae).trans b6';have wl:=pw.length_eq;have ul:=pu.length_eq;have cw:=ab0 pw sw;have cu:=ab0 pu su;have pcn:=US g es aa (e0:=av) (by rw[<-hE];rfl) ha 0;have c00:((0:Nat):Int)=0:=rfl;rw[c00]at pcn;have psw:=awS g es gb aa;have ht3:List.take 3 (nP es)=nP es:=gK (by rw[YX];omega);have hB:tgB F ls av bv cv=((((iS (mw ls es)).length:Int)==6)&&((((iS (qX ls es)).length:Int)==3)&&(es.any (iA ls · true)&&(es.any (iA ls · false)&&kX F ls 0 es av)))):=by unfold tgB;rw[hE,dz,Sm,Sm];rfl
 unfold nY;rw[hB];clear hB;simp only[go_sem,h7,s507,yA,<-wl];refine BU bw' (by rfl) (.inl rfl) (P:=UK 7616640256 gg7 3 ws bn) (fun rU h1 h2=>ab1 h1 aa bw') fun v gR hP=>?_;obtain⟨rfl,_,kc⟩:=hP;have bu':=(kc 7616705280 ae).trans bu;have b63:=(kc 7616064384 ae).trans al3;rw[cw];have lo:S.lone 7617152128=false:=ah;cases q1:(((iS (mw ls es)).length:Int)==6)with
 |false=>
  have q1':(((iS (mw ls es)).length:Int)!=6)=true:=by simp only[bne,q1];rfl
  simp only[go_sem,q1'];rfl
 |true=>
  have q1':(((iS (mw ls es)).length:Int)!=6)=false:=by simp only[bne,q1];rfl
  simp only[go_sem,h8,q1',s507,yA,<-ul];refine BU bu' (by rfl) (.inl rfl) (P:=UK 7616705280 gg8 3 us gR) (fun rU h1 h2=>ab1 h1 aa bu') fun v iR hP=>?_;obtain⟨rfl,_,kd⟩:=hP;have y9:=(kd 7616064384 ae).trans b63;rw[cu];cases q2:(((iS (qX ls es)).length:Int)==3)with
  |false=>
   have Lw:(((iS (qX ls es)).length:Int)!=3)=true:=by simp only[bne,q2];rfl
   simp only[go_sem,Lw];rfl
  |true=>
   have Lw:(((iS (qX ls es)).length:Int)!=3)=false:=by simp only[bne,q2];rfl
   cases q3:es.any (iA ls · true)with
   |false=>rw[q3]at h9;simp only[go_sem,h9,Lw];rfl
   |true=>
    rw[q3]at h9;cases q4:es.any (iA ls · false)with
    |false=>rw[q4]at fq;simp only[go_sem,h9,fq,Lw];rfl
    |true=>
     rw[q4]at fq;cases q5:kX F ls 0 es av with
     |false=>rw[q5]at pcn;simp only[go_sem,h0,h6,h9,fq,Lw,y9,s150,eD pcn,dB,YX,ht3];rfl
     |true=>rw[q5]at pcn;simp only[go_sem,h0,h6,h9,fq,Lw,y9,s150,eD pcn,s156,dB,YX,ht3];refine sX psw lo (.inr (rV (EI _))) fun cc AQ gc FQ=>?_;simp only[go_sem];rw[<-hE]at gc;exact zn gc
abbrev Yt:f_:=[.p .Aa,.p (.fn 112 [] []),.p (.fn 113 [] []),.p (.fn 114 [] []),.p (.fn 115 [] []),.p (.fn 116 [] []),.p (.fn 117 [] []),.p (.fn 118 [] []),.p (.fn 119 [] []),.p (.fn 120 [] []),.p (.fn 120 [] [])]
def apz(k:Int):0<=(mK k).1/\(mK k).1<=4/\0<=(mK k).2/\(mK k).2<=2:=by
 unfold mK;split
 .simp
 split
 .simp
 split<;>simp
def MZ(hlen:ls.length<=400)(eX:aq Let.aB ls<=200){k f:Nat}{rest:f_}(hk:Yt.drop k=.p (.fn f [] [])::rest)(jr:k<11)(KK:S.shared f=false){a b c:Int}{l o:Bool}{sg:Int}{res:Option c_}(ha:aK S 82 [.one (.p (fp F ls)),qj k a b c l o sg] (rb true))(hm:aK S f [.one (.p (fp F ls)),qj k a b c l o sg] (kR res))(hL:∀L,res=some L->L.length<=1000000):
  aK S 52 [.one (.p (fp F ls)),qj k a b c l o sg] (AZ F ls k res):=by
 have w8:=aoK F;have pg:=apy k;have nW:S.lone 3328192384=false:=ah;have xu:S.lone 3328576128=false:=ah;have hlk:∀(aj:aC),land aj [] 3328192000 ((RV.agg [.p .Aa,.p (.fn 112 [] []),.p (.fn 113 [] []),.p (.fn 114 [] []),.p (.fn 115 [] []),.p (.fn 116 [] []),.p (.fn 117 [] []),.p (.fn 118 [] []),.p (.fn 119 [] []),.p (.fn 120 [] []),.p (.fn 120 [] [])]).gj (S.lone 3328192000))=some (.agg Yt,[]):=fun aj=>by cases S.lone 3328192000<;>rfl
 have bU:=eY ls;obtain⟨g1,g2,g3,g4⟩:=apz k;have lg:∀aj:aC,land aj [] 3328384128 ((RV.tup [.one (.p (.int .i64 (mK k).1)),.one (.p (.int .i64 (mK k).2))]).gj (S.lone 3328384128))=some (.tup [.one (.p (.int .i64 (mK k).1)),.one (.p (.int .i64 (mK k).2))],[]):=fun aj=>iM;obtain⟨Nu,Nv,te⟩:∃x y,mK k=(x,y):=⟨_,_,rfl⟩;have d4:AZ F ls k none=sD 4:=rfl;have d7:∀L,((400:Int)<(ls.length:Int)+Nu\/(100:Int)<((aq Let.aB ls/2:Nat):Int)+Nv)->AZ F ls k (some L)=sD 7:=fun L h=>by unfold AZ;rw[te];exact aD h
 have d0:∀L,¬((400:Int)<(ls.length:Int)+Nu\/(100:Int)<((aq Let.aB ls/2:Nat):Int)+Nv)->AZ F ls k (some L)=l7 F (dO L):=fun L h=>by unfold AZ;rw[te];exact au h
 rw[te]at g1 g2 g3 g4 pg;simp only[te]at lg;simp only at g1 g2 g3 g4 lg pg;have w1:IntKind.i64.wrap (((pieces ls).length:Int)+Nu)=(ls.length:Int)+Nu:=by rw[bU];exact xI aa aa
 have w2:IntKind.i64.wrap (((aq Let.aB ls/2:Nat):Int)+Nv)=((aq Let.aB ls/2:Nat):Int)+Nv:=xI aa aa;unfold kR at hm;generalize Yt=kg at hk hlk;refine bt c52 ?_;simp only[go_sem,i52,s82,eD ha,s83,He ary (hlk _),hk,jr,KK];refine anF hm nW fun cc cF w gc hb hw=>?_;have b0:=hb 3328000000 ae;have b1:=hb 3328000064 ae;simp only[go_sem]at b0 b1;cases res with
 |none=>rw[d4];simp only[go_sem,b1];refine⟨?_,rfl⟩;rcases hw with rfl|rfl<;>kernel_rfl
 |some L=>
  simp only[oE]at gc;have pfin:=w8 L (hL L rfl) (.sl (eE (pieces ls))) (.sl (uL (eV F ls))) (.sl (nP (qd F ls))) (.int .i64 (aq Let.aE ls:Nat)) (.int .i64 ((aq Let.aB ls/2:Nat):Int)) (.sl (nP (counts ls F)));obtain⟨rs,nv,_⟩:=gc.gG;by_cases h1:(400:Int)<(ls.length:Int)+Nu
  .rw[d7 L (.inl h1)];simp only[go_sem,b0,b1,s84,dr pg (lg _),w1,h1];refine⟨?_,rfl⟩;rcases hw with rfl|rfl<;>kernel_rfl
  by_cases h2:(100:Int)<((aq Let.aB ls/2:Nat):Int)+Nv
  .rw[d7 L (.inr h2)];simp only[go_sem,b0,b1,s84,dr pg (lg _),w1,w2,h1,h2];refine⟨?_,rfl⟩;rcases hw with rfl|rfl<;>kernel_rfl
  rw[d0 L (by rintro(h|h);exact h1 h;exact h2 h)];simp only[go_sem,b0,s84,dr pg (lg _),w1,w2,h1,h2,nv,s85];refine⟨?_,?_⟩
  .rcases hw with rfl|rfl<;>kernel_rfl
  refine apd pfin xu rfl (LH _) fun c2 bn wW bK=>?_;have b02:=(bK 3328000064 ae).trans b1;simp only[go_sem,b02];exact aeU (wW.of_eq (bj ae))
def anO{k a b c:Int}{l o:Bool}{sg:Int}(ha:aK S 82 [.one (.p (fp F ls)),qj k a b c l o sg] (rb false)):aK S 52 [.one (.p (fp F ls)),qj k a b c l o sg] (sD 2):=by refine bt c52 ?_;simp only[go_sem,i52,s82,eD ha];try rfl
def qh(F:Nat)(ls:ai)(k:Int)(a b c:Nat)(l o:Bool)(sg:Int):Option c_:=if k=1 then uC ls a else if k=2 then amR F ls a b c else if k=3 then oI F ls a b else if k=4 then u7 ls a else if k=5 then some (lmR ls a sg o)else if k=6 then vg F ls a b else if k=7 then pmR F ls a b l o else if k=8 then nY F ls a b c else if k=9 then trR F ls a else tlR ls a
def pI(F:Nat)(ls:ai)(k a b c:Int)(l o:Bool)(sg:Int):RV:=if di F ls k a b c l o sg then AZ F ls k (qh F ls k a.toNat b.toNat c.toNat l o sg)else sD 2
def alw{k a b c:Int}{l o:Bool}{sg:Int}:(∃e,pI F ls k a b c l o sg=sD e)\/ ∃L,pI F ls k a b c l o sg=l7 F L:=by
 unfold pI;split
 .cases qh F ls k a.toNat b.toNat c.toNat l o sg with
  |none=>exact .inl ⟨4,rfl⟩
  |some L=>
   by_cases h:(400:Int)<(ls.length:Int)+(mK k).1\/(100:Int)<((aq Let.aB ls/2:Nat):Int)+(mK k).2
   .exact .inl ⟨7,aD h⟩
   exact .inr ⟨dO L,au h⟩
 exact .inl ⟨2,rfl⟩
def alA{k a b c:Int}{l o:Bool}{sg:Int}{res:RV}(po:aK S 23 [ez F ls] (Bx (fp F ls) (.int .i64 0)))(hd:aK S 52 [.one (.p (fp F ls)),qj k a b c l o sg] res)(fin:(∃e,res=sD e)\/ ∃L,res=l7 F L):
  aK S 44 [ez F ls,qj k a b c l o sg] res:=by
 have lo:S.lone 2816256128=false:=ah;refine bt c44 ?_;rcases fin with⟨e,rfl⟩|⟨L,rfl⟩
 .simp only[go_sem,i44,s23,dr po iM,s52,dr hd arC];rfl
 simp only[go_sem,i44,s23,dr po iM,s52];refine aeI hd lo fun cc cF gc hb=>?_;have b4:=hb 2816000128 ae;simp only[go_sem]at b4;simp only[go_sem,b4];exact aeU (gc.of_eq (bj ae))
def nV{n:Nat}{i:Int}(h:jD n i=true):∃k:Nat,i=(k:Int)/\k<n:=by unfold jD at h;simp at h;exact⟨i.toNat,aa,aa⟩
def Yv(l:c_)(drop:Nat->Pc->Bool):(qP l drop).length<=l.length:=Il l drop l.length
def ai5(l:c_)(i:Nat)(g r:Int):(Tj l i g r).length=l.length:=by simp[Tj]
def asU{k:Int}{a b c:Nat}{l o:Bool}{sg:Int}{L:c_}(h:qh F ls k a b c l o sg=some L):L.length<=ls.length+4:=by
 have hp:=eY ls;unfold qh at h;repeat' split at h
 .unfold uC at h;simp only at h;split at h
  .cases h;have:=Yv (pieces ls) (fun k _=>decide (k=a)||decide (k=(a+1)%ls.length));simp only[kQ,cE];omega
  cases h
 .unfold amR at h;split at h
  .cases h;simp only[Qj,Si,kQ,cE,dI,fe];omega
  split at h
  .cases h;simp only[Qj,Si,kQ,cE,dI,fe];omega
  cases h
 .unfold oI at h;split at h
  .cases h;simp only[qt,qq];omega
  cases h
 .unfold u7 at h;simp only at h;split at h
  .cases h;have:=Yv (pieces ls) (vB [((pieces ls).getD a ⟨lQ,false⟩).l.id]);simp only[JR,cE];omega
  cases h
 .cases h;simp only[lmR,Si,dI,fe];omega
 .unfold vg at h;split at h
  .cases h;have:=Yv (pieces ls) (vB [(pA ls a).l.id,(pA ls (nx ls a)).l.id]);simp only[JR,cE];omega
  cases h
 .have key:∀s t,pmV ls a b l o s t=some L->L.length<=ls.length+4:=fun s t h=>by
   unfold pmV at h;split at h
   .cases h
   simp only[fY]at h;subst h;have h2:∀x sg o s,(pmS x sg o s).length=2:=fun x sg o s=>by unfold pmS;split<;>rfl
   split<;>simp only[Si,h2,dI,fe]<;>omega
  unfold pmR at h;split at h
  .exact key _ _ h
  exact key _ _ h
 .unfold nY at h;split at h
  .cases h;simp only[qt];omega
  cases h
 .unfold trR at h;split at h
  .cases h;simp only[ai5,kQ,cE];omega
  cases h
 unfold tlR at h;split at h
 .cases h;simp only[ai5,kQ,cE];omega
 cases h
def abe{k a b c:Int}{l o:Bool}{sg:Int}(h:di F [] k a b c l o sg=true):∃bv:Nat,k=2/\a=0/\b=(bv:Int)/\bv<=F/\c=0/\l=false/\o=false/\sg=0:=by
 have hi:∀i:Int,jD 0 i=false:=fun i=>by unfold jD;simp
 unfold di at h;by_cases h2:k=2
 .subst h2;simp only[if_true,fe,hi,De,cH,l9,cZ,mf]at h;obtain⟨rfl,rfl,rfl,⟨_,rfl⟩,pM,hbF,hc0,uQ⟩:=h;obtain⟨bv,rfl⟩:=tJ pM;have:cg [] ((bv:Int).toNat)=0:=rfl;rw[this]at uQ;exact⟨bv,rfl,rfl,rfl,aa,aa,rfl,rfl,rfl⟩
 simp[h2,hi]at h
abbrev lA(ls:ai)(i:Nat):Let:=ls.getD i lQ
def agK{i:Nat}{l:Let}(h:ls[i]?=some l):lA ls i=l:=by rw[lA,dC,h];rfl
def Cy{i:Nat}(h:i<ls.length):ls[i]?=some (lA ls i):=by obtain⟨l,hl⟩:=aL h;rw[agK hl,hl]
def szL(l:ai):iG 6 (dZ l)=true:=by simp[iG,Let.ps]
def ar1(a b:ai):dZ (a++b)=dZ a++dZ b:=kS
def ar3{L:ai}(h:L≠[]):dZ L≠[]:=by simpa [dZ]using h
def leq(a b:Let):Bool:=(a.kind==b.kind)&&((a.gate==b.gate)&&((a.aw==b.aw)&&((a.id==b.id)&&((a.sign==b.sign)&&(a.over==b.over)))))
def Vf(x y:Let):wU [true,true,true,true,true,false] [.p (.int .i64 x.kind),.p (.int .i64 x.gate),.p (.int .i64 x.aw),.p (.int .i64 x.id),.p (.int .i64 x.sign),.p (.bool x.over)] [.p (.int .i64 y.kind),.p (.int .i64 y.gate),.p (.int .i64 y.aw),.p (.int .i64 y.id),.p (.int .i64 y.sign),.p (.bool y.over)]=some (leq x y):=by
 have e:∀a b:Int,vC true (.int .i64 a) (.int .i64 b)=some (a==b):=fun a b=>by simp[vC]
 have e2:∀a b:Bool,vC false (.bool a) (.bool b)=some (a==b):=fun a b=>by simp[vC]
 simp only[wU,leq,e,e2];cases(x.kind==y.kind)<;>cases(x.gate==y.gate)<;>cases(x.aw==y.aw)<;>cases(x.id==y.id)<;>cases(x.sign==y.sign)<;>cases(x.over==y.over)<;>rfl
def K7(x:Let):leq x x=true:=by simp[leq]
def aiO(L:ai)(k:Nat)(hk:k<=L.length)(hl:L.length<=1000000):aK S 71 [.one (.p (dd L)),vi k] (.one (aW mO 6 (dZ (L.drop k++L.take k)))):=by
 have hs6:=szL L;have Bc:List.take (L.length-k) (List.drop k (dZ L))=dZ (L.drop k):=by rw[gK af];simp[T0]
 have ny:List.take k (dZ L)=dZ (L.take k):=by simp[Je]
 rw[ar1];refine bt c71 ?_;simp only[go_sem,i71,hk,hs6,Bc];refine BO (id:=4544064192) (bytes:=48) grown.nil (xs:=dZ (L.drop k)) (rd:=[]) rfl (.inr (szL _)) (by simp;omega) fun c1 cF r w g1 dE hw=>?_;rw[gn]at g1;simp only[go_sem,hk,hs6,ny];refine BO (bytes:=48) g1 (xs:=dZ (L.take k)) (rd:=[]) rfl (.inr (szL _)) (by simp;omega) fun c2 bn r2 w2 g2 bK hw2=>?_;simp only[go_sem];refine⟨?_,A6 g2⟩;rcases hw with⟨rfl,rfl⟩|⟨rfl,rfl⟩|⟨rfl,rfl⟩<;>rcases hw2 with⟨rfl,rfl⟩|⟨rfl,rfl⟩|⟨rfl,rfl⟩<;>kernel_rfl

def Jk{S:Sys}{f:Nat}{fn:bd}{args:e_}{P:RV->Prop}(hp:S.prim f args=none)(hf:S.fns f=some fn)(hl:args.length<=fn.ntmps)
  (h:W S .all fn.body (oJ .all fn.results fun v aj=>∃r,P r/\jk aj v=some r) (tv args) xx):∃r,P r/\aK S f args r:=by
 obtain⟨n,v,ao,h1,r,h3,h2⟩:=Uc h;refine⟨r,h3,n+1,?_⟩;rw[hU];simp only[hp,hf,hl,if_true];unfold Gq;simp only[h1,h2]
def abN{l:ai}(aH:l≠[])(hl:l.length<=1000000):aK S 60 [.one (.p (dd l))] (.one (aW mO 6 (dZ l))):=by
 have hs:((dZ l).all fun e=>e.length==6)=true:=szL l;have hr:(0+(dZ l).length)*48<=room:=by unfold room;rw[cE];omega
 show aK S _ [.one (.p (.sl (dZ l)))] _;obtain⟨e0,es,hq⟩:∃e0 es,dZ l=e0::es:=by cases l with
  |nil=>exact absurd rfl aH
  |cons a t=>exact⟨_,_,rfl⟩
 rw[hq]at hs hr |-;refine bt c60 ?_;have aH:e0::es≠[]:=af;have te:aW mO 6 (e0::es)=.own mO 6 (e0::es):=au aH;rw[te];unfold room at hr;simp only[jx,dI]at hr;simp only[nI]at hs;simp only[go_sem,i60,gE,iG];simp only[hs,hr,not_true_eq_false,if_true,if_false];simp only[go_sem];exact Lq Ak rfl
abbrev mkE(M:u_):t_:=M.map fun e=>(PV.int .i64 e.1,[PV.int .i64 e.2])
def fiM:u_->Int->Nat->Option (Nat×Int)
 |[],_,_=>none
 |(a,v)::r,x,i=>if x==a then some (i,v)else fiM r x (i+1)
def aef(M:u_)(x:Int):∀i,qF (.int .i64 x) (mkE M) i=some ((fiM M x i).map fun p=>(p.1,[PV.int .i64 p.2])):=by
 induction M with
 |nil=>intro i;rfl
 |cons e M ih=>
  intro i;obtain⟨a,v⟩:=e;show qF (.int .i64 x) ((PV.int .i64 a,[PV.int .i64 v])::mkE M) i=_;unfold qF;have hs:sameKey (.int .i64 x) (.int .i64 a)=some (x==a):=by simp[sameKey]
  rw[hs];unfold fiM;cases(x==a)with
  |true=>rfl
  |false=>exact ih (i+1)
def ahm(M:u_)(x v:Int):mkE M++[(PV.int .i64 x,[PV.int .i64 v])]=mkE (M++[(x,v)]):=af
def agY(l:ai)(k:Nat)(p:Let):(dZ l).set k p.ps=dZ (l.set k p):=by simp[Mi]
def agV{e:b_}(h:e.length=6):∃x0 x1 x2 x3 x4 x5,e=[x0,x1,x2,x3,x4,x5]:=by
 match e,h with
 |[x0,x1,x2,x3,x4,x5],_=>exact⟨_,_,_,_,_,_,rfl⟩
def auV{al:Al}{aj:aC}{id:Nat}{es:s_}{c:C}(o:es=[]\/al.ok id=true)(hl:es.length<=1000000)(gb:∀e∈es,e.length=6/\ ∀v∈e,v.norm=v)(h:grown id ty 6 es (.one c) aj):
  ∃v ao,jg S 98 [.one c] al aj v ao/\IJ id ty 6 es c aj v ao:=by
 refine nL c98 (iH rfl) ?_;rcases h with⟨rfl,h2⟩|⟨aH,g,h2,hC⟩
 .cases h2;have w0:IntKind.i64.wrap (((0:Nat):Int)-1)= -1:=ae;have hz:¬((0:Int)< -1):=ae;simp only[go_sem,i98,w0];refine dD (fun k ak ao=>k=0/\ak 2=vi 0/\ak 3=vi (-1)/\ao=aj) 0 0 (bY _) ?_ ?_
  .simp only[go_sem]
  rintro k ak ao _ ⟨rfl,h2,h3,rfl⟩
  simp only[go_sem,i98_l1,h2,h3,hz];exact⟨rfl,.inl ⟨rfl,rfl⟩,fun _ _=>rfl⟩
 cases h2;have o:=o.resolve_left aH;have w0:=An (a:=es.length) aa;simp only[go_sem,i98,w0];refine dD (fun k ak ao=>ak 0=.one (.hsl id g 6 0 es.length)/\ak 2=vi k/\ak 3=vi ((es.length:Int)-1-(k:Int))/\ ∃fs,ao id=(g,some (.arr ty 6 fs))/\yK es fs k/\Kept (· =id) aj ao) 0 es.length (bR _) ?_ ?_
 .simp only[go_sem];refine⟨rfl,af,es,hC,yK.start es,Kept.refl _ _⟩
 rintro k ak ao hk ⟨h0,h2,h3,fs,hF,hI,dM⟩
 by_cases aA:k<es.length-1-k
 .have e1:((es.length:Int)-1-(k:Int))=((es.length-1-k:Nat):Int):=aa;rw[e1]at h3;have aM:((k:Int)<((es.length-1-k:Nat):Int)):=aa;have w1:=cU (n:=k) aa;have w2:IntKind.i64.wrap (((es.length-1-k:Nat):Int)-1)=((es.length:Int)-1-((k+1:Nat):Int)):=by
   rw[An aa];omega
  obtain⟨a,ha⟩:=aL (show k<es.length by omega);obtain⟨b,hb⟩:=aL (show es.length-1-k<es.length by omega);obtain⟨fa,fb,yf⟩:=hI.step aA ha hb;obtain⟨la,na⟩:=gb a (aV ha);obtain⟨lb,nb⟩:=gb b (aV hb);obtain⟨x0,x1,x2,x3,x4,x5,rfl⟩:=agV la;obtain⟨y0,y1,y2,y3,y4,y5,rfl⟩:=agV lb;have Ot:=na x0 af;have X2:=na x1 af;have aqt:=na x2 af;have aqu:=na x3 af;have aqv:=na x4 af;have aqw:=na x5 af;have Ou:=nb y0 af;have X3:=nb y1 af;have aqx:=nb y2 af;have aqy:=nb y3 af;have aqz:=nb y4 af;have aqA:=nb y5 af;have zK:=hI.len;have HP:¬(k=es.length-1-k):=aa;have afm:¬(es.length-1-k=k):=aa;have l1:k<fs.length:=aa;have l2:es.length-1-k<fs.length:=aa;have l3:k<es.length:=aa;have l4:es.length-1-k<es.length:=aa
  simp only[go_sem,i98_l1,h0,h2,h3,hF,aM,fa,fb,w1,w2,o,l1,l3,l4,HP,Ot,X2,aqt,aqu,aqv,aqw,Ou,X3,aqx,aqy,aqz,aqA,qZ];refine⟨aJ,_,rfl,yf,?_⟩;exact(dM.eh rfl _).eh rfl _
 have aM:¬((k:Int)<(es.length:Int)-1-(k:Int)):=aa;simp only[go_sem,i98_l1,h2,h3,aM];refine⟨rfl,?_,dM⟩;rw[hI.done aA]at hF;exact .inr ⟨by simpa using aH,g,by rw[og],hF⟩
def ar5(l:ai):∀e∈dZ l,e.length=6/\ ∀v∈e,v.norm=v:=fun e he=>by obtain⟨x,_,rfl⟩:=cJ.1 he;refine⟨rfl,fun v hv=>?_⟩;simp only[Let.ps,bJ,eo,or_false]at hv;rcases hv with rfl|rfl|rfl|rfl|rfl|rfl<;>rfl
def ar4(l:ai):(dZ l).reverse=dZ l.reverse:=af
def YK{s:Nat}(h:s/64000000=40):S.lone s=true:=by show Gg ag3 (s/64000000)=true;rw[h];kernel_rfl
def Io{aj:aC}{s:Nat}{L:ai}(aH:L≠[])(hs:S.lone s=true):land aj [] s ((RV.one (aW mO 6 (dZ L))).gj (S.lone s))=some (.one (.p (dd L)),[]):=by rw[hs,Xs (ar3 aH)];unfold land;rw[aD (.inl rfl)];rfl

abbrev rm:Prop:=aK S 60 [.one (.p (.sl []))] (.one (.p (.sl [])))
def revE{al:Al}{aj:aC}:∃v ao,jg S 98 [.one (.p (.sl []))] al aj v ao/\(v=.tup []/\ao=aj):=by
 refine nL c98 (iH rfl) ?_;have w0:IntKind.i64.wrap (((0:Nat):Int)-1)= -1:=ae;have hz:¬((0:Int)< -1):=ae;simp only[go_sem,i98,w0];refine dD (fun k ak ao=>k=0/\ak 2=vi 0/\ak 3=vi (-1)/\ao=aj) 0 0 (bY _) ?_ ?_
 .simp only[go_sem]
 rintro k ak ao _ ⟨rfl,h2,h3,rfl⟩
 simp only[go_sem,i98_l1,h2,h3,hz]
def agN{aj:aC}{s:Nat}{x:PV}{l:Bool}:land aj [] s ((RV.one (.p x)).gj l)=some (.one (.p x),[]):=by cases l<;>rfl
def al5(cS:rm)(F:Int):aK S 69 [.one (.p (AY F))] (.one (.p (.sl []))):=by
 refine bt c69 ?_;simp only[go_sem,i69,s60,dr cS agN,s98];refine r5 (P:=fun v ao=>v=.tup []/\ao=xx) zR revE ?_;rintro v ao ⟨rfl,rfl⟩
 simp only[go_sem];refine dD (fun k ak aj=>k=0/\ak 3=.one (.p (.sl []))/\ak 15=vi 0/\ak 16=vi 0) 0 0 (bY _) ?_ ?_
 .simp only[go_sem];rfl
 rintro k ak aj _ ⟨rfl,h3,mh,qH⟩
 have hz:¬((0:Int)<0):=ae;simp only[go_sem,i69_l1,i69_r2,h3,mh,qH,hz]
def as2(cS:rm)(F:Int):aK S 40 [.one (.p (AY F))] (.agg [.p (.int .i64 F),.p .nils]):=by
 have pb:=al5 cS F;refine bt c40 ?_;simp only[go_sem,i40,s69,He pb agN];refine⟨aJ,?_⟩;refine dD (fun k ak aj=>ak 0=.one (.p (AY F))/\ak 2=.one (.aZ 2560000000 1 0)/\ak 17=.one (.hsl 2560128448 1 1 0 2)/\ak 18=vi 2/\ak 19=vi k/\ak 3=.one (.p .nils)/\
  aj 2560000000=(1,some (.var [.p (.int .i64 0),.p .nils]))/\aj 2560128448=(1,some (.arr 22 1 [[.sl []],[.sl []]]))) 0 2 (bR _) ?_ ?_
 .simp only[go_sem];first|done|rfl|exact⟨rfl,rfl⟩
 rintro k ak aj hk ⟨h0,h2,jA,iB,iK,h3,b0,bB⟩
 by_cases aA:k<2
 .have XN:k=0\/k=1:=aa;have l02:((0:Nat):Int)<2:=ae;have l12:((1:Nat):Int)<2:=ae;have hz:¬((0:Int)<0):=ae;rcases XN with rfl|rfl
  .simp only[go_sem,i40_l3,jA,iB,iK,bB,l02];refine dD (fun i aF ao=>i=0/\ao=aj/\aF 0=ak 0/\aF 2=ak 2/\aF 17=ak 17/\aF 18=ak 18/\aF 19=ak 19/\aF 3=ak 3/\aF 24=vi 0/\aF 25=vi 0) 0 0 (bY _) ?_ ?_
   .simp only[go_sem];first|done|rfl|exact⟨rfl,rfl⟩
   rintro i aF ao _ ⟨rfl,rfl,e0,e2,JS,JT,e19,e3,e24,e25⟩
   simp only[go_sem,i40_l1,i40_r2,e0,e2,JS,JT,e19,e3,e24,e25,h0,h2,h3,jA,iB,iK,b0,bB,hz];first|done|rfl|exact⟨rfl,rfl⟩
  simp only[go_sem,i40_l3,jA,iB,iK,bB,l12];refine dD (fun i aF ao=>i=0/\ao=aj/\aF 0=ak 0/\aF 2=ak 2/\aF 17=ak 17/\aF 18=ak 18/\aF 19=ak 19/\aF 3=ak 3/\aF 24=vi 0/\aF 25=vi 0) 0 0 (bY _) ?_ ?_
  .simp only[go_sem];first|done|rfl|exact⟨rfl,rfl⟩
  rintro i aF ao _ ⟨rfl,rfl,e0,e2,JS,JT,e19,e3,e24,e25⟩
  simp only[go_sem,i40_l1,i40_r2,e0,e2,JS,JT,e19,e3,e24,e25,h0,h2,h3,jA,iB,iK,b0,bB,hz];first|done|rfl|exact⟨rfl,rfl⟩
 have:k=2:=aa;subst this;have l22:¬(((2:Nat):Int)<2):=ae;simp only[go_sem,i40_l3,i40_r4,h0,h2,h3,iB,iK,b0,l22];first|done|rfl|exact⟨rfl,rfl⟩
def amX:rm:=⟨1,ah⟩
def arA{aj:aC}{s:Nat}{x c:PV}{l:Bool}:land aj [] s ((RV.agg [.p x,.p c]).gj l)=some (.agg [.p x,.p c],[]):=by cases l<;>rfl

def YB{aj:aC}{s:Nat}{x c e:PV}{l:Bool}:land aj [] s ((RV.tup [.agg [.p x,.p c],.one (.p e)]).gj l)=some (.tup [.agg [.p x,.p c],.one (.p e)],[]):=by cases l<;>rfl

structure aS where
 k:Int
 a:Int
 b:Int
 c:Int
 l:Bool
 o:Bool
 s:Int
abbrev g_:=List aS
def aS.ps(m:aS):b_:=[.int .i64 m.k,.int .i64 m.a,.int .i64 m.b,.int .i64 m.c,.bool m.l,.bool m.o,.int .i64 m.s]
abbrev qf(ms:g_):PV:=.sl (ms.map aS.ps)
def O1{ms:g_}{k:Nat}{m:aS}(h:ms[k]?=some m):(ms.map aS.ps)[k]?=some m.ps:=by rw[fG,h];rfl
def ML(L:ai)(c:C)(aj:aC):Prop:=grown 4160256128 mO 6 (dZ L) (.one c) aj\/grown 4160512129 mO 6 (dZ L) (.one c) aj\/(L=[]/\c=.p (.sl []))
def ML.snap{L:ai}{c:C}{aj:aC}(h:ML L c aj):∃r,Go.Abs.snap aj gG c=some (dd L,r):=by
 rcases h with h|h|⟨rfl,rfl⟩
 .obtain⟨r,h1,_⟩:=h.gG;exact⟨r,h1⟩
 .obtain⟨r,h1,_⟩:=h.gG;exact⟨r,h1⟩
 exact⟨[],rfl⟩
def ML.of_eq{L:ai}{c:C}{aj ao:aC}(h:ML L c aj)(h1:ao 4160256128=aj 4160256128)(h2:ao 4160512129=aj 4160512129):ML L c ao:=by
 rcases h with h|h|h
 .exact .inl (h.of_eq h1)
 .exact .inr (.inl (h.of_eq h2))
 exact .inr (.inr h)
def arD{aj:aC}{rd:a_}{s:Nat}{e:Int}{l:Bool}:land aj rd s ((sD e).gj l)=some (.tup [.agg [.p (.int .i64 0),.p .nils],.one (.p (.int .i64 e))],[]):=by cases l<;>(unfold land;rw[aD (.inr rfl)];rfl)
abbrev Iv(m:aS):V:=qj m.k m.a m.b m.c m.l m.o m.s
section
variable {Q:dX} {ak:Env} {aj:aC} {os:h_} {d:w_}
end
def MK(s:Nat)(L:ai)(c:C)(aj:aC):Prop:=grown s mO 6 (dZ L) (.one c) aj\/(L=[]/\c=.p (.sl []))
def MK.snap{s:Nat}{L:ai}{c:C}{aj:aC}(h:MK s L c aj):∃r,Go.Abs.snap aj gG c=some (dd L,r):=by
 rcases h with h|⟨rfl,rfl⟩
 .obtain⟨r,h1,_⟩:=h.gG;exact⟨r,h1⟩
 exact⟨[],rfl⟩
def MK.of_eq{s:Nat}{L:ai}{c:C}{aj ao:aC}(h:MK s L c aj)(h1:ao s=aj s):MK s L c ao:=by
 rcases h with h|h
 .exact .inl (h.of_eq h1)
 exact .inr h
section
variable {Q:dX} {ak:Env} {aj:aC} {os:h_} {d:w_}
end
end
end Go.Abs
