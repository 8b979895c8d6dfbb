/- A part. -/
import Derived.Test.YthcnadmehopfcaaGreatDoorWw
set_option linter.all false
set_option maxRecDepth 100000
set_option maxHeartbeats 16000000
namespace Go.Abs
section
variable{x:Int}{ls:List Let}{F ty:Nat}{ws:List Int}
section
attribute [local go_sem ↓] fm1 fm2
def cS(F:Nat)(ls:List Let)(k a b c:Int)(l o:Bool)(sg:Int):Bool:=
 if k=2 then !l&&(!o&&(sg==0&&((iZ ls.length a||(ls.length==0&&a==0))&&(decide (0<=b)&&(decide (b<=(F:Int))&&(decide (0<=c)&&decide (c<=(cg ls b.toNat:Int))))))))
 else if k=3\/k=6 then !l&&(!o&&(sg==0&&(iZ ls.length a&&(c==0&&(iZ ls.length b&&decide (a<b))))))
 else if k=5 then !l&&((sg==1||sg== -1)&&(iZ ls.length a&&(b==0&&c==0)))
 else if k=7 then sg==0&&(iZ ls.length a&&(c==0&&(iZ ls.length b&& !(a==b))))
 else if k=8 then !l&&(!o&&(sg==0&&(iZ ls.length a&&(iZ ls.length b&&(iZ ls.length c&&(decide (a<b)&&decide (b<c)))))))
 else if k=1\/k=4\/k=9\/k=10 then !l&&(!o&&(sg==0&&(iZ ls.length a&&(b==0&&c==0))))
 else false
theorem nZ{i:Int}{x:Bool}(h:iZ ls.length i=x):aK S 111 [vi i,.one (.p (.box [.int .i64 ls.length]))] (rb x):=h▸is_p i ls.length
theorem pZ(h:¬x=0):(x==0)=false/\(x !=0)=true:=by simp[h]
theorem wH{y:Int}(h:¬x=y):(x==y)=false/\(x !=y)=true:=by simp[h]
section
variable {F:Nat} {ls:List Let} {a b c:Int} {l o:Bool} {sg:Int}
theorem OW{k:Int}(hk:k=1\/k=4\/k=9\/k=10):aK S 96 [.one (.p (eQ F ls)),oD k a b c l o sg] (rb (cS F ls k a b c l o sg)):=by
 obtain⟨v,hv⟩:∃v,cS F ls k a b c l o sg=v:=⟨_,rfl⟩;rw[hv];rcases hk with rfl|rfl|rfl|rfl
 all_goals
  refine bh c96 ?_;simp only[go_sem,i96,gG];refine iK [0,3,4,5,6,7,8,9,10,41] fun e1 kn=>?_;simp only[go_sem] at kn;cases l with
  |true=>
   obtain rfl:v=false:=by rw[<- hv];simp[cS]
   simp only[go_sem,kn]
  |false=>
   simp only[go_sem,kn];refine iK [0,3,4,5,6,7,8,9,10,53] fun e2 jh=>?_;simp only[go_sem,kn] at jh;cases o with
   |true=>
    obtain rfl:v=false:=by rw[<- hv];simp[cS]
    simp only[go_sem,jh]
   |false=>
    simp only[go_sem,jh];refine iK [0,3,4,5,6,7,8,9,10,60] fun e3 ji=>?_;simp only[go_sem,jh] at ji;by_cases hs:sg=0
    rotate_left
    .have jX:=(pZ hs).1;have fp:=(pZ hs).2;obtain rfl:v=false:=by rw[<- hv];simp[cS,hs]
     simp only[go_sem,ji,fp]
    subst hs;cases hA:iZ ls.length a with
    |false=>
     have pA:=nZ hA;obtain rfl:v=false:=by rw[<- hv];simp[cS,hA]
     simp only[go_sem,s111,ji,dA pA]
    |true=>
     have pA:=nZ hA;simp only[go_sem,s111,ji,dA pA];refine iK [3,4,6,7,9,133] fun e4 mL=>?_;simp only[go_sem,ji] at mL;by_cases hb:b=0
     rotate_left
     .have dd:=(pZ hb).2;obtain rfl:v=false:=by rw[<- hv];simp[cS,hA,hb]
      simp only[go_sem,mL,dd]
     subst hb;simp only[go_sem,mL];refine iK [3,4,6,7,9,142] fun e5 sJ=>?_;simp only[go_sem,mL] at sJ;by_cases hc:c=0
     rotate_left
     .have iC:=(pZ hc).2;obtain rfl:v=false:=by rw[<- hv];simp[cS,hA,hc]
      simp only[go_sem,sJ,iC]
     subst hc;obtain rfl:v=true:=by rw[<- hv];simp[cS,hA]
     simp only[go_sem,sJ]
theorem ajp:aK S 96 [.one (.p (eQ F ls)),oD 2 a b c l o sg] (rb (cS F ls 2 a b c l o sg)):=by
 obtain⟨v,hv⟩:∃v,cS F ls 2 a b c l o sg=v:=⟨_,rfl⟩;rw[hv];refine bh c96 ?_;simp only[go_sem,i96,gG];refine iK [0,3,4,5,6,7,8,9,10,41] fun e1 kn=>?_;simp only[go_sem] at kn;cases l with
 |true=>
  obtain rfl:v=false:=by rw[<- hv];simp[cS]
  simp only[go_sem,kn]
 |false=>
  simp only[go_sem,kn];refine iK [0,3,4,5,6,7,8,9,10,53] fun e2 jh=>?_;simp only[go_sem,kn] at jh;cases o with
  |true=>
   obtain rfl:v=false:=by rw[<- hv];simp[cS]
   simp only[go_sem,jh]
  |false=>
   simp only[go_sem,jh];refine iK [0,3,4,5,6,7,8,9,10,60] fun e3 ji=>?_;simp only[go_sem,jh] at ji;by_cases hs:sg=0
   rotate_left
   .have jX:=(pZ hs).1;have fp:=(pZ hs).2;obtain rfl:v=false:=by rw[<- hv];simp[cS,hs]
    simp only[go_sem,ji,fp]
   subst hs;cases hA:iZ ls.length a with
   |true=>
    have pA:=nZ hA;simp only[go_sem,s111,ji,mE pA];refine ve [0,3,4,6,7,9,92] fun e4 mL=>?_;simp only[go_sem,ji] at mL;by_cases sD:0<=b
    rotate_left
    .obtain rfl:v=false:=by rw[<- hv];simp[cS,hA,sD]
     simp only[go_sem,mL,sD];exact aH
    simp only[go_sem,mL,sD];refine ve [0,3,4,6,7,9,101] fun e5 sJ=>?_;simp only[go_sem,mL] at sJ;by_cases uC:b<=(F:Int)
    rotate_left
    .obtain rfl:v=false:=by rw[<- hv];simp[cS,hA,sD,uC]
     simp only[go_sem,sJ,uC];exact aH
    obtain⟨B,rfl⟩:=th sD;have hBF:B<=F:=aa;have wO:=jY (O4 (ls:=ls) hBF);have h5:B<F+1:=aa;have h6:(counts ls F).length=F+1:=by simp[counts]
    simp only[go_sem,sJ,uC];refine ve [0,3,4,6,7,9,106] fun e6 En=>?_;simp only[go_sem,sJ] at En;by_cases wL:0<=c
    rotate_left
    .obtain rfl:v=false:=by rw[<- hv];simp[cS,hA,sD,uC,wL]
     simp only[go_sem,En,wL];exact aH
    by_cases Cs:c<=(cg ls B:Int)
    rotate_left
    .obtain rfl:v=false:=by rw[<- hv];simp[cS,hA,sD,uC,wL,Cs]
     simp only[go_sem,wO,En,wL,Cs];exact aH
    obtain rfl:v=true:=by rw[<- hv];simp[cS,hA,sD,uC,wL,Cs]
    simp only[go_sem,wO,En,wL,Cs];exact aH
   |false=>
    have pA:=nZ hA;by_cases hn:ls.length=0
    rotate_left
    .have vw:((ls.length:Int)==0)=false:=beq_false_of_ne aa;have M6:ls≠[]:=fun h=>hn (by rw[h];rfl);obtain rfl:v=false:=by rw[<- hv];simp[cS,hA,hn]
     simp only[go_sem,s111,ji,mE pA,vw];exact aH
    have vw:((ls.length:Int)==0)=true:=by rw[hn];rfl
    have M6:=HG.mp hn;by_cases ha:a=0
    rotate_left
    .have Cu:=(pZ ha).1;obtain rfl:v=false:=by rw[<- hv];simp[cS,M6,ha,show iZ 0 a=false by rw[<- hn];exact hA]
     simp only[go_sem,s111,ji,mE pA,vw,Cu];exact aH
    subst ha;simp only[go_sem,s111,ji,mE pA,vw];refine ve [0,3,4,6,7,9,92] fun e7 hh7=>?_;simp only[go_sem,ji] at hh7;by_cases sD:0<=b
    rotate_left
    .obtain rfl:v=false:=by rw[<- hv];simp[cS,hn,sD]
     simp only[go_sem,hh7,sD];exact aH
    simp only[go_sem,hh7,sD];refine ve [0,3,4,6,7,9,101] fun e8 hh8=>?_;simp only[go_sem,hh7] at hh8;by_cases uC:b<=(F:Int)
    rotate_left
    .obtain rfl:v=false:=by rw[<- hv];simp[cS,hn,sD,uC]
     simp only[go_sem,hh8,uC];exact aH
    obtain⟨B,rfl⟩:=th sD;have hBF:B<=F:=aa;have wO:=jY (O4 (ls:=ls) hBF);have h5:B<F+1:=aa;have h6:(counts ls F).length=F+1:=by simp[counts]
    simp only[go_sem,hh8,uC];refine ve [0,3,4,6,7,9,106] fun e9 hh9=>?_;simp only[go_sem,hh8] at hh9;by_cases wL:0<=c
    rotate_left
    .obtain rfl:v=false:=by rw[<- hv];simp[cS,hn,sD,uC,wL]
     simp only[go_sem,hh9,wL];exact aH
    by_cases Cs:c<=(cg ls B:Int)
    rotate_left
    .obtain rfl:v=false:=by rw[<- hv];simp[cS,hn,sD,uC,wL,Cs]
     simp only[go_sem,wO,hh9,wL,Cs];exact aH
    obtain rfl:v=true:=by rw[<- hv];simp[cS,hn,sD,uC,wL,Cs]
    simp only[go_sem,wO,hh9,wL,Cs];exact aH
theorem Zr{k:Int}(hk:k=3\/k=6):aK S 96 [.one (.p (eQ F ls)),oD k a b c l o sg] (rb (cS F ls k a b c l o sg)):=by
 obtain⟨v,hv⟩:∃v,cS F ls k a b c l o sg=v:=⟨_,rfl⟩;rw[hv];rcases hk with rfl|rfl
 all_goals
  refine bh c96 ?_;simp only[go_sem,i96,gG];refine iK [0,3,4,5,6,7,8,9,10,41] fun e1 kn=>?_;simp only[go_sem] at kn;cases l with
  |true=>
   obtain rfl:v=false:=by rw[<- hv];simp[cS]
   simp only[go_sem,kn]
  |false=>
   simp only[go_sem,kn];refine iK [0,3,4,5,6,7,8,9,10,53] fun e2 jh=>?_;simp only[go_sem,kn] at jh;cases o with
   |true=>
    obtain rfl:v=false:=by rw[<- hv];simp[cS]
    simp only[go_sem,jh]
   |false=>
    simp only[go_sem,jh];refine iK [0,3,4,5,6,7,8,9,10,60] fun e3 ji=>?_;simp only[go_sem,jh] at ji;by_cases hs:sg=0
    rotate_left
    .have jX:=(pZ hs).1;have fp:=(pZ hs).2;obtain rfl:v=false:=by rw[<- hv];simp[cS,hs]
     simp only[go_sem,ji,fp]
    subst hs;cases hA:iZ ls.length a with
    |false=>
     have pA:=nZ hA;obtain rfl:v=false:=by rw[<- hv];simp[cS,hA]
     simp only[go_sem,s111,ji,dA pA]
    |true=>
     have pA:=nZ hA;simp only[go_sem,s111,ji,dA pA];refine iK [3,4,6,7,9,142] fun e4 mL=>?_;simp only[go_sem,ji] at mL;by_cases hc:c=0
     rotate_left
     .have iC:=(pZ hc).2;obtain rfl:v=false:=by rw[<- hv];simp[cS,hA,hc]
      simp only[go_sem,mL,iC]
     subst hc;cases hB:iZ ls.length b with
     |false=>
      have pB:=nZ hB;obtain rfl:v=false:=by rw[<- hv];simp[cS,hA,hB]
      simp only[go_sem,s111,mL,dA pB]
     |true=>
      have pB:=nZ hB;simp only[go_sem,s111,mL,dA pB];refine iK [3,4,7,172,178] fun e5 sJ=>?_;simp only[go_sem,mL] at sJ;by_cases hl:a<b
      rotate_left
      .obtain rfl:v=false:=by rw[<- hv];simp[cS,hA,hB,hl]
       simp only[go_sem,sJ,hl]
      obtain rfl:v=true:=by rw[<- hv];simp[cS,hA,hB,hl]
      simp only[go_sem,sJ,hl]
theorem ajq:aK S 96 [.one (.p (eQ F ls)),oD 5 a b c l o sg] (rb (cS F ls 5 a b c l o sg)):=by
 obtain⟨v,hv⟩:∃v,cS F ls 5 a b c l o sg=v:=⟨_,rfl⟩;rw[hv];refine bh c96 ?_;simp only[go_sem,i96,gG];refine iK [0,3,4,5,6,7,8,9,10,41] fun e1 kn=>?_;simp only[go_sem] at kn;cases l with
 |true=>
  obtain rfl:v=false:=by rw[<- hv];simp[cS]
  simp only[go_sem,kn]
 |false=>
  simp only[go_sem,kn];refine iK [0,3,4,5,6,7,8,9,10,60] fun e2 jh=>?_;simp only[go_sem,kn] at jh;by_cases q0:sg=0
  .subst q0;obtain rfl:v=false:=by rw[<- hv];simp[cS]
   simp only[go_sem,jh]
  by_cases q1:sg=1
  rotate_left;by_cases q2:sg= -1
  rotate_left
  .have Mq:=(pZ q0).2;have gk:=(wH q1).2;have rD:=(wH q2).2;obtain rfl:v=false:=by rw[<- hv];simp[cS,q1,q2]
   simp only[go_sem,jh,Mq,gk,rD]
  .subst q1;cases hA:iZ ls.length a with
   |false=>
    have pA:=nZ hA;obtain rfl:v=false:=by rw[<- hv];simp[cS,hA]
    simp only[go_sem,s111,jh,dA pA]
   |true=>
    have pA:=nZ hA;simp only[go_sem,s111,jh,dA pA];refine iK [3,4,6,7,9,133] fun e3 ji=>?_;simp only[go_sem,jh] at ji;by_cases hb:b=0
    rotate_left
    .have dd:=(pZ hb).2;obtain rfl:v=false:=by rw[<- hv];simp[cS,hA,hb]
     simp only[go_sem,ji,dd]
    subst hb;simp only[go_sem,ji];refine iK [3,4,6,7,9,142] fun e4 mL=>?_;simp only[go_sem,ji] at mL;by_cases hc:c=0
    rotate_left
    .have iC:=(pZ hc).2;obtain rfl:v=false:=by rw[<- hv];simp[cS,hA,hc]
     simp only[go_sem,mL,iC]
    subst hc;obtain rfl:v=true:=by rw[<- hv];simp[cS,hA]
    simp only[go_sem,mL]
  subst q2;cases hA:iZ ls.length a with
  |false=>
   have pA:=nZ hA;obtain rfl:v=false:=by rw[<- hv];simp[cS,hA]
   simp only[go_sem,s111,jh,dA pA]
  |true=>
   have pA:=nZ hA;simp only[go_sem,s111,jh,dA pA];refine iK [3,4,6,7,9,133] fun e5 sJ=>?_;simp only[go_sem,jh] at sJ;by_cases hb:b=0
   rotate_left
   .have dd:=(pZ hb).2;obtain rfl:v=false:=by rw[<- hv];simp[cS,hA,hb]
    simp only[go_sem,sJ,dd]
   subst hb;simp only[go_sem,sJ];refine iK [3,4,6,7,9,142] fun e6 En=>?_;simp only[go_sem,sJ] at En;by_cases hc:c=0
   rotate_left
   .have iC:=(pZ hc).2;obtain rfl:v=false:=by rw[<- hv];simp[cS,hA,hc]
    simp only[go_sem,En,iC]
   subst hc;obtain rfl:v=true:=by rw[<- hv];simp[cS,hA]
   simp only[go_sem,En]
end
end
section
attribute [local go_sem ↓] fm1 fm2
section
variable {F:Nat} {ls:List Let} {a b c:Int} {l o:Bool} {sg:Int}
theorem ajr:aK S 96 [.one (.p (eQ F ls)),oD 7 a b c l o sg] (rb (cS F ls 7 a b c l o sg)):=by
 obtain⟨v,hv⟩:∃v,cS F ls 7 a b c l o sg=v:=⟨_,rfl⟩;rw[hv];refine bh c96 ?_;simp only[go_sem,i96,gG];refine iK [0,3,4,5,6,7,8,9,10,60] fun e1 kn=>?_;simp only[go_sem] at kn;by_cases hs:sg=0
 rotate_left
 .have jX:=(pZ hs).1;have fp:=(pZ hs).2;obtain rfl:v=false:=by rw[<- hv];simp[cS,hs]
  simp only[go_sem,kn,fp]
 subst hs;cases hA:iZ ls.length a with
 |false=>
  have pA:=nZ hA;obtain rfl:v=false:=by rw[<- hv];simp[cS,hA]
  simp only[go_sem,s111,kn,dA pA]
 |true=>
  have pA:=nZ hA;simp only[go_sem,s111,kn,dA pA];refine iK [3,4,6,7,9,142] fun e2 jh=>?_;simp only[go_sem,kn] at jh;by_cases hc:c=0
  rotate_left
  .have iC:=(pZ hc).2;obtain rfl:v=false:=by rw[<- hv];simp[cS,hA,hc]
   simp only[go_sem,jh,iC]
  subst hc;cases hB:iZ ls.length b with
  |false=>
   have pB:=nZ hB;obtain rfl:v=false:=by rw[<- hv];simp[cS,hA,hB]
   simp only[go_sem,s111,jh,dA pB]
  |true=>
   have pB:=nZ hB;simp only[go_sem,s111,jh,dA pB];by_cases hn:a=b
   .subst hn;obtain rfl:v=false:=by rw[<- hv];simp[cS,hA]
    simp only[go_sem]
   have iD:=(wH hn).2;obtain rfl:v=true:=by rw[<- hv];simp[cS,hA,hB,hn]
   simp only[go_sem,iD]
theorem ajs:aK S 96 [.one (.p (eQ F ls)),oD 8 a b c l o sg] (rb (cS F ls 8 a b c l o sg)):=by
 obtain⟨v,hv⟩:∃v,cS F ls 8 a b c l o sg=v:=⟨_,rfl⟩;rw[hv];refine bh c96 ?_;simp only[go_sem,i96,gG];refine iK [0,3,4,5,6,7,8,9,10,41] fun e1 kn=>?_;simp only[go_sem] at kn;cases l with
 |true=>
  obtain rfl:v=false:=by rw[<- hv];simp[cS]
  simp only[go_sem,kn]
 |false=>
  simp only[go_sem,kn];refine iK [0,3,4,5,6,7,8,9,10,53] fun e2 jh=>?_;simp only[go_sem,kn] at jh;cases o with
  |true=>
   obtain rfl:v=false:=by rw[<- hv];simp[cS]
   simp only[go_sem,jh]
  |false=>
   simp only[go_sem,jh];refine iK [0,3,4,5,6,7,8,9,10,60] fun e3 ji=>?_;simp only[go_sem,jh] at ji;by_cases hs:sg=0
   rotate_left
   .have jX:=(pZ hs).1;have fp:=(pZ hs).2;obtain rfl:v=false:=by rw[<- hv];simp[cS,hs]
    simp only[go_sem,ji,fp]
   subst hs;cases hA:iZ ls.length a with
   |false=>
    have pA:=nZ hA;obtain rfl:v=false:=by rw[<- hv];simp[cS,hA]
    simp only[go_sem,s111,ji,dA pA]
   |true=>
    have pA:=nZ hA;simp only[go_sem,s111,ji,dA pA];cases hB:iZ ls.length b with
    |false=>
     have pB:=nZ hB;obtain rfl:v=false:=by rw[<- hv];simp[cS,hA,hB]
     simp only[go_sem,ji,dA pB]
    |true=>
     have pB:=nZ hB;cases hD:iZ ls.length c with
     |false=>
      have pD:=nZ hD;obtain rfl:v=false:=by rw[<- hv];simp[cS,hA,hB,hD]
      simp only[go_sem,s111,ji,dA pB,dA pD]
     |true=>
      have pD:=nZ hD;simp only[go_sem,s111,ji,dA pB,dA pD];refine iK [3,4,7,172,178] fun e4 mL=>?_;simp only[go_sem,ji] at mL;by_cases hl:a<b
      rotate_left
      .obtain rfl:v=false:=by rw[<- hv];simp[cS,hA,hB,hD,hl]
       simp only[go_sem,mL,hl]
      by_cases hm:b<c
      rotate_left
      .obtain rfl:v=false:=by rw[<- hv];simp[cS,hA,hB,hD,hl,hm]
       simp only[go_sem,mL,hl,hm]
      obtain rfl:v=true:=by rw[<- hv];simp[cS,hA,hB,hD,hl,hm]
      simp only[go_sem,mL,hl,hm]
theorem ajo(k:Int):aK S 96 [.one (.p (eQ F ls)),oD k a b c l o sg] (rb (cS F ls k a b c l o sg)):=by
 by_cases h1:k=1
 .subst h1;exact OW ae
 by_cases h2:k=2
 .subst h2;exact ajp
 by_cases h3:k=3
 .subst h3;exact Zr ae
 by_cases h4:k=4
 .subst h4;exact OW ae
 by_cases h5:k=5
 .subst h5;exact ajq
 by_cases h6:k=6
 .subst h6;exact Zr ae
 by_cases h7:k=7
 .subst h7;exact ajr
 by_cases h8:k=8
 .subst h8;exact ajs
 by_cases h9:k=9
 .subst h9;exact OW ae
 by_cases dZ:k=10
 .subst dZ;exact OW ae
 rw[show cS F ls k a b c l o sg=false by simp[cS,h1,h2,h3,h4,h5,h6,h7,h8,h9,dZ]];have e1:=(wH h1).1;have e2:=(wH h2).1;have e3:=(wH h3).1;have e4:=(wH h4).1;have e5:=(wH h5).1;have e6:=(wH h6).1;have e7:=(wH h7).1;have e8:=(wH h8).1;have e9:=(wH h9).1;have qH:=(wH dZ).1;refine bh c96 ?_;simp only[go_sem,i96,gG,e1,e2,e3,e4,e5,e6,e7,e8,e9,qH]
end
end
structure Swo {α:Type} (lt:α->α->Bool):Prop where
 asym:∀a b,lt a b=true->lt b a=false
 ntrans:∀a b c,lt b a=false->lt c b=false->lt c a=false
def tq{α:Type}(lt:α->α->Bool)(ws:List α)(a b:Nat):Prop:=∀p q x y,a<=p->p<q->q<b->ws[p]?=some x->ws[q]?=some y->lt y x=false
structure yP {α:Type} (lt:α->α->Bool) (zs ws:List α) (x:α) (a i j:Nat):Prop where
 perm:ws.Perm zs
 le:a<=j/\j<=i/\i<ws.length
 at':ws[j]?=some x
 up:∀p y,j<p->p<=i->ws[p]?=some y->lt x y=true
 so:∀p q y z,a<=p->p<q->q<=i->p≠j->q≠j->ws[p]?=some y->ws[q]?=some z->lt z y=false
 out:∀p,p<a\/i<p->ws[p]?=zs[p]?
theorem yP.start{α:Type}{lt:α->α->Bool}{zs:List α}{x:α}{a i:Nat}(ha:a<=i)(hi:zs[i]?=some x)(hs:tq lt zs a i):yP lt zs zs x a i i:=
 ⟨.refl _,⟨ha,bJ _,(aW.1 hi).1⟩,hi,fun p y h1 h2=>aa,fun p q y z h0 h1 h2 h3 h4=>hs p q y z h0 h1 aa,fun _ _=>rfl⟩
theorem swap_perm{α:Type}{ws:List α}{i j:Nat}{x y:α}(hi:ws[i]?=some x)(hj:ws[j]?=some y):((ws.set i y).set j x).Perm ws:=by obtain⟨h1,e1⟩:=aW.1 hi;obtain⟨h2,e2⟩:=aW.1 hj;have:=List.set_set_perm h1 h2;rwa[e1,e2] at this
theorem yP.step{α:Type}{lt:α->α->Bool}{zs ws:List α}{x y:α}{a i j:Nat}(o:Swo lt)(h:yP lt zs ws x a i (j+1))(hj:a<=j)(hy:ws[j]?=some y)(au:lt x y=true):
  yP lt zs ((ws.set (j+1) y).set j x) x a i j:=by
 obtain⟨hp,⟨_,hle,hl⟩,jC,vF,JC,nU⟩:=h;have Gm:j<ws.length:=(aW.1 hy).1;have get:∀p,((ws.set (j+1) y).set j x)[p]?=if p=j then some x else if p=j+1 then some y else ws[p]? :=fun p=>by
  rw[pQ,pQ,tk];by_cases e1:j=p
  .subst e1;simp[Gm]
  by_cases e2:j+1=p
  .subst e2;have:¬(j+1=j):=aa;rw[ay e1,aF rfl,aF aa,ay this,aF rfl]
  rw[ay e1,ay e2,ay (fun h=>e1 h.symm),ay (fun h=>e2 h.symm)]
 refine⟨(swap_perm jC hy).trans hp,⟨hj,aa,by simp;omega⟩,by rw[get];simp,?_,?_,?_⟩
 .intro p z h1 h2 hz;rw[get,ay aa] at hz;by_cases e:p=j+1
  .rw[aF e] at hz;cases hz;exact au
  rw[ay e] at hz;exact vF p z aa h2 hz
 .intro p q u v h0 h1 h2 h3 h4 hu hv;rw[get,ay h3] at hu;rw[get,ay h4] at hv;by_cases e:p=j+1
  .rw[aF e] at hu;cases hu;rw[ay aa] at hv;exact JC j q _ _ hj aa h2 aa aa hy hv
  rw[ay e] at hu;by_cases e2:q=j+1
  .rw[aF e2] at hv;cases hv;exact JC p j _ _ h0 aa aa e aa hu hy
  rw[ay e2] at hv;exact JC p q _ _ h0 h1 h2 e e2 hu hv
 intro p hJ;rw[get,ay aa,ay aa,nU p hJ]
theorem yP.stop{α:Type}{lt:α->α->Bool}{zs ws:List α}{x:α}{a i j:Nat}(o:Swo lt)(h:yP lt zs ws x a i j)(hj:j=a\/ ∃y,a<j/\ws[j-1]?=some y/\lt x y=false):tq lt ws a (i+1):=by
 obtain⟨hp,⟨hja,hle,hl⟩,jC,vF,JC,nU⟩:=h;intro p q u v h0 h1 h2 hu hv;by_cases e:q=j
 .subst e;rw[jC] at hv;cases hv;rcases hj with hj|⟨y,CV,hy,jG⟩
  .omega
  by_cases e3:p=q-1
  .subst e3;rw[hy] at hu;cases hu;exact jG
  exact o.ntrans _ _ _ (JC p (q-1) _ _ h0 aa aa aa aa hu hy) jG
 by_cases e2:p=j
 .subst e2;rw[jC] at hu;cases hu;exact o.asym _ _ (vF q v h1 aa hv)
 exact JC p q u v h0 h1 aa e2 e hu hv
theorem tq.mono{α:Type}{lt:α->α->Bool}{ws:List α}{a b c:Nat}(h:tq lt ws a c)(hb:b<=c\/ws.length<=c):tq lt ws a b:=fun p q x y h0 h1 h2 hx hy=>h p q x y h0 h1 (by
 rcases hb with hb|hb
 .omega
 have:=(aW.1 hy).1;omega) hx hy
theorem tq.pair{α:Type}{lt:α->α->Bool}{ws:List α}(h:tq lt ws 0 ws.length):ws.Pairwise fun x y=>lt y x=false:=by rw[HK];intro i j hi hj fm;exact h i j _ _ (bl _) fm hj (my hi) (my hj)
abbrev rQ(a b:Int):Bool:=decide (a<b)
theorem X0:Swo rQ:=⟨fun a b h=>by simp at*;omega,fun a b c h k=>by simp at*;omega⟩
theorem aqw(a:Int):aK S 205 [vi a] (rb false):=by refine bh c205 ?_;have h:(a !=a)=false:=af;simp only[go_sem,i205,h]
theorem apy(a b:Int):aK S 189 [vi a,vi b] (rb (rQ a b)):=by have pn:=aqw a;refine bh c189 ?_;simp only[go_sem,i189,s205,dA pn,rQ]
theorem SQ(n:Nat)(h:n<=1000000):∃k:Int,aK S 134 [.one (.p (.int .u64 n))] (ri k):=by
 refine⟨((Lib.bitLen n:Nat):Int),⟨1,?_⟩⟩;have hp:S.prim 134 [.one (.p (.int .u64 (n:Int)))]=some (some (ri ((Lib.bitLen n:Nat):Int))):=by show some (N6 [.one (.p (.int .u64 (n:Int)))])=_;simp only[N6];rw[aF ⟨aa,aa⟩];rfl
 rw[gh,hp]
theorem WC(o:List Int)(k:Nat)(v:Int):(iP o).set k [.int .i64 v]=iP (o.set k v):=by simp[K9]
theorem wX(o:List Int):(iP o).length=o.length:=cD _
def Ff(lt:Int->Int->Bool)(id g ty:Nat)(es:List Int)(aj:aA)(v:V)(ao:aA):Prop:=v=.tup []/\(∃ws:List Int,ao id=(g,some (.arr ty 1 (iP ws)))/\ws.Perm es/\tq lt ws 0 ws.length)/\Kept (· =id) aj ao
theorem aoO{al:Al}{aj:aA}{id g:Nat}{es:List Int}(o:al.ok id=true)(hl:es.length<=1000000)(hC:aj id=(g,some (.arr ty 1 (iP es)))):
  ∃v ao,iF S 183 [.one (.hsl id g 1 0 es.length),vi 0,vi es.length] al aj v ao/\Ff rQ id g ty es aj v ao:=by
 refine mA c183 (ig rfl) ?_;have w0:IntKind.i64.wrap (0+1)=((0+1:Nat):Int):=ae;simp only[go_sem,i183];refine cU (fun k ak ao=>ak 0=.one (.hsl id g 1 0 es.length)/\ak 1=vi 0/\ak 2=vi es.length/\ak 6=vi ((k+1:Nat):Int)/\ ∃zs:List Int,ao id=(g,some (.arr ty 1 (iP zs)))/\zs.Perm es/\tq rQ zs 0 (k+1)/\Kept (· =id) aj ao) 0 es.length (bl _) ?_ ?_
 .simp only[go_sem];exact⟨rfl,es,hC,.refl _,fun p q x y _ h1 h2=>aa,Kept.refl _ _⟩
 rintro k ak bQ hk ⟨h0,h1,h2,h6,zs,hZ,hp,hs,dw⟩
 have mf:=hp.length_eq;by_cases au:k+1<es.length
 .have aL:((k+1:Nat):Int)<(es.length:Int):=aa;obtain⟨x,hx⟩:=aM (ls:=zs) (k:=k+1) aa;simp only[go_sem,i183_l3,h2,h6,aL];refine cU (fun q ak ao=>ak 0=.one (.hsl id g 1 0 es.length)/\ak 1=vi 0/\ak 2=vi es.length/\ak 6=vi ((k+1:Nat):Int)/\ak 7=vi ((k+1-q:Nat):Int)/\ ∃ws:List Int,ao id=(g,some (.arr ty 1 (iP ws)))/\yP rQ zs ws x 0 (k+1) (k+1-q)/\Kept (· =id) aj ao) 0 (k+1) (bl _) ?_ ?_
  .simp only[go_sem,h0,h1,h2,h6];exact⟨zs,hZ,yP.start (bl _) hx hs,dw⟩
  rintro q cZ bj hq ⟨k0,k1,k2,k6,k7,ws,hW,hI,Gq⟩
  have jm:ws.length=es.length:=hI.perm.length_eq.trans mf;have wk:IntKind.i64.wrap (((k+1:Nat):Int)+1)=((k+1+1:Nat):Int):=cA (n:=k+1) aa;by_cases hj0:k+1-q=0
  .have e7:¬((0:Int)<((k+1-q:Nat):Int)):=aa;simp only[go_sem,i183_l1,i183_r2,k0,k1,k2,k6,k7,e7,wk];refine⟨aH,aa,ws,hW,hI.perm.trans hp,hI.stop X0 (.inl hj0),Gq⟩
  obtain⟨j,hj⟩:∃j,k+1-q=j+1:=⟨k-q,aa⟩;have e7:((0:Int)<((j+1:Nat):Int)):=aa;obtain⟨y,hy⟩:=aM (ls:=ws) (k:=j) aa;rw[hj] at hI k7;have wj:IntKind.i64.wrap (((j+1:Nat):Int)-1)=(j:Int):=by rw[yI aa];omega
  have Bg:=wW hI.at';have CV:=wW hy;have j1:j+1<es.length:=by have:=hI.le;omega
  have j2:j<es.length:=aa;have pl:=apy x y;cases jG:rQ x y with
  |false=>rw[jG] at pl;simp only[go_sem,i183_l1,i183_r2,k0,k1,k2,k6,k7,e7,wk,wj,hW,Bg,CV,j1,j2,o,s189,O5 pl];refine⟨aH,aa,ws,rfl,hI.perm.trans hp,hI.stop X0 (.inr ⟨y,aa,hy,jG⟩),Gq⟩
  |true=>rw[jG] at pl;have wM:=hI.step X0 (bl _) hy jG;have hjj:¬(j+1=j):=aa;have l1:j+1<ws.length:=aa;have l2:j<ws.length:=aa;simp only[go_sem,i183_l1,i183_r2,k0,k1,k2,k6,k7,e7,wj,hW,Bg,CV,j1,j2,l1,hjj,o,s189,O5 pl,pQ,wX];have Nk:k+1-(q+1)=j:=aa;refine⟨aH,aH,aa,by rw[Nk],(ws.set (j+1) y).set j x,by rw[WC,WC],by rw[Nk];exact wM,(Gq.dJ rfl _).dJ rfl _⟩
 have aL:¬(((k+1:Nat):Int)<(es.length:Int)):=aa;simp only[go_sem,i183_l3,h2,h6,aL];exact⟨rfl,⟨zs,hZ,hp,hs.mono (.inl aa)⟩,dw⟩
theorem AS{Q:dD}{al:Al}{ak:Env}{aj:aA}{os:List bG}{d:Option Nat}{f id g ty z o n:Nat}{vs:List V}{es:List (List PV)}{P:V->aA->Prop}(hC:aj id=(g,some (.arr ty z es)))(qR:(vs.map (jc aj)).flatten=[])(hh:al=.all\/al.ok id=true/\(S.sites f).all al.fs.contains=true)
  (h:∀qC,qC.ok id=true->qC.fs=S.sites f->∃v ao,iF S f (.one (.hsl id g z o n)::vs) qC aj v ao/\P v ao)
  (hK:∀v ao,P v ao->RN S al os Q (put ak d v) ao):gP S al (.sc f (.one (.hsl id g z o n)::vs)) d os Q ak aj:=by
 have hr:((V.one (.hsl id g z o n)::vs).map (jc aj)).flatten=[id]:=by rw[dK,lQ,qR,XE hC];rfl
 refine qK (P:=P) ?_ (h _ (r7 (by rw[hr];simp)) rfl) hK;rcases hh with rfl|⟨h1,h2⟩
 .rfl
 refine holds_of ?_ h2;show al.ft ((V.one (.hsl id g z o n)::vs).map (jc aj)).flatten=true;rw[hr];simp[Al.ft,h1]
theorem arc{al:Al}{aj:aA}{id g:Nat}{es:List Int}(o:al.ok id=true)(f1:al.fs.contains 183=true)(hl:es.length<=12)(hC:aj id=(g,some (.arr ty 1 (iP es))))(lim:Int):
  ∃v ao,iF S 169 [.one (.hsl id g 1 0 es.length),vi 0,vi es.length,vi lim] al aj v ao/\Ff rQ id g ty es aj v ao:=by
 refine mA c169 (ig rfl) ?_;have w0:IntKind.i64.wrap ((es.length:Int)-0)=(es.length:Int):=by rw[Int.sub_zero];exact vX aa aa
 have iT:(es.length:Int)<=12:=aa;simp only[go_sem,i169];refine rm ?_;simp only[go_sem,i169_l1,w0,iT,s183];refine AS hC (by rfl) (.inr ⟨o,by rw[show S.sites 183=[183] by kernel_rfl];simp only[mw,pP,f1,vY]⟩) (P:=Ff rQ id g ty es aj) (fun qC h1 _=>aoO h1 aa hC) fun v ao hP=>?_;obtain⟨rfl,h2⟩:=hP;simp only[go_sem];exact⟨rfl,h2⟩
theorem XX{al:Al}{aj:aA}{id g:Nat}{es:List Int}(o:al.ok id=true)(f1:(S.sites 169).all al.fs.contains=true)(hl:es.length<=12)(hC:aj id=(g,some (.arr ty 1 (iP es)))):
  ∃v ao,iF S 135 [.one (.hsl id g 1 0 es.length)] al aj v ao/\Ff rQ id g ty es aj v ao:=by
 obtain⟨k,pb⟩:=SQ es.length aa;have wu:IntKind.u64.wrap (es.length:Int)=(es.length:Int):=by
  have e:IntKind.u64.wrap (es.length:Int)=(es.length:Int)%18446744073709551616:=by unfold IntKind.wrap;rfl
  rw[e];omega
 refine mA c135 (ig rfl) ?_;have sbl:S.shared 134=false:=ah;simp only[go_sem,i135,wu,sbl,DX pb,s169];refine AS hC (by rfl) (.inr ⟨o,f1⟩) (P:=Ff rQ id g ty es aj) (fun qC h1 h2=>arc h1 (by rw[h2];kernel_rfl) hl hC k) fun v ao hP=>?_;obtain⟨rfl,h2⟩:=hP;simp only[go_sem];exact⟨rfl,h2⟩
def lI(ws:List Int):Nat->List Int
 |0=>[]
 |k+1=>match ws[k]? with
  |some x=>if 0<k/\ws[k-1]?=some x then lI ws k else lI ws k++[x]
  |none=>lI ws k
theorem aap(ws:List Int):∀k,(lI ws k).length<=k:=by
 intro k
 induction k with
 |zero=>exact bJ _
 |succ k ih=>
  unfold lI;split
  .split
   .omega
   simp;omega
  omega
theorem Tl{k:Nat}(h:ws[k+1]?=some x)(hp:ws[k]?=some x):lI ws (k+2)=lI ws (k+1):=by
 conv=>lhs;unfold lI
 rw[h];simp[hp]
theorem Tj{k:Nat}{y:Int}(h:ws[k+1]?=some x)(hp:ws[k]?=some y)(hn:¬x=y):lI ws (k+2)=lI ws (k+1)++[x]:=by
 conv=>lhs;unfold lI
 rw[h];have:¬y=x:=fun e=>hn e.symm;simp[hp,this]
theorem akW(h:ws[0]?=some x):lI ws 1=[x]:=by simp[lI,h]
def QK(ws:List Int)(k:Nat):Prop:=∀i x y,i+1<k->ws[i]?=some x->ws[i+1]?=some y-> ¬y=x
theorem Tk:∀k,k<=ws.length->QK ws k->lI ws k=ws.take k:=by
 intro k
 induction k with
 |zero=>intro _ _;rfl
 |succ k ih=>
  intro hk h;obtain⟨x,hx⟩:=aM (ls:=ws) (k:=k) aa;have e:=ih aa fun i x y h1=>h i x y aa;have ht:ws.take (k+1)=ws.take k++[x]:=by rw[kX,hx];rfl
  rcases k with _|k
  .rw[akW hx,ht];rfl
  obtain⟨y,hy⟩:=aM (ls:=ws) (k:=k) aa;rw[Tj hx hy (h k y x aa hy hx),e,ht]
structure y9 (ws cs:List Int) (k q:Nat):Prop where
 len:cs.length=ws.length
 kl:k=(lI ws q).length
 pre:cs.take k=lI ws q
 out:∀p,q-1<=p->cs[p]?=ws[p]?
 kq:k<q
theorem y9.step{cs:List Int}{k q:Nat}{y:Int}(h:y9 ws cs k (q+1))(hx:ws[q+1]?=some x)(hy:ws[q]?=some y)(hn:¬x=y):y9 ws (cs.set k x) (k+1) (q+2):=by
 obtain⟨h1,h2,h3,h4,h5⟩:=h;have hl:=aap ws (q+1);have hq:q+1<ws.length:=(aW.1 hx).1;refine⟨by simpa using h1,by rw[Tj hx hy hn,ff,<- h2];rfl,?_,fun p hp=>?_,aa⟩
 .rw[Tj hx hy hn,kX,pQ];have:k<cs.length:=aa;rw[aF rfl,aF this,List.take_set_of_le (bJ _),h3];rfl
 rw[pQ,ay aa];exact h4 p aa
theorem y9.skip{cs:List Int}{k q:Nat}(h:y9 ws cs k (q+1))(hx:ws[q+1]?=some x)(hy:ws[q]?=some x):y9 ws cs k (q+2):=by obtain⟨h1,h2,h3,h4,h5⟩:=h;exact⟨h1,by rw[Tl hx hy];exact h2,by rw[Tl hx hy];exact h3,fun p hp=>h4 p aa,aa⟩
theorem y9.start{k:Nat}(hk:k+1<ws.length)(h:QK ws (k+1))(hx:ws[k+1]?=some x)(hy:ws[k]?=some x):y9 ws ws (k+1) (k+2):=by have e:=Tk (k+1) aa h;have e2:lI ws (k+2)=ws.take (k+1):=(Tl hx hy).trans e;exact⟨rfl,by rw[e2];simp;omega,by rw[e2],fun _ _=>rfl,aa⟩
def S7(id g ty:Nat)(ws:List Int)(aj:aA)(v:V)(ao:aA):Prop:=v=.one (.hsl id g 1 0 (lI ws ws.length).length)/\(∃cs:List Int,ao id=(g,some (.arr ty 1 (iP cs)))/\cs.length=ws.length/\cs.take (lI ws ws.length).length=lI ws ws.length)/\Kept (· =id) aj ao
theorem aoy{cs:List Int}{k:Nat}(hk:k<=cs.length):List.take k (iP cs)++List.replicate (cs.length-k) [PV.int .i64 0]++List.drop (k+(cs.length-k)) (iP cs)=iP (cs.take k++List.replicate (cs.length-k) 0):=by rw[Se (by simp;omega),jP];simp only[iP,j6,List.map_replicate,HH]
theorem aaf{al:Al}{aj:aA}{id g:Nat}(o:al.ok id=true)(hl:ws.length<=1000000)(hC:aj id=(g,some (.arr ty 1 (iP ws)))):
  ∃v ao,iF S 152 [.one (.hsl id g 1 0 ws.length)] al aj v ao/\S7 id g ty ws aj v ao:=by
 refine mA c152 (ig rfl) ?_;by_cases h2:ws.length<2
 .have iV:((ws.length:Int)<2):=aa;have eZ:QK ws ws.length:=fun i x y h=>aa;have e:=Tk ws.length (bJ _) eZ;rw[jQ] at e;simp only[go_sem,i152,iV];exact⟨by rw[e],⟨ws,hC,rfl,by rw[e,jQ]⟩,Kept.refl _ _⟩
 have iV:¬((ws.length:Int)<2):=aa;simp only[go_sem,i152,iV];refine cU (fun q ak ao=>ak 0=.one (.hsl id g 1 0 ws.length)/\ak 3=vi ((q+1:Nat):Int)/\QK ws (q+1)/\ao=aj) 0 ws.length (bl _) ?_ ?_
 .simp only[go_sem];exact⟨rfl,fun i x y h=>aa⟩
 rintro q ak bQ hq ⟨h0,h3,eZ,rfl⟩
 by_cases au:q+1<ws.length
 .have aL:(((q+1:Nat):Int)<(ws.length:Int)):=aa;obtain⟨x,hx⟩:=aM (ls:=ws) (k:=q+1) au;obtain⟨y,hy⟩:=aM (ls:=ws) (k:=q) aa;have Bg:=wW hx;have CV:=wW hy;have wj:IntKind.i64.wrap (((q+1:Nat):Int)-1)=(q:Int):=by rw[yI aa];omega
  have wk:=cA (n:=q+1) aa;have q1:q<ws.length:=aa;have q2:q+1<=ws.length:=aa;by_cases e:x=y
  .subst e;simp only[go_sem,i152_l4,h0,h3,au,aL,Bg,CV,wj,q1,q2,hC,o];refine⟨aH,?_⟩;refine cU (fun r ak ao=>ak 0=.one (.hsl id g 1 0 ws.length)/\ak 4=.one (.hsl id g 1 (q+1) (ws.length-(q+1)))/\ak 5=vi ((r+1:Nat):Int)/\ ∃(cs:List Int) (k:Nat),ak 3=vi (k:Nat)/\ao id=(g,some (.arr ty 1 (iP cs)))/\y9 ws cs k (q+2+r)/\q+2+r<=ws.length/\Kept (· =id) bQ ao) 0 ws.length (bl _) ?_ ?_
   .simp only[go_sem,h0];exact⟨rfl,ws,q+1,h3,hC,y9.start au eZ hx hy,aa,Kept.refl _ _⟩
   rintro r cZ bj hr ⟨k0,k4,k5,cs,k,k3,hB,hI,hqr,dw⟩
   have bR:=hI.len;have ef:=hI.kl;have hkle:=aap ws (q+2+r);have hkq:=hI.kq;have Ee:y9 ws cs k (q+1+r+1):=by rw[show q+1+r+1=q+2+r by omega];exact hI
   by_cases P0:r+1<ws.length-(q+1)
   .have P9:(((r+1:Nat):Int)<((ws.length-(q+1):Nat):Int)):=aa;obtain⟨u,hu⟩:=aM (ls:=ws) (k:=q+1+(r+1)) aa;obtain⟨v,hv⟩:=aM (ls:=ws) (k:=q+1+r) aa;have cu:=wW ((hI.out (q+1+(r+1)) aa).trans hu);have cv:=wW ((hI.out (q+1+r) aa).trans hv);have wr:IntKind.i64.wrap (((r+1:Nat):Int)-1)=(r:Int):=by rw[yI aa];omega
    have wr2:=cA (n:=r+1) aa;have wk2:=cA (n:=k) aa;have r1:r<ws.length-(q+1):=aa;have kk:k<ws.length:=aa;have kk2:k<cs.length:=aa;obtain⟨z,hz⟩:=aM kk2;have cz:=wW hz;by_cases e2:u=v
    .subst e2;have zU:(u !=u)=false:=af;have wM:=Ee.skip (by rw[show q+1+r+1=q+1+(r+1) by omega];exact hu) hv;simp only[go_sem,i152_l1,k0,k4,k5,k3,P0,P9,r1,hB,cu,cv,wr,wr2,zU,o];refine⟨aH,aa,cs,k,rfl,rfl,by rw[show q+2+(r+1)=q+1+r+2 by omega];exact wM,aa,dw⟩
    have zU:=(show(u !=v)=true by simp[e2]);simp only[go_sem,i152_l1,k0,k4,k5,k3,P0,P9,r1,hB,cu,cv,wr,wr2,wk2,kk,cz,zU,o];have wM:=Ee.step (by rw[show q+1+r+1=q+1+(r+1) by omega];exact hu) hv e2;refine⟨aH,aa,cs.set k u,k+1,rfl,by rw[WC],by rw[show q+2+(r+1)=q+1+r+2 by omega];exact wM,aa,dw.dJ rfl _⟩
   have P9:¬(((r+1:Nat):Int)<((ws.length-(q+1):Nat):Int)):=aa;have kk3:k<=ws.length:=aa;have kk4:k+(ws.length-k)<=cs.length:=aa;have aI:¬(ws.length-k=0):=aa;have PQ:q+2+r=ws.length:=aa;rw[PQ] at hI;have nW:=aoy (cs:=cs) (k:=k) aa;rw[bR] at nW;simp only[go_sem,i152_l1,i152_r2,k0,k4,k5,k3,P9,hB,o,kk3,kk4,aI,Yx,wX,nW];obtain⟨i1,i2,i3,i4,i5⟩:=hI;refine⟨by rw[<- i2],⟨_,Ai,by simp;omega,?_⟩,dw.dJ rfl _⟩;rw[<- i2,List.take_left' (by simp;omega),i3]
  have e1:=(show(x==y)=false by simp[e]);simp only[go_sem,i152_l4,i152_r3,h0,h3,au,aL,Bg,CV,wj,wk,q1,hC,o,e1];refine⟨aH,fun i u v h h4 h5=>?_⟩;by_cases e2:i=q
  .subst e2;rw[hy] at h4;rw[hx] at h5;cases h4;cases h5;exact e
  exact eZ i u v aa h4 h5
 have aL:¬(((q+1:Nat):Int)<(ws.length:Int)):=aa;have e:=Tk ws.length (bJ _) (fun i x y h=>eZ i x y aa);rw[jQ] at e;simp only[go_sem,i152_l4,i152_r5,h0,h3,aL];exact⟨by rw[e],⟨ws,hC,rfl,by rw[e,jQ]⟩,Kept.refl _ _⟩
def mZ:List Int->List Int
 |[]=>[]
 |x::r=>if x∈r then mZ r else x::mZ r
theorem O7:∀ {l:List Int},x∈mZ l↔x∈l:=by
 intro l
 induction l with
 |nil=>simp[mZ]
 |cons y r ih=>
  unfold mZ;split
  .rename_i h;rw[ih,cM];constructor
   .exact .inr
   rintro (rfl|h2)
   .exact h
   exact h2
  rw[cM,cM,ih]
theorem ali:∀l:List Int,(mZ l).Nodup:=by
 intro l
 induction l with
 |nil=>exact uh
 |cons y r ih=>
  unfold mZ;split
  .exact ih
  rename_i h;exact qy.2 ⟨fun h2=>h (O7.1 h2),ih⟩
theorem aaq:∀k,k<=ws.length->(x∈lI ws k↔x∈ws.take k):=by
 intro k
 induction k with
 |zero=>intro _;simp[lI]
 |succ k ih=>
  intro hk;obtain⟨y,hy⟩:=aM (ls:=ws) (k:=k) aa;have ht:ws.take (k+1)=ws.take k++[y]:=by rw[kX,hy];rfl
  have ih:=ih aa;unfold lI;rw[hy,ht];simp only;split
  .rename_i h;obtain⟨h1,h2⟩:=h;have hm:y∈ws.take k:=by
    rw[List.mem_take_iff_getElem];obtain⟨h3,h4⟩:=aW.1 h2;exact⟨k-1,aa,h4⟩
   rw[ih,eD];constructor
   .exact .inl
   rintro (h|h)
   .exact h
   simp at h;subst h;exact hm
  rw[eD,eD,ih]
theorem akV(hs:tq rQ ws 0 ws.length):∀k,k<=ws.length->(lI ws k).Nodup:=by
 intro k
 induction k with
 |zero=>intro _;exact uh
 |succ k ih=>
  intro hk;obtain⟨y,hy⟩:=aM (ls:=ws) (k:=k) aa;have ih:=ih aa;unfold lI;rw[hy];simp only;split
  .exact ih
  rename_i h;rw[Dz];refine⟨ih,af,fun z hz w hw=>?_⟩;simp at hw;subst hw;rintro rfl
  rw[aaq k aa,List.mem_take_iff_getElem] at hz;obtain⟨p,hp,hpz⟩:=hz;have sP:p<k:=aa;have nu:ws[p]?=some z:=by rw[my aa,hpz]
  obtain⟨u,hu⟩:=aM (ls:=ws) (k:=k-1) aa;have s1:=hs (k-1) k u z (bl _) aa aa hu hy;have huz:u=z:=by
   by_cases e:p=k-1
   .rw[e,hu] at nu;cases nu;rfl
   have s2:=hs p (k-1) z u (bl _) aa aa nu hu;simp at s1 s2;omega
  rw[huz] at hu;exact h ⟨aa,hu⟩
theorem aae{es:List Int}(hp:ws.Perm es)(hs:tq rQ ws 0 ws.length):(lI ws ws.length).length=(mZ es).length:=by refine List.Perm.length_eq ((List.perm_ext_iff_of_nodup (akV hs _ (bJ _)) (ali es)).2 fun x=>?_);rw[aaq _ (bJ _),jQ,O7,hp.mem_iff]
def Ci(ls:List Let)(e:Nat):Bool:=((pA ls e).l.kind==2)&&((pA ls (nx ls e)).l.kind==2)
def vU(ls:List Let)(es:List Nat):List Int:=es.flatMap fun e:Nat=>[(e:Int),(nx ls e:Int)]
def xm(ls:List Let)(es:List Nat):List Int:=es.flatMap fun e:Nat=>[(pA ls e).l.id,(pA ls (nx ls e)).l.id]
def Ho(F:Nat)(ls:List Let)(a b c:Nat):Bool:=[a,b,c].all (Ci ls)&&(((mZ (vU ls [a,b,c])).length==6)&&(((mZ (xm ls [a,b,c])).length==3)&&([a,b,c].any (jU ls · true)&&([a,b,c].any (jU ls · false)&&pY F ls 0 [a,b,c] a))))
def ub(F:Nat)(ls:List Let)(a b c:Nat):Option (List Pc):=if Ho F ls a b c then some (iO ls (pieces ls) [a,b,c]) else none
theorem RQ(f:Nat->List Int)(hf:∀e,(f e).length=2):∀l:List Nat,(l.flatMap f).length=2*l.length:=by
 intro l
 induction l with
 |nil=>rfl
 |cons a r ih=>rw[aim,ff,ih,hf,dh];omega
theorem acf(f:Nat->List Int)(l:List Nat)(k e:Nat)(h:l[k]?=some e):(l.take (k+1)).flatMap f=(l.take k).flatMap f++f e:=by rw[kX,h];simp
theorem Zm(f:Nat->Bool)(l:List Nat)(k e:Nat)(h:l[k]?=some e):(l.take (k+1)).any f=((l.take k).any f||f e):=by rw[kX,h];simp
theorem ai7(f:Nat->Bool)(l:List Nat)(k e:Nat)(h:l[k]?=some e):(l.take (k+1)).all f=((l.take k).all f&&f e):=by rw[kX,h];simp
theorem ahO(f:Nat->List Int)(es:List Nat)(x y:Int):iP (es.flatMap f)++[[PV.int .i64 x],[PV.int .i64 y]]=iP (es.flatMap f++[x,y]):=af
theorem auV(g:cH F ls){av bv cv:Nat}(ha:av<ls.length)(hb:bv<ls.length)(hc:cv<ls.length){k:Int}{l o:Bool}{sg:Int}:
  aK S 119 [.one (.p (eQ F ls)),oD k av bv cv l o sg] (kR (ub F ls av bv cv)):=by
 have hlen:=g.len;have bU:=gG ls;have mK:∀e∈[av,bv,cv],e<ls.length:=fun e h=>by simp at h;rcases h with rfl|rfl|rfl<;>assumption
 generalize hE:[av,bv,cv]=es at*;have dB:es.length=3:=by rw[<- hE];rfl
 have M6:nP [av,bv,cv]=[[.int .i64 av],[.int .i64 bv],[.int .i64 cv]]:=rfl;rw[hE] at M6;have w3:((3:Nat):Int)=3:=rfl;refine bh c119 ?_;simp only[go_sem,i119];refine cU (fun j ak aj=>ak 0=.one (.p (eQ F ls))/\ak 6=.one (.hsl 7616064384 1 1 0 3)/\ak 22=.one (.hsl 7616064384 1 1 0 3)/\ak 23=vi 3/\ak 24=vi j/\aj 7616064384=(1,some (.arr 3 1 (nP es)))/\(es.take j).all (Ci ls)=true/\
  ak 9=vb ((es.take j).any (jU ls · true))/\ak 10=vb ((es.take j).any (jU ls · false))/\ ∃c7 c8,ak 7=.one c7/\ak 8=.one c8/\grown 7616640256 3 1 (iP (vU ls (es.take j))) (.one c7) aj/\grown 7616705280 3 1 (iP (xm ls (es.take j))) (.one c8) aj) 0 3 (bl _) ?_ ?_
 .simp only[go_sem];exact⟨rfl,rfl,by rw[M6],rfl,rfl,_,_,rfl,rfl,grown.nil,grown.nil⟩
 rintro j ak aj hj ⟨h0,h6,rD,lX,lY,b6,dM,h9,dZ,c7,c8,h7,h8,g7,g8⟩
 by_cases au:j<3
 .have aL:((j:Int)<3):=aa;obtain⟨e,he⟩:=aM (ls:=es) (k:=j) aa;have PO:=mK e (aU he);have Gs:=jY he;have pe:=Cl g PO;have hm:=dO (e+1) (show 0<ls.length by omega);obtain⟨P,hP⟩:=aM (ls:=pieces ls) (k:=e) aa;obtain⟨Q,hQ⟩:=aM (ls:=pieces ls) (k:=(e+1)%ls.length) aa;have ni:=jJ hP;have haq:=jJ hQ;have w1:=cA (n:=j) aa;have po:=Io g PO true;have pu:=Io g PO false;have eI:Ci ls e=((P.l.kind==2)&&(Q.l.kind==2)):=by unfold Ci;rw[jZ hP,jZ hQ]
  have hl7:(iP (vU ls (es.take j))).length<=100:=by unfold vU;rw[wX,RQ _ (fun _=>rfl),fX];omega
  have hl8:(iP (xm ls (es.take j))).length<=100:=by unfold xm;rw[wX,RQ _ (fun _=>rfl),fX];omega
  have dk:Ci ls e=false->ub F ls av bv cv=none:=fun h=>by
   have:es.all (Ci ls)=false:=by
    cases hh:es.all (Ci ls) with
    |false=>rfl
    |true=>rw[jd.1 hh e (aU he)] at h;cases h
   unfold ub Ho;rw[hE,this];rfl
  cases k1:(P.l.kind==2) with
  |false=>
   rw[k1] at eI;have k1':(P.l.kind !=2)=true:=by simp only[bne,k1];rfl
   rw[dk eI];simp only[go_sem,i119_l1,h0,rD,lX,lY,b6,au,aL,Gs,s139,cV pe gR,ni,Pc.ps,k1'];rfl
  |true=>
   have k1':(P.l.kind !=2)=false:=by simp only[bne,k1];rfl
   cases k2:(Q.l.kind==2) with
   |false=>
    rw[k1,k2] at eI;have k2':(Q.l.kind !=2)=true:=by simp only[bne,k2];rfl
    rw[dk eI];simp only[go_sem,i119_l1,h0,rD,lX,lY,b6,au,aL,Gs,s139,cV pe gR,ni,haq,Pc.ps,k1',k2'];rfl
   |true=>
    rw[k1,k2] at eI;have k2':(Q.l.kind !=2)=false:=by simp only[bne,k2];rfl
    simp only[go_sem,i119_l1,h0,h7,rD,lX,lY,b6,au,aL,Gs,s139,cV pe gR,ni,haq,Pc.ps,k1',k2'];refine sB (xs:=[[.int .i64 (e:Nat)],[.int .i64 ((e+1)%ls.length:Nat)]]) (g7.of_eq (bd ae)) (by simp only[fh,aN,if_true];rfl) (.inl rfl) (by simp only[dh,ez];omega) fun d7 bQ gd7 dd=>?_;have q6:=dd 7616064384 ae ae;simp only[go_sem,b6] at q6;have g8':=g8.of_eq ((dd 7616705280 ae ae).trans (bd ae));simp only[go_sem,h0,h8,ni,haq,Pc.ps];refine AO (xs:=[[.int .i64 P.l.id],[.int .i64 Q.l.id]]) (g8'.of_eq (bd ae)) (by simp only[fh,aN,if_true];rfl) (.inl rfl) (by simp only[dh,ez];omega) fun d8 bj r w gd8 bn hw=>?_
    have p6:=(bn 7616064384 ae ae).trans ((bd ae).trans q6);have am2:=gd7.of_eq ((bn 7616640256 ae ae).trans (bd ae));simp only[go_sem];refine⟨?_,?_⟩
    .rcases hw with ⟨rfl,rfl⟩|⟨rfl,rfl⟩|⟨rfl,rfl⟩<;>kernel_rfl
    generalize hx9:(es.take j).any (jU ls · true)=x9 at h9;generalize aow:(es.take j).any (jU ls · false)=Hw at dZ;have e9:=Zm (jU ls · true) es j e he;have qH:=Zm (jU ls · false) es j e he;have eA:=ai7 (Ci ls) es j e he;rw[hx9] at e9;rw[aow] at qH;rw[dM,eI] at eA;have G7:grown 7616640256 3 1 (iP (vU ls (es.take (j+1)))) (.one d7) bj:=by have:=ahO (fun e:Nat=>[(e:Int),(nx ls e:Int)]) (es.take j) e (nx ls e);have h2:=acf (fun e:Nat=>[(e:Int),(nx ls e:Int)]) es j e he;rw[show vU ls (es.take (j+1))=(es.take j).flatMap (fun e:Nat=>[(e:Int),(nx ls e:Int)])++[(e:Int),(nx ls e:Int)] from h2,<- this];exact am2
    have G8:grown 7616705280 3 1 (iP (xm ls (es.take (j+1)))) (.one d8) bj:=by have:=ahO (fun e:Nat=>[(pA ls e).l.id,(pA ls (nx ls e)).l.id]) (es.take j) (pA ls e).l.id (pA ls (nx ls e)).l.id;have h2:=acf (fun e:Nat=>[(pA ls e).l.id,(pA ls (nx ls e)).l.id]) es j e he;rw[show xm ls (es.take (j+1))=(es.take j).flatMap (fun e:Nat=>[(pA ls e).l.id,(pA ls (nx ls e)).l.id])++[(pA ls e).l.id,(pA ls (nx ls e)).l.id] from h2,<- this,jZ hP,show pA ls (nx ls e)=Q from jZ hQ];exact gd8
    cases x9<;>cases Hw<;>simp only[go_sem,h0,h9,dZ,rD,lX,lY,s150,dA po,dA pu,w1,au]<;>exact⟨h6,p6,by rw[eA];rfl,by rw[e9];rfl,by rw[qH];rfl,d7,d8,rfl,rfl,G7,G8⟩
 have:j=3:=aa;subst this;have ht:es.take 3=es:=by rw[<- hE];rfl
 rw[ht] at dM h9 dZ g7 g8;have n7:(vU ls es).length=6:=by unfold vU;rw[RQ _ (fun _=>rfl),dB]
 have n8:(xm ls es).length=6:=by unfold xm;rw[RQ _ (fun _=>rfl),dB]
 rcases g7 with ⟨e,_⟩|⟨_,gg7,e,b7⟩
 .have:=congrArg List.length e;rw[wX,n7] at this;cases this
 cases e;rcases g8 with ⟨e,_⟩|⟨_,gg8,e,b8⟩
 .have:=congrArg List.length e;rw[wX,n8] at this;cases this
 cases e;have s506:S.shared 135=true:=ah;have s507:S.shared 152=true:=ah;have Ec:¬(((3:Nat):Int)<3):=ae;simp only[go_sem,i119_l1,i119_r2,h7,lX,lY,Ec,s506,wX];refine AS b7 (by rfl) (.inl rfl) (P:=Ff rQ 7616640256 gg7 3 (vU ls es) aj) (fun qC h1 h2=>XX h1 (by rw[h2];kernel_rfl) aa b7) fun v bQ hP=>?_;obtain⟨rfl,⟨ws,bw,pw,sw⟩,kw⟩:=hP;have b8':=(kw 7616705280 ae).trans b8;have b6':=(kw 7616064384 ae).trans b6;simp only[go_sem,h8,s506,wX];refine AS b8' (by rfl) (.inl rfl) (P:=Ff rQ 7616705280 gg8 3 (xm ls es) bQ) (fun qC h1 h2=>XX h1 (by rw[h2];kernel_rfl) aa b8') fun v bj hP=>?_
 obtain⟨rfl,⟨us,bu,pu,su⟩,ku⟩:=hP;have bw':=(ku 7616640256 ae).trans bw;have ajJ:=(ku 7616064384 ae).trans b6';have wl:=pw.length_eq;have ul:=pu.length_eq;have cw:=aae pw sw;have cu:=aae pu su;have pcn:=Te g es aa (e0:=av) (by rw[<- hE];rfl) ha 0;have c00:((0:Nat):Int)=0:=rfl;rw[c00] at pcn;have psw:=auC g es mK aa;have ht3:List.take 3 (nP es)=nP es:=fR (by rw[Xf];omega);have hB:Ho F ls av bv cv=((((mZ (vU ls es)).length:Int)==6)&&((((mZ (xm ls es)).length:Int)==3)&&(es.any (jU ls · true)&&(es.any (jU ls · false)&&pY F ls 0 es av)))):=by unfold Ho;rw[hE,dM,Qs,Qs];rfl
 unfold ub;rw[hB];clear hB;simp only[go_sem,h7,s507,wX,<- wl];refine AS bw' (by rfl) (.inl rfl) (P:=S7 7616640256 gg7 3 ws bj) (fun qC h1 h2=>aaf h1 aa bw') fun v fT hP=>?_;obtain⟨rfl,_,kc⟩:=hP;have bu':=(kc 7616705280 ae).trans bu;have b63:=(kc 7616064384 ae).trans ajJ;rw[cw];have lo:S.lone 7617152128=false:=ah;cases q1:(((mZ (vU ls es)).length:Int)==6) with
 |false=>
  have q1':(((mZ (vU ls es)).length:Int)!=6)=true:=by simp only[bne,q1];rfl
  simp only[go_sem,q1'];rfl
 |true=>
  have q1':(((mZ (vU ls es)).length:Int)!=6)=false:=by simp only[bne,q1];rfl
  simp only[go_sem,h8,q1',s507,wX,<- ul];refine AS bu' (by rfl) (.inl rfl) (P:=S7 7616705280 gg8 3 us fT) (fun qC h1 h2=>aaf h1 aa bu') fun v ij hP=>?_;obtain⟨rfl,_,kd⟩:=hP;have xB:=(kd 7616064384 ae).trans b63;rw[cu];cases q2:(((mZ (xm ls es)).length:Int)==3) with
  |false=>
   have Kt:(((mZ (xm ls es)).length:Int)!=3)=true:=by simp only[bne,q2];rfl
   simp only[go_sem,Kt];rfl
  |true=>
   have Kt:(((mZ (xm ls es)).length:Int)!=3)=false:=by simp only[bne,q2];rfl
   cases q3:es.any (jU ls · true) with
   |false=>rw[q3] at h9;simp only[go_sem,h9,Kt];rfl
   |true=>
    rw[q3] at h9;cases q4:es.any (jU ls · false) with
    |false=>rw[q4] at dZ;simp only[go_sem,h9,dZ,Kt];rfl
    |true=>
     rw[q4] at dZ;cases q5:pY F ls 0 es av with
     |false=>rw[q5] at pcn;simp only[go_sem,h0,h6,h9,dZ,Kt,xB,s147,dA pcn,dB,Xf,ht3];rfl
     |true=>rw[q5] at pcn;simp only[go_sem,h0,h6,h9,dZ,Kt,xB,s147,dA pcn,s153,dB,Xf,ht3];refine rC psw lo (.inr (qD (Dk _))) fun cc yY gc Ej=>?_;simp only[go_sem];rw[<- hE] at gc;exact wK gc
abbrev WJ:List C:=[.p .yz,.p (.fn 112 [] []),.p (.fn 113 [] []),.p (.fn 114 [] []),.p (.fn 115 [] []),.p (.fn 116 [] []),.p (.fn 117 [] []),.p (.fn 118 [] []),.p (.fn 119 [] []),.p (.fn 120 [] []),.p (.fn 120 [] [])]
theorem ani(k:Int):0<=(lJ k).1/\(lJ k).1<=4/\0<=(lJ k).2/\(lJ k).2<=2:=by
 unfold lJ;split
 .simp
 split
 .simp
 split<;>simp
theorem LV(hlen:ls.length<=400)(eI:aw Let.aC ls<=200){k f:Nat}{rest:List C}(hk:WJ.drop k=.p (.fn f [] [])::rest)(jk:k<11)(JA:S.shared f=false){a b c:Int}{l o:Bool}{sg:Int}{res:Option (List Pc)}(ha:aK S 96 [.one (.p (eQ F ls)),oD k a b c l o sg] (rb true))(hm:aK S f [.one (.p (eQ F ls)),oD k a b c l o sg] (kR res))(hL:∀L,res=some L->L.length<=1000000):
  aK S 74 [.one (.p (eQ F ls)),oD k a b c l o sg] (zi F ls k res):=by
 have zE:=amp F;have pg:=anh k;have mR:S.lone 4736192384=false:=ah;have uM:S.lone 4736576128=false:=ah;have hlk:∀(aj:aA),land aj [] 4736192000 ((RV.agg [.p .yz,.p (.fn 112 [] []),.p (.fn 113 [] []),.p (.fn 114 [] []),.p (.fn 115 [] []),.p (.fn 116 [] []),.p (.fn 117 [] []),.p (.fn 118 [] []),.p (.fn 119 [] []),.p (.fn 120 [] []),.p (.fn 120 [] [])]).fP (S.lone 4736192000))=some (.agg WJ,[]):=fun aj=>by cases S.lone 4736192000<;>rfl
 have bU:=gG ls;obtain⟨g1,g2,g3,g4⟩:=ani k;have lg:∀aj:aA,land aj [] 4736384128 ((RV.tup [.one (.p (.int .i64 (lJ k).1)),.one (.p (.int .i64 (lJ k).2))]).fP (S.lone 4736384128))=some (.tup [.one (.p (.int .i64 (lJ k).1)),.one (.p (.int .i64 (lJ k).2))],[]):=fun aj=>gR;obtain⟨Mo,Mp,rH⟩:∃x y,lJ k=(x,y):=⟨_,_,rfl⟩;have d4:zi F ls k none=qX 4:=rfl;have d7:∀L,((400:Int)<(ls.length:Int)+Mo\/(100:Int)<((aw Let.aC ls/2:Nat):Int)+Mp)->zi F ls k (some L)=qX 7:=fun L h=>by unfold zi;rw[rH];exact aF h
 have d0:∀L,¬((400:Int)<(ls.length:Int)+Mo\/(100:Int)<((aw Let.aC ls/2:Nat):Int)+Mp)->zi F ls k (some L)=kW F (lV L):=fun L h=>by unfold zi;rw[rH];exact ay h
 rw[rH] at g1 g2 g3 g4 pg;simp only[rH] at lg;simp only at g1 g2 g3 g4 lg pg;have w1:IntKind.i64.wrap (((pieces ls).length:Int)+Mo)=(ls.length:Int)+Mo:=by rw[bU];exact vX aa aa
 have w2:IntKind.i64.wrap (((aw Let.aC ls/2:Nat):Int)+Mp)=((aw Let.aC ls/2:Nat):Int)+Mp:=vX aa aa;unfold kR at hm;generalize WJ=kg at hk hlk;refine bh c74 ?_;simp only[go_sem,i74,s96,dA ha,s97,FQ ao8 (hlk _),hk,jk,JA];refine alb hm mR fun cc bQ w gc hb hw=>?_;have b0:=hb 4736000000 ae;have b1:=hb 4736000064 ae;simp only[go_sem] at b0 b1;cases res with
 |none=>rw[d4];simp only[go_sem,b1];refine⟨?_,rfl⟩;rcases hw with rfl|rfl<;>kernel_rfl
 |some L=>
  simp only[mV] at gc;have pfin:=zE L (hL L rfl) (.sl (dN (pieces ls))) (.sl (tD (eL F ls))) (.sl (nP (og F ls))) (.int .i64 (aw Let.aG ls:Nat)) (.int .i64 ((aw Let.aC ls/2:Nat):Int)) (.sl (nP (counts ls F)));obtain⟨rs,l8,_⟩:=gc.fM;by_cases h1:(400:Int)<(ls.length:Int)+Mo
  .rw[d7 L (.inl h1)];simp only[go_sem,b0,b1,s98,cV pg (lg _),w1,h1];refine⟨?_,rfl⟩;rcases hw with rfl|rfl<;>kernel_rfl
  by_cases h2:(100:Int)<((aw Let.aC ls/2:Nat):Int)+Mp
  .rw[d7 L (.inr h2)];simp only[go_sem,b0,b1,s98,cV pg (lg _),w1,w2,h1,h2];refine⟨?_,rfl⟩;rcases hw with rfl|rfl<;>kernel_rfl
  rw[d0 L (by rintro (h|h);exact h1 h;exact h2 h)];simp only[go_sem,b0,s98,cV pg (lg _),w1,w2,h1,h2,l8,s99];refine⟨?_,?_⟩
  .rcases hw with rfl|rfl<;>kernel_rfl
  refine amU pfin uM rfl (Kz _) fun c2 bj vk bn=>?_;have b02:=(bn 4736000064 ae).trans b1;simp only[go_sem,b02];exact acO (vk.of_eq (bd ae))
theorem alm{k a b c:Int}{l o:Bool}{sg:Int}(ha:aK S 96 [.one (.p (eQ F ls)),oD k a b c l o sg] (rb false)):aK S 74 [.one (.p (eQ F ls)),oD k a b c l o sg] (qX 2):=by refine bh c74 ?_;simp only[go_sem,i74,s96,dA ha];try rfl
def qu(F:Nat)(ls:List Let)(k:Int)(a b c:Nat)(l o:Bool)(sg:Int):Option (List Pc):=if k=1 then wB ls a else if k=2 then amR F ls a b c else if k=3 then u9 F ls a b else if k=4 then yv ls a else if k=5 then some (lmR ls a sg o) else if k=6 then vO F ls a b else if k=7 then pmR F ls a b l o else if k=8 then ub F ls a b c else if k=9 then trR F ls a else tlR ls a
def nI(F:Nat)(ls:List Let)(k a b c:Int)(l o:Bool)(sg:Int):RV:=if cS F ls k a b c l o sg then zi F ls k (qu F ls k a.toNat b.toNat c.toNat l o sg) else qX 2
theorem aje{k a b c:Int}{l o:Bool}{sg:Int}:(∃e,nI F ls k a b c l o sg=qX e)\/ ∃L,nI F ls k a b c l o sg=kW F L:=by
 unfold nI;split
 .cases qu F ls k a.toNat b.toNat c.toNat l o sg with
  |none=>exact .inl ⟨4,rfl⟩
  |some L=>
   by_cases h:(400:Int)<(ls.length:Int)+(lJ k).1\/(100:Int)<((aw Let.aC ls/2:Nat):Int)+(lJ k).2
   .exact .inl ⟨7,aF h⟩
   exact .inr ⟨lV L,ay h⟩
 exact .inl ⟨2,rfl⟩
theorem aji{k a b c:Int}{l o:Bool}{sg:Int}{res:RV}(po:aK S 72 [dR F ls] (yC (eQ F ls) (.int .i64 0)))(hd:aK S 74 [.one (.p (eQ F ls)),oD k a b c l o sg] res)(fin:(∃e,res=qX e)\/ ∃L,res=kW F L):
  aK S 45 [dR F ls,oD k a b c l o sg] res:=by
 have lo:S.lone 2880256128=false:=ah;refine bh c45 ?_;rcases fin with ⟨e,rfl⟩|⟨L,rfl⟩
 .simp only[go_sem,i45,s72,cV po gR,s74,cV hd apc];rfl
 simp only[go_sem,i45,s72,cV po gR,s74];refine acz hd lo fun cc bQ gc hb=>?_;have b4:=hb 2880000128 ae;simp only[go_sem] at b4;simp only[go_sem,b4];exact acO (gc.of_eq (bd ae))
theorem mO{n:Nat}{i:Int}(h:iZ n i=true):∃k:Nat,i=(k:Int)/\k<n:=by unfold iZ at h;simp at h;exact⟨i.toNat,aa,aa⟩
theorem WL(l:List Pc)(drop:Nat->Pc->Bool):(pI l drop).length<=l.length:=GK l drop l.length
theorem ag3(l:List Pc)(i:Nat)(g r:Int):(Ro l i g r).length=l.length:=by simp[Ro]
theorem aqt{k:Int}{a b c:Nat}{l o:Bool}{sg:Int}{L:List Pc}(h:qu F ls k a b c l o sg=some L):L.length<=ls.length+4:=by
 have hp:=gG ls;unfold qu at h;repeat' split at h
 .unfold wB at h;simp only at h;split at h
  .cases h;have:=WL (pieces ls) (fun k _=>decide (k=a)||decide (k=(a+1)%ls.length));simp only[j5,cD];omega
  cases h
 .unfold amR at h;split at h
  .cases h;simp only[OR,Qo,j5,cD,dh,ez];omega
  split at h
  .cases h;simp only[OR,Qo,j5,cD,dh,ez];omega
  cases h
 .unfold u9 at h;split at h
  .cases h;simp only[BH,BC];omega
  cases h
 .unfold yv at h;simp only at h;split at h
  .cases h;have:=WL (pieces ls) (uu [((pieces ls).getD a ⟨kz,false⟩).l.id]);simp only[IH,cD];omega
  cases h
 .cases h;simp only[lmR,Qo,dh,ez];omega
 .unfold vO at h;split at h
  .cases h;have:=WL (pieces ls) (uu [(pA ls a).l.id,(pA ls (nx ls a)).l.id]);simp only[IH,cD];omega
  cases h
 .have key:∀s t,pmV ls a b l o s t=some L->L.length<=ls.length+4:=fun s t h=>by
   unfold pmV at h;split at h
   .cases h
   simp only[fD] at h;subst h;have h2:∀x sg o s,(pmS x sg o s).length=2:=fun x sg o s=>by unfold pmS;split<;>rfl
   split<;>simp only[Qo,h2,dh,ez]<;>omega
  unfold pmR at h;split at h
  .exact key _ _ h
  exact key _ _ h
 .unfold ub at h;split at h
  .cases h;simp only[BH];omega
  cases h
 .unfold trR at h;split at h
  .cases h;simp only[ag3,j5,cD];omega
  cases h
 unfold tlR at h;split at h
 .cases h;simp only[ag3,j5,cD];omega
 cases h
theorem ajj{k a b c:Int}{l o:Bool}{sg:Int}(h:cS F [] k a b c l o sg=true):∃bv:Nat,k=2/\a=0/\b=(bv:Int)/\bv<=F/\c=0/\l=false/\o=false/\sg=0:=by
 have hi:∀i:Int,iZ 0 i=false:=fun i=>by unfold iZ;simp
 unfold cS at h;by_cases h2:k=2
 .subst h2;simp only[if_true,ez,hi,BP,cN,mv,dI,pR] at h;obtain⟨rfl,rfl,rfl,⟨_,rfl⟩,mJ,hbF,hc0,tH⟩:=h;obtain⟨bv,rfl⟩:=th mJ;have:cg [] ((bv:Int).toNat)=0:=rfl;rw[this] at tH;exact⟨bv,rfl,rfl,rfl,aa,aa,rfl,rfl,rfl⟩
 simp[h2,hi] at h
abbrev lA(ls:List Let)(i:Nat):Let:=ls.getD i kz
theorem aeG{i:Nat}{l:Let}(h:ls[i]?=some l):lA ls i=l:=by rw[lA,di,h];rfl
theorem Bi{i:Nat}(h:i<ls.length):ls[i]?=some (lA ls i):=by obtain⟨l,hl⟩:=aM h;rw[aeG hl,hl]
theorem szL(l:List Let):gV 6 (dF l)=true:=by simp[gV,Let.ps]
theorem apB(a b:List Let):dF (a++b)=dF a++dF b:=j6
theorem apD{L:List Let}(h:L≠[]):dF L≠[]:=by simpa [dF] using h
def leq(a b:Let):Bool:=(a.kind==b.kind)&&((a.gate==b.gate)&&((a.aE==b.aE)&&((a.id==b.id)&&((a.sign==b.sign)&&(a.over==b.over)))))
theorem Tz(x y:Let):vh [true,true,true,true,true,false] [.p (.int .i64 x.kind),.p (.int .i64 x.gate),.p (.int .i64 x.aE),.p (.int .i64 x.id),.p (.int .i64 x.sign),.p (.bool x.over)] [.p (.int .i64 y.kind),.p (.int .i64 y.gate),.p (.int .i64 y.aE),.p (.int .i64 y.id),.p (.int .i64 y.sign),.p (.bool y.over)]=some (leq x y):=by
 have e:∀a b:Int,uv true (.int .i64 a) (.int .i64 b)=some (a==b):=fun a b=>by simp[uv]
 have e2:∀a b:Bool,uv false (.bool a) (.bool b)=some (a==b):=fun a b=>by simp[uv]
 simp only[vh,leq,e,e2];cases (x.kind==y.kind)<;>cases (x.gate==y.gate)<;>cases (x.aE==y.aE)<;>cases (x.id==y.id)<;>cases (x.sign==y.sign)<;>cases (x.over==y.over)<;>rfl
theorem GP(x:Let):leq x x=true:=by simp[leq]
theorem agJ(L:List Let)(k:Nat)(hk:k<=L.length)(hl:L.length<=1000000):aK S 52 [.one (.p (cK L)),vi k] (.one (aT lN 6 (dF (L.drop k++L.take k)))):=by
 have hs6:=szL L;have zB:List.take (L.length-k) (List.drop k (dF L))=dF (L.drop k):=by rw[fR af];simp[OF]
 have l9:List.take k (dF L)=dF (L.take k):=by simp[HH]
 rw[apB];refine bh c52 ?_;simp only[go_sem,i52,hk,hs6,zB];refine AO (id:=3328064192) (bytes:=48) grown.nil (xs:=dF (L.drop k)) (rd:=[]) rfl (.inr (szL _)) (by simp;omega) fun c1 bQ r w g1 dd hw=>?_;rw[fY] at g1;simp only[go_sem,hk,hs6,l9];refine AO (bytes:=48) g1 (xs:=dF (L.take k)) (rd:=[]) rfl (.inr (szL _)) (by simp;omega) fun c2 bj r2 w2 g2 bn hw2=>?_;simp only[go_sem];refine⟨?_,zt g2⟩;rcases hw with ⟨rfl,rfl⟩|⟨rfl,rfl⟩|⟨rfl,rfl⟩<;>rcases hw2 with ⟨rfl,rfl⟩|⟨rfl,rfl⟩|⟨rfl,rfl⟩<;>kernel_rfl

theorem HS{S:Sys}{f:Nat}{fn:aV}{args:List V}{P:RV->Prop}(hp:S.prim f args=none)(hf:S.fns f=some fn)(hl:args.length<=fn.ntmps)
  (h:W S .all fn.body (mH .all fn.results fun v aj=>∃r,P r/\iE aj v=some r) (rM args) Aa):∃r,P r/\aK S f args r:=by
 obtain⟨n,v,ao,h1,r,h3,h2⟩:=Su h;refine⟨r,h3,n+1,?_⟩;rw[gh];simp only[hp,hf,hl,if_true];unfold E6;simp only[h1,h2]
theorem Z0{l:List Let}(aI:l≠[])(hl:l.length<=1000000):aK S 60 [.one (.p (cK l))] (.one (aT lN 6 (dF l))):=by
 have hs:((dF l).all fun e=>e.length==6)=true:=szL l;have hr:(0+(dF l).length)*48<=room:=by unfold room;rw[cD];omega
 show aK S _ [.one (.p (.sl (dF l)))] _;obtain⟨e0,es,hq⟩:∃e0 es,dF l=e0::es:=by cases l with
  |nil=>exact absurd rfl aI
  |cons a t=>exact⟨_,_,rfl⟩
 rw[hq] at hs hr ⊢;refine bh c60 ?_;have aI:e0::es≠[]:=af;have rH:aT lN 6 (e0::es)=.own lN 6 (e0::es):=ay aI;rw[rH];unfold room at hr;simp only[iQ,dh] at hr;simp only[mw] at hs;simp only[go_sem,i60,fL,gV];simp only[hs,hr,not_true_eq_false,if_true,if_false];simp only[go_sem];exact Km Ai rfl
abbrev NM(M:List (Int×Int)):List (PV×List PV):=M.map fun e=>(PV.int .i64 e.1,[PV.int .i64 e.2])
def fiM:List (Int×Int)->Int->Nat->Option (Nat×Int)
 |[],_,_=>none
 |(a,v)::r,x,i=>if x==a then some (i,v) else fiM r x (i+1)
theorem ab5(M:List (Int×Int))(x:Int):∀i,oU (.int .i64 x) (NM M) i=some ((fiM M x i).map fun p=>(p.1,[PV.int .i64 p.2])):=by
 induction M with
 |nil=>intro i;rfl
 |cons e M ih=>
  intro i;obtain⟨a,v⟩:=e;show oU (.int .i64 x) ((PV.int .i64 a,[PV.int .i64 v])::NM M) i=_;unfold oU;have hs:sameKey (.int .i64 x) (.int .i64 a)=some (x==a):=by simp[sameKey]
  rw[hs];unfold fiM;cases (x==a) with
  |true=>rfl
  |false=>exact ih (i+1)
theorem afh(M:List (Int×Int))(x v:Int):NM M++[(PV.int .i64 x,[PV.int .i64 v])]=NM (M++[(x,v)]):=af
theorem aeS(l:List Let)(k:Nat)(p:Let):(dF l).set k p.ps=dF (l.set k p):=by simp[K9]
theorem aeQ{e:List PV}(h:e.length=6):∃x0 x1 x2 x3 x4 x5,e=[x0,x1,x2,x3,x4,x5]:=by
 match e,h with
 |[x0,x1,x2,x3,x4,x5],_=>exact⟨_,_,_,_,_,_,rfl⟩
theorem asD{al:Al}{aj:aA}{id:Nat}{es:List (List PV)}{c:C}(o:es=[]\/al.ok id=true)(hl:es.length<=1000000)(mK:∀e∈es,e.length=6/\ ∀v∈e,v.norm=v)(h:grown id ty 6 es (.one c) aj):
  ∃v ao,iF S 80 [.one c] al aj v ao/\Hj id ty 6 es c aj v ao:=by
 refine mA c80 (ig rfl) ?_;rcases h with ⟨rfl,h2⟩|⟨aI,g,h2,hC⟩
 .cases h2;have w0:IntKind.i64.wrap (((0:Nat):Int)-1)= -1:=ae;have hz:¬((0:Int)< -1):=ae;simp only[go_sem,i80,w0];refine cU (fun k ak ao=>k=0/\ak 2=vi 0/\ak 3=vi (-1)/\ao=aj) 0 0 (bJ _) ?_ ?_
  .simp only[go_sem]
  rintro k ak ao _ ⟨rfl,h2,h3,rfl⟩
  simp only[go_sem,i80_l1,h2,h3,hz];exact⟨rfl,.inl ⟨rfl,rfl⟩,fun _ _=>rfl⟩
 cases h2;have o:=o.resolve_left aI;have w0:=yI (a:=es.length) aa;simp only[go_sem,i80,w0];refine cU (fun k ak ao=>ak 0=.one (.hsl id g 6 0 es.length)/\ak 2=vi k/\ak 3=vi ((es.length:Int)-1-(k:Int))/\ ∃fs,ao id=(g,some (.arr ty 6 fs))/\xg es fs k/\Kept (· =id) aj ao) 0 es.length (bl _) ?_ ?_
 .simp only[go_sem];refine⟨rfl,af,es,hC,xg.start es,Kept.refl _ _⟩
 rintro k ak ao hk ⟨h0,h2,h3,fs,hF,hI,dw⟩
 by_cases au:k<es.length-1-k
 .have e1:((es.length:Int)-1-(k:Int))=((es.length-1-k:Nat):Int):=aa;rw[e1] at h3;have aL:((k:Int)<((es.length-1-k:Nat):Int)):=aa;have w1:=cA (n:=k) aa;have w2:IntKind.i64.wrap (((es.length-1-k:Nat):Int)-1)=((es.length:Int)-1-((k+1:Nat):Int)):=by
   rw[yI aa];omega
  obtain⟨a,ha⟩:=aM (show k<es.length by omega);obtain⟨b,hb⟩:=aM (show es.length-1-k<es.length by omega);obtain⟨fa,fb,wM⟩:=hI.step au ha hb;obtain⟨la,na⟩:=mK a (aU ha);obtain⟨lb,nb⟩:=mK b (aU hb);obtain⟨x0,x1,x2,x3,x4,x5,rfl⟩:=aeQ la;obtain⟨y0,y1,y2,y3,y4,y5,rfl⟩:=aeQ lb;have Na:=na x0 af;have Wj:=na x1 af;have an7:=na x2 af;have an8:=na x3 af;have an9:=na x4 af;have aoa:=na x5 af;have Nb:=nb y0 af;have Wk:=nb y1 af;have aob:=nb y2 af;have aoc:=nb y3 af;have aod:=nb y4 af;have aoe:=nb y5 af;have xY:=hI.len;have Gp:¬(k=es.length-1-k):=aa;have adf:¬(es.length-1-k=k):=aa;have l1:k<fs.length:=aa;have l2:es.length-1-k<fs.length:=aa;have l3:k<es.length:=aa;have l4:es.length-1-k<es.length:=aa
  simp only[go_sem,i80_l1,h0,h2,h3,hF,aL,fa,fb,w1,w2,o,l1,l3,l4,Gp,Na,Wj,an7,an8,an9,aoa,Nb,Wk,aob,aoc,aod,aoe,pQ];refine⟨aH,_,rfl,wM,?_⟩;exact(dw.dJ rfl _).dJ rfl _
 have aL:¬((k:Int)<(es.length:Int)-1-(k:Int)):=aa;simp only[go_sem,i80_l1,h2,h3,aL];refine⟨rfl,?_,dw⟩;rw[hI.done au] at hF;exact .inr ⟨by simpa using aI,g,by rw[rZ],hF⟩
theorem apF(l:List Let):∀e∈dF l,e.length=6/\ ∀v∈e,v.norm=v:=fun e he=>by obtain⟨x,_,rfl⟩:=dp.1 he;refine⟨rfl,fun v hv=>?_⟩;simp only[Let.ps,cM,gC,or_false] at hv;rcases hv with rfl|rfl|rfl|rfl|rfl|rfl<;>rfl
theorem apE(l:List Let):(dF l).reverse=dF l.reverse:=af
theorem W4{s:Nat}(h:s/64000000=27):S.lone s=true:=by show EO aeX (s/64000000)=true;rw[h];kernel_rfl
theorem GL{aj:aA}{s:Nat}{L:List Let}(aI:L≠[])(hs:S.lone s=true):land aj [] s ((RV.one (aT lN 6 (dF L))).fP (S.lone s))=some (.one (.p (cK L)),[]):=by rw[hs,acN (apD aI)];unfold land;rw[aF (.inl rfl)];rfl

abbrev pX:Prop:=aK S 60 [.one (.p (.sl []))] (.one (.p (.sl [])))
theorem revE{al:Al}{aj:aA}:∃v ao,iF S 80 [.one (.p (.sl []))] al aj v ao/\(v=.tup []/\ao=aj):=by
 refine mA c80 (ig rfl) ?_;have w0:IntKind.i64.wrap (((0:Nat):Int)-1)= -1:=ae;have hz:¬((0:Int)< -1):=ae;simp only[go_sem,i80,w0];refine cU (fun k ak ao=>k=0/\ak 2=vi 0/\ak 3=vi (-1)/\ao=aj) 0 0 (bJ _) ?_ ?_
 .simp only[go_sem]
 rintro k ak ao _ ⟨rfl,h2,h3,rfl⟩
 simp only[go_sem,i80_l1,h2,h3,hz]
theorem aeI{aj:aA}{s:Nat}{x:PV}{l:Bool}:land aj [] s ((RV.one (.p x)).fP l)=some (.one (.p x),[]):=by cases l<;>rfl
theorem ajL(bR:pX)(F:Int):aK S 50 [.one (.p (zh F))] (.one (.p (.sl []))):=by
 refine bh c50 ?_;simp only[go_sem,i50,s60,cV bR aeI,s80];refine qK (P:=fun v ao=>v=.tup []/\ao=Aa) yj revE ?_;rintro v ao ⟨rfl,rfl⟩
 simp only[go_sem];refine cU (fun k ak aj=>k=0/\ak 3=.one (.p (.sl []))/\ak 15=vi 0/\ak 16=vi 0) 0 0 (bJ _) ?_ ?_
 .simp only[go_sem];rfl
 rintro k ak aj _ ⟨rfl,h3,kZ,oX⟩
 have hz:¬((0:Int)<0):=ae;simp only[go_sem,i50_l1,i50_r2,h3,kZ,oX,hz]
theorem aqB(bR:pX)(F:Int):aK S 27 [.one (.p (zh F))] (.agg [.p (.int .i64 F),.p .nils]):=by
 have pb:=ajL bR F;refine bh c27 ?_;simp only[go_sem,i27,s50,FQ pb aeI];refine⟨aH,?_⟩;refine cU (fun k ak aj=>ak 0=.one (.p (zh F))/\ak 2=.one (.aY 1728000000 1 0)/\ak 17=.one (.hsl 1728128448 1 1 0 2)/\ak 18=vi 2/\ak 19=vi k/\ak 3=.one (.p .nils)/\
  aj 1728000000=(1,some (.var [.p (.int .i64 0),.p .nils]))/\aj 1728128448=(1,some (.arr 22 1 [[.sl []],[.sl []]]))) 0 2 (bl _) ?_ ?_
 .simp only[go_sem];first|done|rfl|exact⟨rfl,rfl⟩
 rintro k ak aj hk ⟨h0,h2,iU,gO,gZ,h3,b0,bB⟩
 by_cases au:k<2
 .have V5:k=0\/k=1:=aa;have l02:((0:Nat):Int)<2:=ae;have l12:((1:Nat):Int)<2:=ae;have hz:¬((0:Int)<0):=ae;rcases V5 with rfl|rfl
  .simp only[go_sem,i27_l3,iU,gO,gZ,bB,l02];refine cU (fun i aD ao=>i=0/\ao=aj/\aD 0=ak 0/\aD 2=ak 2/\aD 17=ak 17/\aD 18=ak 18/\aD 19=ak 19/\aD 3=ak 3/\aD 24=vi 0/\aD 25=vi 0) 0 0 (bJ _) ?_ ?_
   .simp only[go_sem];first|done|rfl|exact⟨rfl,rfl⟩
   rintro i aD ao _ ⟨rfl,rfl,e0,e2,IK,IL,e19,e3,e24,e25⟩
   simp only[go_sem,i27_l1,i27_r2,e0,e2,IK,IL,e19,e3,e24,e25,h0,h2,h3,iU,gO,gZ,b0,bB,hz];first|done|rfl|exact⟨rfl,rfl⟩
  simp only[go_sem,i27_l3,iU,gO,gZ,bB,l12];refine cU (fun i aD ao=>i=0/\ao=aj/\aD 0=ak 0/\aD 2=ak 2/\aD 17=ak 17/\aD 18=ak 18/\aD 19=ak 19/\aD 3=ak 3/\aD 24=vi 0/\aD 25=vi 0) 0 0 (bJ _) ?_ ?_
  .simp only[go_sem];first|done|rfl|exact⟨rfl,rfl⟩
  rintro i aD ao _ ⟨rfl,rfl,e0,e2,IK,IL,e19,e3,e24,e25⟩
  simp only[go_sem,i27_l1,i27_r2,e0,e2,IK,IL,e19,e3,e24,e25,h0,h2,h3,iU,gO,gZ,b0,bB,hz];first|done|rfl|exact⟨rfl,rfl⟩
 have:k=2:=aa;subst this;have l22:¬(((2:Nat):Int)<2):=ae;simp only[go_sem,i27_l3,i27_r4,h0,h2,h3,gO,gZ,b0,l22];first|done|rfl|exact⟨rfl,rfl⟩
theorem akB:pX:=⟨1,ah⟩
theorem apa{aj:aA}{s:Nat}{x c:PV}{l:Bool}:land aj [] s ((RV.agg [.p x,.p c]).fP l)=some (.agg [.p x,.p c],[]):=by cases l<;>rfl
theorem apx(x y:Let):leq x y=true↔x=y:=by
 constructor
 .intro h;unfold leq at h;simp only[cN,dI] at h;obtain⟨h1,h2,h3,h4,h5,h6⟩:=h;cases x;cases y;simp only at h1 h2 h3 h4 h5 h6;subst h1 h2 h3 h4 h5 h6;rfl
 rintro rfl;exact GP x
theorem Qz{aj:aA}{s:Nat}{x c e:PV}{l:Bool}:land aj [] s ((RV.tup [.agg [.p x,.p c],.one (.p e)]).fP l)=some (.tup [.agg [.p x,.p c],.one (.p e)],[]):=by cases l<;>rfl

structure aP where
 k:Int
 a:Int
 b:Int
 c:Int
 l:Bool
 o:Bool
 s:Int
def aP.ps(m:aP):List PV:=[.int .i64 m.k,.int .i64 m.a,.int .i64 m.b,.int .i64 m.c,.bool m.l,.bool m.o,.int .i64 m.s]
abbrev oz(ms:List aP):PV:=.sl (ms.map aP.ps)
theorem JY{ms:List aP}{k:Nat}{m:aP}(h:ms[k]?=some m):(ms.map aP.ps)[k]?=some m.ps:=by rw[fQ,h];rfl
def LI(L:List Let)(c:C)(aj:aA):Prop:=grown 4352256128 lN 6 (dF L) (.one c) aj\/grown 4352512129 lN 6 (dF L) (.one c) aj\/(L=[]/\c=.p (.sl []))
theorem LI.snap{L:List Let}{c:C}{aj:aA}(h:LI L c aj):∃r,Go.Abs.snap aj fM c=some (cK L,r):=by
 rcases h with h|h|⟨rfl,rfl⟩
 .obtain⟨r,h1,_⟩:=h.fM;exact⟨r,h1⟩
 .obtain⟨r,h1,_⟩:=h.fM;exact⟨r,h1⟩
 exact⟨[],rfl⟩
theorem LI.of_eq{L:List Let}{c:C}{aj ao:aA}(h:LI L c aj)(h1:ao 4352256128=aj 4352256128)(h2:ao 4352512129=aj 4352512129):LI L c ao:=by
 rcases h with h|h|h
 .exact .inl (h.of_eq h1)
 .exact .inr (.inl (h.of_eq h2))
 exact .inr (.inr h)
theorem apd{aj:aA}{rd:List Nat}{s:Nat}{e:Int}{l:Bool}:land aj rd s ((qX e).fP l)=some (.tup [.agg [.p (.int .i64 0),.p .nils],.one (.p (.int .i64 e))],[]):=by cases l<;>(unfold land;rw[aF (.inr rfl)];rfl)
abbrev GW(m:aP):V:=oD m.k m.a m.b m.c m.l m.o m.s
section
variable {Q:dD} {ak:Env} {aj:aA} {os:List bG} {d:Option Nat}
end
def LH(s:Nat)(L:List Let)(c:C)(aj:aA):Prop:=grown s lN 6 (dF L) (.one c) aj\/(L=[]/\c=.p (.sl []))
theorem LH.snap{s:Nat}{L:List Let}{c:C}{aj:aA}(h:LH s L c aj):∃r,Go.Abs.snap aj fM c=some (cK L,r):=by
 rcases h with h|⟨rfl,rfl⟩
 .obtain⟨r,h1,_⟩:=h.fM;exact⟨r,h1⟩
 exact⟨[],rfl⟩
theorem LH.of_eq{s:Nat}{L:List Let}{c:C}{aj ao:aA}(h:LH s L c aj)(h1:ao s=aj s):LH s L c ao:=by
 rcases h with h|h
 .exact .inl (h.of_eq h1)
 exact .inr h
section
variable {Q:dD} {ak:Env} {aj:aA} {os:List bG} {d:Option Nat}
end
end
end Go.Abs
