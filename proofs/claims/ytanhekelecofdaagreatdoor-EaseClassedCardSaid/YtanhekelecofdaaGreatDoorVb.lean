/- A part. -/
import Derived.Test.YtanhekelecofdaaGreatDoorWw
set_option linter.all false
set_option maxRecDepth 100000
set_option maxHeartbeats 16000000
namespace Go.Abs
section
variable{x:Int}{ls:ai}{F ty:Nat}{ws:d_}
section
attribute [local go_sem ↓] fm1 fm2
def dr(F:Nat)(ls:ai)(k a b c:Int)(l o:Bool)(sg:Int):Bool:=
 if k=2 then !l&&(!o&&(sg==0&&((jx ls.length a||(ls.length==0&&a==0))&&(decide (0<=b)&&(decide (b<=(F:Int))&&(decide (0<=c)&&decide (c<=(cg ls b.toNat:Int))))))))
 else if k=3\/k=6 then !l&&(!o&&(sg==0&&(jx ls.length a&&(c==0&&(jx ls.length b&&decide (a<b))))))
 else if k=5 then !l&&((sg==1||sg== -1)&&(jx ls.length a&&(b==0&&c==0)))
 else if k=7 then sg==0&&(jx ls.length a&&(c==0&&(jx ls.length b&& !(a==b))))
 else if k=8 then !l&&(!o&&(sg==0&&(jx ls.length a&&(jx ls.length b&&(jx ls.length c&&(decide (a<b)&&decide (b<c)))))))
 else if k=1\/k=4\/k=9\/k=10 then !l&&(!o&&(sg==0&&(jx ls.length a&&(b==0&&c==0))))
 else false
def qf{i:Int}{x:Bool}(h:jx ls.length i=x):aO S 106 [vi i,.one (.p (.box [.int .i64 ls.length]))] (rb x):=h▸is_p i ls.length
def rA(h:¬x=0):(x==0)=false/\(x !=0)=true:=by simp[h]
def xQ{y:Int}(h:¬x=y):(x==y)=false/\(x !=y)=true:=by simp[h]
section
variable {F:Nat} {ls:ai} {a b c:Int} {l o:Bool} {sg:Int}
def P0{k:Int}(hk:k=1\/k=4\/k=9\/k=10):aO S 91 [.one (.p (fA F ls)),ql k a b c l o sg] (rb (dr F ls k a b c l o sg)):=by
 obtain⟨v,hv⟩:∃v,dr F ls k a b c l o sg=v:=⟨_,rfl⟩;rw[hv];rcases hk with rfl|rfl|rfl|rfl
 all_goals
  refine bY c91 ?_;simp only[go_sem,i91,bk];refine ji [0,3,4,5,6,7,8,9,10,41] fun e1 kW=>?_;simp only[go_sem] at kW;cases l with
  |true=>
   obtain rfl:v=false:=by rw[<- hv];simp[dr]
   simp only[go_sem,kW]
  |false=>
   simp only[go_sem,kW];refine ji [0,3,4,5,6,7,8,9,10,53] fun e2 jk=>?_;simp only[go_sem,kW] at jk;cases o with
   |true=>
    obtain rfl:v=false:=by rw[<- hv];simp[dr]
    simp only[go_sem,jk]
   |false=>
    simp only[go_sem,jk];refine ji [0,3,4,5,6,7,8,9,10,60] fun e3 jB=>?_;simp only[go_sem,jk] at jB;by_cases hs:sg=0
    rotate_left
    .have kG:=(rA hs).1;have fR:=(rA hs).2;obtain rfl:v=false:=by rw[<- hv];simp[dr,hs]
     simp only[go_sem,jB,fR]
    subst hs;cases hA:jx ls.length a with
    |false=>
     have pA:=qf hA;obtain rfl:v=false:=by rw[<- hv];simp[dr,hA]
     simp only[go_sem,s106,jB,aJ pA]
    |true=>
     have pA:=qf hA;simp only[go_sem,s106,jB,aJ pA];refine ji [3,4,6,7,9,133] fun e4 nN=>?_;simp only[go_sem,jB] at nN;by_cases hb:b=0
     rotate_left
     .have dN:=(rA hb).2;obtain rfl:v=false:=by rw[<- hv];simp[dr,hA,hb]
      simp only[go_sem,nN,dN]
     subst hb;simp only[go_sem,nN];refine ji [3,4,6,7,9,142] fun e5 uc=>?_;simp only[go_sem,nN] at uc;by_cases hc:c=0
     rotate_left
     .have iZ:=(rA hc).2;obtain rfl:v=false:=by rw[<- hv];simp[dr,hA,hc]
      simp only[go_sem,uc,iZ]
     subst hc;obtain rfl:v=true:=by rw[<- hv];simp[dr,hA]
     simp only[go_sem,uc]
def ajL:aO S 91 [.one (.p (fA F ls)),ql 2 a b c l o sg] (rb (dr F ls 2 a b c l o sg)):=by
 obtain⟨v,hv⟩:∃v,dr F ls 2 a b c l o sg=v:=⟨_,rfl⟩;rw[hv];refine bY c91 ?_;simp only[go_sem,i91,bk];refine ji [0,3,4,5,6,7,8,9,10,41] fun e1 kW=>?_;simp only[go_sem] at kW;cases l with
 |true=>
  obtain rfl:v=false:=by rw[<- hv];simp[dr]
  simp only[go_sem,kW]
 |false=>
  simp only[go_sem,kW];refine ji [0,3,4,5,6,7,8,9,10,53] fun e2 jk=>?_;simp only[go_sem,kW] at jk;cases o with
  |true=>
   obtain rfl:v=false:=by rw[<- hv];simp[dr]
   simp only[go_sem,jk]
  |false=>
   simp only[go_sem,jk];refine ji [0,3,4,5,6,7,8,9,10,60] fun e3 jB=>?_;simp only[go_sem,jk] at jB;by_cases hs:sg=0
   rotate_left
   .have kG:=(rA hs).1;have fR:=(rA hs).2;obtain rfl:v=false:=by rw[<- hv];simp[dr,hs]
    simp only[go_sem,jB,fR]
   subst hs;cases hA:jx ls.length a with
   |true=>
    have pA:=qf hA;simp only[go_sem,s106,jB,dA pA];refine wy [0,3,4,6,7,9,92] fun e4 nN=>?_;simp only[go_sem,jB] at nN;by_cases kB:0<=b
    rotate_left
    .obtain rfl:v=false:=by rw[<- hv];simp[dr,hA,kB]
     simp only[go_sem,nN,kB];exact aL
    simp only[go_sem,nN,kB];refine wy [0,3,4,6,7,9,101] fun e5 uc=>?_;simp only[go_sem,nN] at uc;by_cases nM:b<=(F:Int)
    rotate_left
    .obtain rfl:v=false:=by rw[<- hv];simp[dr,hA,kB,nM]
     simp only[go_sem,uc,nM];exact aL
    obtain⟨B,rfl⟩:=vV kB;have hBF:B<=F:=aa;have r4:=kI (Qn (ls:=ls) hBF);have h5:B<F+1:=aa;have h6:(counts ls F).length=F+1:=by simp[counts]
    simp only[go_sem,uc,nM];refine wy [0,3,4,6,7,9,106] fun e6 FD=>?_;simp only[go_sem,uc] at FD;by_cases xW:0<=c
    rotate_left
    .obtain rfl:v=false:=by rw[<- hv];simp[dr,hA,kB,nM,xW]
     simp only[go_sem,FD,xW];exact aL
    by_cases Dz:c<=(cg ls B:Int)
    rotate_left
    .obtain rfl:v=false:=by rw[<- hv];simp[dr,hA,kB,nM,xW,Dz]
     simp only[go_sem,r4,FD,xW,Dz];exact aL
    obtain rfl:v=true:=by rw[<- hv];simp[dr,hA,kB,nM,xW,Dz]
    simp only[go_sem,r4,FD,xW,Dz];exact aL
   |false=>
    have pA:=qf hA;by_cases hn:ls.length=0
    rotate_left
    .have lM:((ls.length:Int)==0)=false:=beq_false_of_ne aa;have Kv:ls≠[]:=fun h=>hn (by rw[h];rfl);obtain rfl:v=false:=by rw[<- hv];simp[dr,hA,hn]
     simp only[go_sem,s106,jB,dA pA,lM];exact aL
    have lM:((ls.length:Int)==0)=true:=by rw[hn];rfl
    have Kv:=Gj.mp hn;by_cases ha:a=0
    rotate_left
    .have DB:=(rA ha).1;obtain rfl:v=false:=by rw[<- hv];simp[dr,Kv,ha,show jx 0 a=false by rw[<- hn];exact hA]
     simp only[go_sem,s106,jB,dA pA,lM,DB];exact aL
    subst ha;simp only[go_sem,s106,jB,dA pA,lM];refine wy [0,3,4,6,7,9,92] fun e7 hh7=>?_;simp only[go_sem,jB] at hh7;by_cases kB:0<=b
    rotate_left
    .obtain rfl:v=false:=by rw[<- hv];simp[dr,hn,kB]
     simp only[go_sem,hh7,kB];exact aL
    simp only[go_sem,hh7,kB];refine wy [0,3,4,6,7,9,101] fun e8 hh8=>?_;simp only[go_sem,hh7] at hh8;by_cases nM:b<=(F:Int)
    rotate_left
    .obtain rfl:v=false:=by rw[<- hv];simp[dr,hn,kB,nM]
     simp only[go_sem,hh8,nM];exact aL
    obtain⟨B,rfl⟩:=vV kB;have hBF:B<=F:=aa;have r4:=kI (Qn (ls:=ls) hBF);have h5:B<F+1:=aa;have h6:(counts ls F).length=F+1:=by simp[counts]
    simp only[go_sem,hh8,nM];refine wy [0,3,4,6,7,9,106] fun e9 hh9=>?_;simp only[go_sem,hh8] at hh9;by_cases xW:0<=c
    rotate_left
    .obtain rfl:v=false:=by rw[<- hv];simp[dr,hn,kB,nM,xW]
     simp only[go_sem,hh9,xW];exact aL
    by_cases Dz:c<=(cg ls B:Int)
    rotate_left
    .obtain rfl:v=false:=by rw[<- hv];simp[dr,hn,kB,nM,xW,Dz]
     simp only[go_sem,r4,hh9,xW,Dz];exact aL
    obtain rfl:v=true:=by rw[<- hv];simp[dr,hn,kB,nM,xW,Dz]
    simp only[go_sem,r4,hh9,xW,Dz];exact aL
def aaP{k:Int}(hk:k=3\/k=6):aO S 91 [.one (.p (fA F ls)),ql k a b c l o sg] (rb (dr F ls k a b c l o sg)):=by
 obtain⟨v,hv⟩:∃v,dr F ls k a b c l o sg=v:=⟨_,rfl⟩;rw[hv];rcases hk with rfl|rfl
 all_goals
  refine bY c91 ?_;simp only[go_sem,i91,bk];refine ji [0,3,4,5,6,7,8,9,10,41] fun e1 kW=>?_;simp only[go_sem] at kW;cases l with
  |true=>
   obtain rfl:v=false:=by rw[<- hv];simp[dr]
   simp only[go_sem,kW]
  |false=>
   simp only[go_sem,kW];refine ji [0,3,4,5,6,7,8,9,10,53] fun e2 jk=>?_;simp only[go_sem,kW] at jk;cases o with
   |true=>
    obtain rfl:v=false:=by rw[<- hv];simp[dr]
    simp only[go_sem,jk]
   |false=>
    simp only[go_sem,jk];refine ji [0,3,4,5,6,7,8,9,10,60] fun e3 jB=>?_;simp only[go_sem,jk] at jB;by_cases hs:sg=0
    rotate_left
    .have kG:=(rA hs).1;have fR:=(rA hs).2;obtain rfl:v=false:=by rw[<- hv];simp[dr,hs]
     simp only[go_sem,jB,fR]
    subst hs;cases hA:jx ls.length a with
    |false=>
     have pA:=qf hA;obtain rfl:v=false:=by rw[<- hv];simp[dr,hA]
     simp only[go_sem,s106,jB,aJ pA]
    |true=>
     have pA:=qf hA;simp only[go_sem,s106,jB,aJ pA];refine ji [3,4,6,7,9,142] fun e4 nN=>?_;simp only[go_sem,jB] at nN;by_cases hc:c=0
     rotate_left
     .have iZ:=(rA hc).2;obtain rfl:v=false:=by rw[<- hv];simp[dr,hA,hc]
      simp only[go_sem,nN,iZ]
     subst hc;cases hB:jx ls.length b with
     |false=>
      have pB:=qf hB;obtain rfl:v=false:=by rw[<- hv];simp[dr,hA,hB]
      simp only[go_sem,s106,nN,aJ pB]
     |true=>
      have pB:=qf hB;simp only[go_sem,s106,nN,aJ pB];refine ji [3,4,7,172,178] fun e5 uc=>?_;simp only[go_sem,nN] at uc;by_cases hl:a<b
      rotate_left
      .obtain rfl:v=false:=by rw[<- hv];simp[dr,hA,hB,hl]
       simp only[go_sem,uc,hl]
      obtain rfl:v=true:=by rw[<- hv];simp[dr,hA,hB,hl]
      simp only[go_sem,uc,hl]
def ajM:aO S 91 [.one (.p (fA F ls)),ql 5 a b c l o sg] (rb (dr F ls 5 a b c l o sg)):=by
 obtain⟨v,hv⟩:∃v,dr F ls 5 a b c l o sg=v:=⟨_,rfl⟩;rw[hv];refine bY c91 ?_;simp only[go_sem,i91,bk];refine ji [0,3,4,5,6,7,8,9,10,41] fun e1 kW=>?_;simp only[go_sem] at kW;cases l with
 |true=>
  obtain rfl:v=false:=by rw[<- hv];simp[dr]
  simp only[go_sem,kW]
 |false=>
  simp only[go_sem,kW];refine ji [0,3,4,5,6,7,8,9,10,60] fun e2 jk=>?_;simp only[go_sem,kW] at jk;by_cases q0:sg=0
  .subst q0;obtain rfl:v=false:=by rw[<- hv];simp[dr]
   simp only[go_sem,jk]
  by_cases q1:sg=1
  rotate_left;by_cases q2:sg= -1
  rotate_left
  .have NA:=(rA q0).2;have gD:=(xQ q1).2;have uI:=(xQ q2).2;obtain rfl:v=false:=by rw[<- hv];simp[dr,q1,q2]
   simp only[go_sem,jk,NA,gD,uI]
  .subst q1;cases hA:jx ls.length a with
   |false=>
    have pA:=qf hA;obtain rfl:v=false:=by rw[<- hv];simp[dr,hA]
    simp only[go_sem,s106,jk,aJ pA]
   |true=>
    have pA:=qf hA;simp only[go_sem,s106,jk,aJ pA];refine ji [3,4,6,7,9,133] fun e3 jB=>?_;simp only[go_sem,jk] at jB;by_cases hb:b=0
    rotate_left
    .have dN:=(rA hb).2;obtain rfl:v=false:=by rw[<- hv];simp[dr,hA,hb]
     simp only[go_sem,jB,dN]
    subst hb;simp only[go_sem,jB];refine ji [3,4,6,7,9,142] fun e4 nN=>?_;simp only[go_sem,jB] at nN;by_cases hc:c=0
    rotate_left
    .have iZ:=(rA hc).2;obtain rfl:v=false:=by rw[<- hv];simp[dr,hA,hc]
     simp only[go_sem,nN,iZ]
    subst hc;obtain rfl:v=true:=by rw[<- hv];simp[dr,hA]
    simp only[go_sem,nN]
  subst q2;cases hA:jx ls.length a with
  |false=>
   have pA:=qf hA;obtain rfl:v=false:=by rw[<- hv];simp[dr,hA]
   simp only[go_sem,s106,jk,aJ pA]
  |true=>
   have pA:=qf hA;simp only[go_sem,s106,jk,aJ pA];refine ji [3,4,6,7,9,133] fun e5 uc=>?_;simp only[go_sem,jk] at uc;by_cases hb:b=0
   rotate_left
   .have dN:=(rA hb).2;obtain rfl:v=false:=by rw[<- hv];simp[dr,hA,hb]
    simp only[go_sem,uc,dN]
   subst hb;simp only[go_sem,uc];refine ji [3,4,6,7,9,142] fun e6 FD=>?_;simp only[go_sem,uc] at FD;by_cases hc:c=0
   rotate_left
   .have iZ:=(rA hc).2;obtain rfl:v=false:=by rw[<- hv];simp[dr,hA,hc]
    simp only[go_sem,FD,iZ]
   subst hc;obtain rfl:v=true:=by rw[<- hv];simp[dr,hA]
   simp only[go_sem,FD]
end
end
section
attribute [local go_sem ↓] fm1 fm2
section
variable {F:Nat} {ls:ai} {a b c:Int} {l o:Bool} {sg:Int}
def ajN:aO S 91 [.one (.p (fA F ls)),ql 7 a b c l o sg] (rb (dr F ls 7 a b c l o sg)):=by
 obtain⟨v,hv⟩:∃v,dr F ls 7 a b c l o sg=v:=⟨_,rfl⟩;rw[hv];refine bY c91 ?_;simp only[go_sem,i91,bk];refine ji [0,3,4,5,6,7,8,9,10,60] fun e1 kW=>?_;simp only[go_sem] at kW;by_cases hs:sg=0
 rotate_left
 .have kG:=(rA hs).1;have fR:=(rA hs).2;obtain rfl:v=false:=by rw[<- hv];simp[dr,hs]
  simp only[go_sem,kW,fR]
 subst hs;cases hA:jx ls.length a with
 |false=>
  have pA:=qf hA;obtain rfl:v=false:=by rw[<- hv];simp[dr,hA]
  simp only[go_sem,s106,kW,aJ pA]
 |true=>
  have pA:=qf hA;simp only[go_sem,s106,kW,aJ pA];refine ji [3,4,6,7,9,142] fun e2 jk=>?_;simp only[go_sem,kW] at jk;by_cases hc:c=0
  rotate_left
  .have iZ:=(rA hc).2;obtain rfl:v=false:=by rw[<- hv];simp[dr,hA,hc]
   simp only[go_sem,jk,iZ]
  subst hc;cases hB:jx ls.length b with
  |false=>
   have pB:=qf hB;obtain rfl:v=false:=by rw[<- hv];simp[dr,hA,hB]
   simp only[go_sem,s106,jk,aJ pB]
  |true=>
   have pB:=qf hB;simp only[go_sem,s106,jk,aJ pB];by_cases hn:a=b
   .subst hn;obtain rfl:v=false:=by rw[<- hv];simp[dr,hA]
    simp only[go_sem]
   have hJ:=(xQ hn).2;obtain rfl:v=true:=by rw[<- hv];simp[dr,hA,hB,hn]
   simp only[go_sem,hJ]
def ajO:aO S 91 [.one (.p (fA F ls)),ql 8 a b c l o sg] (rb (dr F ls 8 a b c l o sg)):=by
 obtain⟨v,hv⟩:∃v,dr F ls 8 a b c l o sg=v:=⟨_,rfl⟩;rw[hv];refine bY c91 ?_;simp only[go_sem,i91,bk];refine ji [0,3,4,5,6,7,8,9,10,41] fun e1 kW=>?_;simp only[go_sem] at kW;cases l with
 |true=>
  obtain rfl:v=false:=by rw[<- hv];simp[dr]
  simp only[go_sem,kW]
 |false=>
  simp only[go_sem,kW];refine ji [0,3,4,5,6,7,8,9,10,53] fun e2 jk=>?_;simp only[go_sem,kW] at jk;cases o with
  |true=>
   obtain rfl:v=false:=by rw[<- hv];simp[dr]
   simp only[go_sem,jk]
  |false=>
   simp only[go_sem,jk];refine ji [0,3,4,5,6,7,8,9,10,60] fun e3 jB=>?_;simp only[go_sem,jk] at jB;by_cases hs:sg=0
   rotate_left
   .have kG:=(rA hs).1;have fR:=(rA hs).2;obtain rfl:v=false:=by rw[<- hv];simp[dr,hs]
    simp only[go_sem,jB,fR]
   subst hs;cases hA:jx ls.length a with
   |false=>
    have pA:=qf hA;obtain rfl:v=false:=by rw[<- hv];simp[dr,hA]
    simp only[go_sem,s106,jB,aJ pA]
   |true=>
    have pA:=qf hA;simp only[go_sem,s106,jB,aJ pA];cases hB:jx ls.length b with
    |false=>
     have pB:=qf hB;obtain rfl:v=false:=by rw[<- hv];simp[dr,hA,hB]
     simp only[go_sem,jB,aJ pB]
    |true=>
     have pB:=qf hB;cases hD:jx ls.length c with
     |false=>
      have pD:=qf hD;obtain rfl:v=false:=by rw[<- hv];simp[dr,hA,hB,hD]
      simp only[go_sem,s106,jB,aJ pB,aJ pD]
     |true=>
      have pD:=qf hD;simp only[go_sem,s106,jB,aJ pB,aJ pD];refine ji [3,4,7,172,178] fun e4 nN=>?_;simp only[go_sem,jB] at nN;by_cases hl:a<b
      rotate_left
      .obtain rfl:v=false:=by rw[<- hv];simp[dr,hA,hB,hD,hl]
       simp only[go_sem,nN,hl]
      by_cases hm:b<c
      rotate_left
      .obtain rfl:v=false:=by rw[<- hv];simp[dr,hA,hB,hD,hl,hm]
       simp only[go_sem,nN,hl,hm]
      obtain rfl:v=true:=by rw[<- hv];simp[dr,hA,hB,hD,hl,hm]
      simp only[go_sem,nN,hl,hm]
def ajK(k:Int):aO S 91 [.one (.p (fA F ls)),ql k a b c l o sg] (rb (dr F ls k a b c l o sg)):=by
 by_cases h1:k=1
 .subst h1;exact P0 ae
 by_cases h2:k=2
 .subst h2;exact ajL
 by_cases h3:k=3
 .subst h3;exact aaP ae
 by_cases h4:k=4
 .subst h4;exact P0 ae
 by_cases h5:k=5
 .subst h5;exact ajM
 by_cases h6:k=6
 .subst h6;exact aaP ae
 by_cases h7:k=7
 .subst h7;exact ajN
 by_cases h8:k=8
 .subst h8;exact ajO
 by_cases h9:k=9
 .subst h9;exact P0 ae
 by_cases ek:k=10
 .subst ek;exact P0 ae
 rw[show dr F ls k a b c l o sg=false by simp[dr,h1,h2,h3,h4,h5,h6,h7,h8,h9,ek]];have e1:=(xQ h1).1;have e2:=(xQ h2).1;have e3:=(xQ h3).1;have e4:=(xQ h4).1;have e5:=(xQ h5).1;have e6:=(xQ h6).1;have e7:=(xQ h7).1;have e8:=(xQ h8).1;have e9:=(xQ h9).1;have mY:=(xQ ek).1;refine bY c91 ?_;simp only[go_sem,i91,bk,e1,e2,e3,e4,e5,e6,e7,e8,e9,mY]
end
end
structure Swo {α:Type} (lt:α->α->Bool):Prop where
 asym:∀a b,lt a b=true->lt b a=false
 ntrans:∀a b c,lt b a=false->lt c b=false->lt c a=false
def xJ{α:Type}(lt:α->α->Bool)(ws:List α)(a b:Nat):Prop:=∀p q x y,a<=p->p<q->q<b->ws[p]?=some x->ws[q]?=some y->lt y x=false
structure Am {α:Type} (lt:α->α->Bool) (zs ws:List α) (x:α) (a i j:Nat):Prop where
 perm:ws.Perm zs
 le:a<=j/\j<=i/\i<ws.length
 at':ws[j]?=some x
 up:∀p y,j<p->p<=i->ws[p]?=some y->lt x y=true
 so:∀p q y z,a<=p->p<q->q<=i->p≠j->q≠j->ws[p]?=some y->ws[q]?=some z->lt z y=false
 out:∀p,p<a\/i<p->ws[p]?=zs[p]?
def Am.start{α:Type}{lt:α->α->Bool}{zs:List α}{x:α}{a i:Nat}(ha:a<=i)(hi:zs[i]?=some x)(hs:xJ lt zs a i):Am lt zs zs x a i i:=
 ⟨.refl _,⟨ha,cD _,(aW.1 hi).1⟩,hi,fun p y h1 h2=>aa,fun p q y z h0 h1 h2 h3 h4=>hs p q y z h0 h1 aa,fun _ _=>rfl⟩
def swap_perm{α:Type}{ws:List α}{i j:Nat}{x y:α}(hi:ws[i]?=some x)(hj:ws[j]?=some y):((ws.set i y).set j x).Perm ws:=by obtain⟨h1,e1⟩:=aW.1 hi;obtain⟨h2,e2⟩:=aW.1 hj;have:=List.set_set_perm h1 h2;rwa[e1,e2] at this
def Am.step{α:Type}{lt:α->α->Bool}{zs ws:List α}{x y:α}{a i j:Nat}(o:Swo lt)(h:Am lt zs ws x a i (j+1))(hj:a<=j)(hy:ws[j]?=some y)(aB:lt x y=true):
  Am lt zs ((ws.set (j+1) y).set j x) x a i j:=by
 obtain⟨hp,⟨_,hle,hl⟩,jU,wW,KE,qM⟩:=h;have Hx:j<ws.length:=(aW.1 hy).1;have get:∀p,((ws.set (j+1) y).set j x)[p]?=if p=j then some x else if p=j+1 then some y else ws[p]? :=fun p=>by
  rw[rh,rh,nA];by_cases e1:j=p
  .subst e1;simp[Hx]
  by_cases e2:j+1=p
  .subst e2;have:¬(j+1=j):=aa;rw[aC e1,aG rfl,aG aa,aC this,aG rfl]
  rw[aC e1,aC e2,aC (fun h=>e1 h.symm),aC (fun h=>e2 h.symm)]
 refine⟨(swap_perm jU hy).trans hp,⟨hj,aa,by simp;omega⟩,by rw[get];simp,?_,?_,?_⟩
 .intro p z h1 h2 hz;rw[get,aC aa] at hz;by_cases e:p=j+1
  .rw[aG e] at hz;cases hz;exact aB
  rw[aC e] at hz;exact wW p z aa h2 hz
 .intro p q u v h0 h1 h2 h3 h4 hu hv;rw[get,aC h3] at hu;rw[get,aC h4] at hv;by_cases e:p=j+1
  .rw[aG e] at hu;cases hu;rw[aC aa] at hv;exact KE j q _ _ hj aa h2 aa aa hy hv
  rw[aC e] at hu;by_cases e2:q=j+1
  .rw[aG e2] at hv;cases hv;exact KE p j _ _ h0 aa aa e aa hu hy
  rw[aC e2] at hv;exact KE p q _ _ h0 h1 h2 e e2 hu hv
 intro p fG;rw[get,aC aa,aC aa,qM p fG]
def Am.stop{α:Type}{lt:α->α->Bool}{zs ws:List α}{x:α}{a i j:Nat}(o:Swo lt)(h:Am lt zs ws x a i j)(hj:j=a\/ ∃y,a<j/\ws[j-1]?=some y/\lt x y=false):xJ lt ws a (i+1):=by
 obtain⟨hp,⟨hja,hle,hl⟩,jU,wW,KE,qM⟩:=h;intro p q u v h0 h1 h2 hu hv;by_cases e:q=j
 .subst e;rw[jU] at hv;cases hv;rcases hj with hj|⟨y,D0,hy,jc⟩
  .omega
  by_cases e3:p=q-1
  .subst e3;rw[hy] at hu;cases hu;exact jc
  exact o.ntrans _ _ _ (KE p (q-1) _ _ h0 aa aa aa aa hu hy) jc
 by_cases e2:p=j
 .subst e2;rw[jU] at hu;cases hu;exact o.asym _ _ (wW q v h1 aa hv)
 exact KE p q u v h0 h1 aa e2 e hu hv
def xJ.mono{α:Type}{lt:α->α->Bool}{ws:List α}{a b c:Nat}(h:xJ lt ws a c)(hb:b<=c\/ws.length<=c):xJ lt ws a b:=fun p q x y h0 h1 h2 hx hy=>h p q x y h0 h1 (by
 rcases hb with hb|hb
 .omega
 have:=(aW.1 hy).1;omega) hx hy
abbrev tC(a b:Int):Bool:=decide (a<b)
def ZP:Swo tC:=⟨fun a b h=>by simp at*;omega,fun a b c h k=>by simp at*;omega⟩
def aqH(a:Int):aO S 202 [vi a] (rb false):=by refine bY c202 ?_;have h:(a !=a)=false:=af;simp only[go_sem,i202,h]
def apR(a b:Int):aO S 185 [vi a,vi b] (rb (tC a b)):=by have pn:=aqH a;refine bY c185 ?_;simp only[go_sem,i185,s202,aJ pn,tC]
def Wk(n:Nat)(h:n<=1000000):∃k:Int,aO S 129 [.one (.p (.int .u64 n))] (ri k):=by
 refine⟨((Lib.bitLen n:Nat):Int),⟨1,?_⟩⟩;have hp:S.prim 129 [.one (.p (.int .u64 (n:Int)))]=some (some (ri ((Lib.bitLen n:Nat):Int))):=by show some (Pd [.one (.p (.int .u64 (n:Int)))])=_;simp only[Pd];rw[aG ⟨aa,aa⟩];rfl
 rw[ij,hp]
def Ym(o:d_)(k:Nat)(v:Int):(iP o).set k [.int .i64 v]=iP (o.set k v):=by simp[List.map_set]
def wY(o:d_):(iP o).length=o.length:=cU _
def Gc(lt:Int->Int->Bool)(id g ty:Nat)(es:d_)(aj:aE)(v:V)(ao:aE):Prop:=v=.tup []/\(∃ws:d_,ao id=(g,some (.arr ty 1 (iP ws)))/\ws.Perm es/\xJ lt ws 0 ws.length)/\Kept (· =id) aj ao
def apa{al:Al}{aj:aE}{id g:Nat}{es:d_}(o:al.ok id=true)(hl:es.length<=1000000)(hC:aj id=(g,some (.arr ty 1 (iP es)))):
  ∃v ao,jd S 179 [.one (.hsl id g 1 0 es.length),vi 0,vi es.length] al aj v ao/\Gc tC id g ty es aj v ao:=by
 refine nH c179 (iI rfl) ?_;have w0:IntKind.i64.wrap (0+1)=((0+1:Nat):Int):=ae;simp only[go_sem,i179];refine dG (fun k ak ao=>ak 0=.one (.hsl id g 1 0 es.length)/\ak 1=vi 0/\ak 2=vi es.length/\ak 6=vi ((k+1:Nat):Int)/\ ∃zs:d_,ao id=(g,some (.arr ty 1 (iP zs)))/\zs.Perm es/\xJ tC zs 0 (k+1)/\Kept (· =id) aj ao) 0 es.length (cA _) ?_ ?_
 .simp only[go_sem];exact⟨rfl,es,hC,.refl _,fun p q x y _ h1 h2=>aa,Kept.refl _ _⟩
 rintro k ak cZ hk ⟨h0,h1,h2,h6,zs,hZ,hp,hs,dQ⟩
 have mM:=hp.length_eq;by_cases aB:k+1<es.length
 .have aP:((k+1:Nat):Int)<(es.length:Int):=aa;obtain⟨x,hx⟩:=aN (ls:=zs) (k:=k+1) aa;simp only[go_sem,i179_l3,h2,h6,aP];refine dG (fun q ak ao=>ak 0=.one (.hsl id g 1 0 es.length)/\ak 1=vi 0/\ak 2=vi es.length/\ak 6=vi ((k+1:Nat):Int)/\ak 7=vi ((k+1-q:Nat):Int)/\ ∃ws:d_,ao id=(g,some (.arr ty 1 (iP ws)))/\Am tC zs ws x 0 (k+1) (k+1-q)/\Kept (· =id) aj ao) 0 (k+1) (cA _) ?_ ?_
  .simp only[go_sem,h0,h1,h2,h6];exact⟨zs,hZ,Am.start (cA _) hx hs,dQ⟩
  rintro q dE bN hq ⟨k0,k1,k2,k6,k7,ws,hW,hI,HA⟩
  have lh:ws.length=es.length:=hI.perm.length_eq.trans mM;have wk:IntKind.i64.wrap (((k+1:Nat):Int)+1)=((k+1+1:Nat):Int):=df (n:=k+1) aa;by_cases hj0:k+1-q=0
  .have e7:¬((0:Int)<((k+1-q:Nat):Int)):=aa;simp only[go_sem,i179_l1,i179_r2,k0,k1,k2,k6,k7,e7,wk];refine⟨aL,aa,ws,hW,hI.perm.trans hp,hI.stop ZP (.inl hj0),HA⟩
  obtain⟨j,hj⟩:∃j,k+1-q=j+1:=⟨k-q,aa⟩;have e7:((0:Int)<((j+1:Nat):Int)):=aa;obtain⟨y,hy⟩:=aN (ls:=ws) (k:=j) aa;rw[hj] at hI k7;have wj:IntKind.i64.wrap (((j+1:Nat):Int)-1)=(j:Int):=by rw[Ac aa];omega
  have ue:=Ce hI.at';have D0:=Ce hy;have j1:j+1<es.length:=by have:=hI.le;omega
  have j2:j<es.length:=aa;have pl:=apR x y;cases jc:tC x y with
  |false=>rw[jc] at pl;simp only[go_sem,i179_l1,i179_r2,k0,k1,k2,k6,k7,e7,wk,wj,hW,ue,D0,j1,j2,o,s185,Qp pl];refine⟨aL,aa,ws,rfl,hI.perm.trans hp,hI.stop ZP (.inr ⟨y,aa,hy,jc⟩),HA⟩
  |true=>rw[jc] at pl;have xX:=hI.step ZP (cA _) hy jc;have hjj:¬(j+1=j):=aa;have l1:j+1<ws.length:=aa;have l2:j<ws.length:=aa;simp only[go_sem,i179_l1,i179_r2,k0,k1,k2,k6,k7,e7,wj,hW,ue,D0,j1,j2,l1,hjj,o,s185,Qp pl,rh,wY];have HG:k+1-(q+1)=j:=aa;refine⟨aL,aL,aa,by rw[HG],(ws.set (j+1) y).set j x,by rw[Ym,Ym],by rw[HG];exact xX,(HA.eH rfl _).eH rfl _⟩
 have aP:¬(((k+1:Nat):Int)<(es.length:Int)):=aa;simp only[go_sem,i179_l3,h2,h6,aP];exact⟨rfl,⟨zs,hZ,hp,hs.mono (.inl aa)⟩,dQ⟩
def BJ{Q:eK}{al:Al}{ak:Env}{aj:aE}{os:g_}{d:w_}{f id g ty z o n:Nat}{vs:e_}{es:s_}{P:V->aE->Prop}(hC:aj id=(g,some (.arr ty z es)))(sa:(vs.map (jy aj)).flatten=[])(hh:al=.all\/al.ok id=true/\(S.sites f).all al.fs.contains=true)
  (h:∀rT,rT.ok id=true->rT.fs=S.sites f->∃v ao,jd S f (.one (.hsl id g z o n)::vs) rT aj v ao/\P v ao)
  (hK:∀v ao,P v ao->RN S al os Q (put ak d v) ao):gP S al (.sc f (.one (.hsl id g z o n)::vs)) d os Q ak aj:=by
 have hr:((V.one (.hsl id g z o n)::vs).map (jy aj)).flatten=[id]:=by rw[eD,mS,sa,Zt hC];rfl
 refine sY (P:=P) ?_ (h _ (vg (by rw[hr];simp)) rfl) hK;rcases hh with rfl|⟨h1,h2⟩
 .rfl
 refine holds_of ?_ h2;show al.fT ((V.one (.hsl id g z o n)::vs).map (jy aj)).flatten=true;rw[hr];simp[Al.fT,h1]
def aro{al:Al}{aj:aE}{id g:Nat}{es:d_}(o:al.ok id=true)(f1:al.fs.contains 179=true)(hl:es.length<=12)(hC:aj id=(g,some (.arr ty 1 (iP es))))(lim:Int):
  ∃v ao,jd S 164 [.one (.hsl id g 1 0 es.length),vi 0,vi es.length,vi lim] al aj v ao/\Gc tC id g ty es aj v ao:=by
 refine nH c164 (iI rfl) ?_;have w0:IntKind.i64.wrap ((es.length:Int)-0)=(es.length:Int):=by rw[Int.sub_zero];exact xx aa aa
 have jA:(es.length:Int)<=12:=aa;simp only[go_sem,i164];refine sJ ?_;simp only[go_sem,i164_l1,w0,jA,s179];refine BJ hC (by rfl) (.inr ⟨o,by rw[show S.sites 179=[179] by kernel_rfl];simp only[oY,sH,f1,xy]⟩) (P:=Gc tC id g ty es aj) (fun rT h1 _=>apa h1 aa hC) fun v ao hP=>?_;obtain⟨rfl,h2⟩:=hP;simp only[go_sem];exact⟨rfl,h2⟩
def ZL{al:Al}{aj:aE}{id g:Nat}{es:d_}(o:al.ok id=true)(f1:(S.sites 164).all al.fs.contains=true)(hl:es.length<=12)(hC:aj id=(g,some (.arr ty 1 (iP es)))):
  ∃v ao,jd S 130 [.one (.hsl id g 1 0 es.length)] al aj v ao/\Gc tC id g ty es aj v ao:=by
 obtain⟨k,pb⟩:=Wk es.length aa;have wu:IntKind.u64.wrap (es.length:Int)=(es.length:Int):=by
  have e:IntKind.u64.wrap (es.length:Int)=(es.length:Int)%18446744073709551616:=by unfold IntKind.wrap;rfl
  rw[e];omega
 refine nH c130 (iI rfl) ?_;have sbl:S.shared 129=false:=ah;simp only[go_sem,i130,wu,sbl,Fo pb,s164];refine BJ hC (by rfl) (.inr ⟨o,f1⟩) (P:=Gc tC id g ty es aj) (fun rT h1 h2=>aro h1 (by rw[h2];kernel_rfl) hl hC k) fun v ao hP=>?_;obtain⟨rfl,h2⟩:=hP;simp only[go_sem];exact⟨rfl,h2⟩
def mH(ws:d_):Nat->d_
 |0=>[]
 |k+1=>match ws[k]? with
  |some x=>if 0<k/\ws[k-1]?=some x then mH ws k else mH ws k++[x]
  |none=>mH ws k
def abQ(ws:d_):∀k,(mH ws k).length<=k:=by
 intro k
 induction k with
 |zero=>exact cD _
 |succ k ih=>
  unfold mH;split
  .split
   .omega
   simp;omega
  omega
def WQ{k:Nat}(h:ws[k+1]?=some x)(hp:ws[k]?=some x):mH ws (k+2)=mH ws (k+1):=by
 conv=>lhs;unfold mH
 rw[h];simp[hp]
def WL{k:Nat}{y:Int}(h:ws[k+1]?=some x)(hp:ws[k]?=some y)(hn:¬x=y):mH ws (k+2)=mH ws (k+1)++[x]:=by
 conv=>lhs;unfold mH
 rw[h];have:¬y=x:=fun e=>hn e.symm;simp[hp,this]
def alp(h:ws[0]?=some x):mH ws 1=[x]:=by simp[mH,h]
def Ux(ws:d_)(k:Nat):Prop:=∀i x y,i+1<k->ws[i]?=some x->ws[i+1]?=some y-> ¬y=x
def WM:∀k,k<=ws.length->Ux ws k->mH ws k=ws.take k:=by
 intro k
 induction k with
 |zero=>intro _ _;rfl
 |succ k ih=>
  intro hk h;obtain⟨x,hx⟩:=aN (ls:=ws) (k:=k) aa;have e:=ih aa fun i x y h1=>h i x y aa;have ht:ws.take (k+1)=ws.take k++[x]:=by rw[nC,hx];rfl
  rcases k with _|k
  .rw[alp hx,ht];rfl
  obtain⟨y,hy⟩:=aN (ls:=ws) (k:=k) aa;rw[WL hx hy (h k y x aa hy hx),e,ht]
structure Ax (ws cs:d_) (k q:Nat):Prop where
 len:cs.length=ws.length
 kl:k=(mH ws q).length
 pre:cs.take k=mH ws q
 out:∀p,q-1<=p->cs[p]?=ws[p]?
 kq:k<q
def Ax.step{cs:d_}{k q:Nat}{y:Int}(h:Ax ws cs k (q+1))(hx:ws[q+1]?=some x)(hy:ws[q]?=some y)(hn:¬x=y):Ax ws (cs.set k x) (k+1) (q+2):=by
 obtain⟨h1,h2,h3,h4,h5⟩:=h;have hl:=abQ ws (q+1);have hq:q+1<ws.length:=(aW.1 hx).1;refine⟨by simpa using h1,by rw[WL hx hy hn,gJ,<- h2];rfl,?_,fun p hp=>?_,aa⟩
 .rw[WL hx hy hn,nC,rh];have:k<cs.length:=aa;rw[aG rfl,aG this,List.take_set_of_le (cD _),h3];rfl
 rw[rh,aC aa];exact h4 p aa
def Ax.skip{cs:d_}{k q:Nat}(h:Ax ws cs k (q+1))(hx:ws[q+1]?=some x)(hy:ws[q]?=some x):Ax ws cs k (q+2):=by obtain⟨h1,h2,h3,h4,h5⟩:=h;exact⟨h1,by rw[WQ hx hy];exact h2,by rw[WQ hx hy];exact h3,fun p hp=>h4 p aa,aa⟩
def Ax.start{k:Nat}(hk:k+1<ws.length)(h:Ux ws (k+1))(hx:ws[k+1]?=some x)(hy:ws[k]?=some x):Ax ws ws (k+1) (k+2):=by have e:=WM (k+1) aa h;have e2:mH ws (k+2)=ws.take (k+1):=(WQ hx hy).trans e;exact⟨rfl,by rw[e2];simp;omega,by rw[e2],fun _ _=>rfl,aa⟩
def Wy(id g ty:Nat)(ws:d_)(aj:aE)(v:V)(ao:aE):Prop:=v=.one (.hsl id g 1 0 (mH ws ws.length).length)/\(∃cs:d_,ao id=(g,some (.arr ty 1 (iP cs)))/\cs.length=ws.length/\cs.take (mH ws ws.length).length=mH ws ws.length)/\Kept (· =id) aj ao
def aoU{cs:d_}{k:Nat}(hk:k<=cs.length):List.take k (iP cs)++List.replicate (cs.length-k) [PV.int .i64 0]++List.drop (k+(cs.length-k)) (iP cs)=iP (cs.take k++List.replicate (cs.length-k) 0):=by rw[List.drop_of_length_le (by simp;omega),jJ];simp only[iP,ki,List.map_replicate,Gk]
def abC{al:Al}{aj:aE}{id g:Nat}(o:al.ok id=true)(hl:ws.length<=1000000)(hC:aj id=(g,some (.arr ty 1 (iP ws)))):
  ∃v ao,jd S 147 [.one (.hsl id g 1 0 ws.length)] al aj v ao/\Wy id g ty ws aj v ao:=by
 refine nH c147 (iI rfl) ?_;by_cases h2:ws.length<2
 .have ju:((ws.length:Int)<2):=aa;have gH:Ux ws ws.length:=fun i x y h=>aa;have e:=WM ws.length (cD _) gH;rw[lR] at e;simp only[go_sem,i147,ju];exact⟨by rw[e],⟨ws,hC,rfl,by rw[e,lR]⟩,Kept.refl _ _⟩
 have ju:¬((ws.length:Int)<2):=aa;simp only[go_sem,i147,ju];refine dG (fun q ak ao=>ak 0=.one (.hsl id g 1 0 ws.length)/\ak 3=vi ((q+1:Nat):Int)/\Ux ws (q+1)/\ao=aj) 0 ws.length (cA _) ?_ ?_
 .simp only[go_sem];exact⟨rfl,fun i x y h=>aa⟩
 rintro q ak cZ hq ⟨h0,h3,gH,rfl⟩
 by_cases aB:q+1<ws.length
 .have aP:(((q+1:Nat):Int)<(ws.length:Int)):=aa;obtain⟨x,hx⟩:=aN (ls:=ws) (k:=q+1) aB;obtain⟨y,hy⟩:=aN (ls:=ws) (k:=q) aa;have ue:=Ce hx;have D0:=Ce hy;have wj:IntKind.i64.wrap (((q+1:Nat):Int)-1)=(q:Int):=by rw[Ac aa];omega
  have wk:=df (n:=q+1) aa;have q1:q<ws.length:=aa;have q2:q+1<=ws.length:=aa;by_cases e:x=y
  .subst e;simp only[go_sem,i147_l4,h0,h3,aB,aP,ue,D0,wj,q1,q2,hC,o];refine⟨aL,?_⟩;refine dG (fun r ak ao=>ak 0=.one (.hsl id g 1 0 ws.length)/\ak 4=.one (.hsl id g 1 (q+1) (ws.length-(q+1)))/\ak 5=vi ((r+1:Nat):Int)/\ ∃(cs:d_) (k:Nat),ak 3=vi (k:Nat)/\ao id=(g,some (.arr ty 1 (iP cs)))/\Ax ws cs k (q+2+r)/\q+2+r<=ws.length/\Kept (· =id) cZ ao) 0 ws.length (cA _) ?_ ?_
   .simp only[go_sem,h0];exact⟨rfl,ws,q+1,h3,hC,Ax.start aB gH hx hy,aa,Kept.refl _ _⟩
   rintro r dE bN hr ⟨k0,k4,k5,cs,k,k3,hB,hI,hqr,dQ⟩
   have cK:=hI.len;have eT:=hI.kl;have ad2:=abQ ws (q+2+r);have hkq:=hI.kq;have Kb:Ax ws cs k (q+1+r+1):=by rw[show q+1+r+1=q+2+r by omega];exact hI
   by_cases TX:r+1<ws.length-(q+1)
   .have TY:(((r+1:Nat):Int)<((ws.length-(q+1):Nat):Int)):=aa;obtain⟨u,hu⟩:=aN (ls:=ws) (k:=q+1+(r+1)) aa;obtain⟨v,hv⟩:=aN (ls:=ws) (k:=q+1+r) aa;have cu:=Ce ((hI.out (q+1+(r+1)) aa).trans hu);have cv:=Ce ((hI.out (q+1+r) aa).trans hv);have wr:IntKind.i64.wrap (((r+1:Nat):Int)-1)=(r:Int):=by rw[Ac aa];omega
    have wr2:=df (n:=r+1) aa;have wk2:=df (n:=k) aa;have r1:r<ws.length-(q+1):=aa;have kk:k<ws.length:=aa;have kk2:k<cs.length:=aa;obtain⟨z,hz⟩:=aN kk2;have cz:=Ce hz;by_cases e2:u=v
    .subst e2;have FR:(u !=u)=false:=af;have xX:=Kb.skip (by rw[show q+1+r+1=q+1+(r+1) by omega];exact hu) hv;simp only[go_sem,i147_l1,k0,k4,k5,k3,TX,TY,r1,hB,cu,cv,wr,wr2,FR,o];refine⟨aL,aa,cs,k,rfl,rfl,by rw[show q+2+(r+1)=q+1+r+2 by omega];exact xX,aa,dQ⟩
    have FR:=(show(u !=v)=true by simp[e2]);simp only[go_sem,i147_l1,k0,k4,k5,k3,TX,TY,r1,hB,cu,cv,wr,wr2,wk2,kk,cz,FR,o];have xX:=Kb.step (by rw[show q+1+r+1=q+1+(r+1) by omega];exact hu) hv e2;refine⟨aL,aa,cs.set k u,k+1,rfl,by rw[Ym],by rw[show q+2+(r+1)=q+1+r+2 by omega];exact xX,aa,dQ.eH rfl _⟩
   have TY:¬(((r+1:Nat):Int)<((ws.length-(q+1):Nat):Int)):=aa;have kk3:k<=ws.length:=aa;have kk4:k+(ws.length-k)<=cs.length:=aa;have aK:¬(ws.length-k=0):=aa;have TP:q+2+r=ws.length:=aa;rw[TP] at hI;have qc:=aoU (cs:=cs) (k:=k) aa;rw[cK] at qc;simp only[go_sem,i147_l1,i147_r2,k0,k4,k5,k3,TY,hB,o,kk3,kk4,aK,List.length_replicate,wY,qc];obtain⟨i1,i2,i3,i4,i5⟩:=hI;refine⟨by rw[<- i2],⟨_,Bp,by simp;omega,?_⟩,dQ.eH rfl _⟩;rw[<- i2,List.take_left' (by simp;omega),i3]
  have e1:=(show(x==y)=false by simp[e]);simp only[go_sem,i147_l4,i147_r3,h0,h3,aB,aP,ue,D0,wj,wk,q1,hC,o,e1];refine⟨aL,fun i u v h h4 h5=>?_⟩;by_cases e2:i=q
  .subst e2;rw[hy] at h4;rw[hx] at h5;cases h4;cases h5;exact e
  exact gH i u v aa h4 h5
 have aP:¬(((q+1:Nat):Int)<(ws.length:Int)):=aa;have e:=WM ws.length (cD _) (fun i x y h=>gH i x y aa);rw[lR] at e;simp only[go_sem,i147_l4,i147_r5,h0,h3,aP];exact⟨by rw[e],⟨ws,hC,rfl,by rw[e,lR]⟩,Kept.refl _ _⟩
def iQ:d_->d_
 |[]=>[]
 |x::r=>if x∈r then iQ r else x::iQ r
def Az:∀ {l:d_},x∈iQ l↔x∈l:=by
 intro l
 induction l with
 |nil=>simp[iQ]
 |cons y r ih=>
  unfold iQ;split
  .rename_i h;rw[ih,ch];constructor
   .exact .inr
   rintro (rfl|h2)
   .exact h
   exact h2
  rw[ch,ch,ih]
def alJ:∀l:d_,(iQ l).Nodup:=by
 intro l
 induction l with
 |nil=>exact xE
 |cons y r ih=>
  unfold iQ;split
  .exact ih
  rename_i h;exact rj.2 ⟨fun h2=>h (Az.1 h2),ih⟩
def abR:∀k,k<=ws.length->(x∈mH ws k↔x∈ws.take k):=by
 intro k
 induction k with
 |zero=>intro _;simp[mH]
 |succ k ih=>
  intro hk;obtain⟨y,hy⟩:=aN (ls:=ws) (k:=k) aa;have ht:ws.take (k+1)=ws.take k++[y]:=by rw[nC,hy];rfl
  have ih:=ih aa;unfold mH;rw[hy,ht];simp only;split
  .rename_i h;obtain⟨h1,h2⟩:=h;have hm:y∈ws.take k:=by
    rw[List.mem_take_iff_getElem];obtain⟨h3,h4⟩:=aW.1 h2;exact⟨k-1,aa,h4⟩
   rw[ih,eX];constructor
   .exact .inl
   rintro (h|h)
   .exact h
   simp at h;subst h;exact hm
  rw[eX,eX,ih]
def alo(hs:xJ tC ws 0 ws.length):∀k,k<=ws.length->(mH ws k).Nodup:=by
 intro k
 induction k with
 |zero=>intro _;exact xE
 |succ k ih=>
  intro hk;obtain⟨y,hy⟩:=aN (ls:=ws) (k:=k) aa;have ih:=ih aa;unfold mH;rw[hy];simp only;split
  .exact ih
  rename_i h;rw[EL];refine⟨ih,af,fun z hz w hw=>?_⟩;simp at hw;subst hw;rintro rfl
  rw[abR k aa,List.mem_take_iff_getElem] at hz;obtain⟨p,hp,hpz⟩:=hz;have hpk:p<k:=aa;have ml:ws[p]?=some z:=by rw[rR aa,hpz]
  obtain⟨u,hu⟩:=aN (ls:=ws) (k:=k-1) aa;have s1:=hs (k-1) k u z (cA _) aa aa hu hy;have huz:u=z:=by
   by_cases e:p=k-1
   .rw[e,hu] at ml;cases ml;rfl
   have s2:=hs p (k-1) z u (cA _) aa aa ml hu;simp at s1 s2;omega
  rw[huz] at hu;exact h ⟨aa,hu⟩
def abB{es:d_}(hp:ws.Perm es)(hs:xJ tC ws 0 ws.length):(mH ws ws.length).length=(iQ es).length:=by refine List.Perm.length_eq ((VL (alo hs _ (cD _)) (alJ es)).2 fun x=>?_);rw[abR _ (cD _),lR,Az,hp.mem_iff]
def ru(ls:ai)(e:Nat):Bool:=((pA ls e).l.kind==2)&&((pA ls (nx ls e)).l.kind==2)
def my(ls:ai)(es:a_):d_:=es.flatMap fun e:Nat=>[(e:Int),(nx ls e:Int)]
def re(ls:ai)(es:a_):d_:=es.flatMap fun e:Nat=>[(pA ls e).l.id,(pA ls (nx ls e)).l.id]
def LH(F:Nat)(ls:ai)(a b c:Nat):Bool:=[a,b,c].all (ru ls)&&(((iQ (my ls [a,b,c])).length==6)&&(((iQ (re ls [a,b,c])).length==3)&&([a,b,c].any (iB ls · true)&&([a,b,c].any (iB ls · false)&&kQ F ls 0 [a,b,c] a))))
def mR(F:Nat)(ls:ai)(a b c:Nat):Option c_:=if LH F ls a b c then some (dC ls (pieces ls) [a,b,c]) else none
def Vs(f:Nat->d_)(hf:∀e,(f e).length=2):∀l:a_,(l.flatMap f).length=2*l.length:=by
 intro l
 induction l with
 |nil=>rfl
 |cons a r ih=>rw[L4,gJ,ih,hf,dL];omega
def ac0(f:Nat->d_)(l:a_)(k e:Nat)(h:l[k]?=some e):(l.take (k+1)).flatMap f=(l.take k).flatMap f++f e:=by rw[nC,h];simp
def aaK(f:Nat->Bool)(l:a_)(k e:Nat)(h:l[k]?=some e):(l.take (k+1)).any f=((l.take k).any f||f e):=by rw[nC,h];simp
def ajw(f:Nat->Bool)(l:a_)(k e:Nat)(h:l[k]?=some e):(l.take (k+1)).all f=((l.take k).all f&&f e):=by rw[nC,h];simp
def aiy(f:Nat->d_)(es:a_)(x y:Int):iP (es.flatMap f)++[[PV.int .i64 x],[PV.int .i64 y]]=iP (es.flatMap f++[x,y]):=af
def au4(g:cE F ls){av bv cv:Nat}(ha:av<ls.length)(hb:bv<ls.length)(hc:cv<ls.length){k:Int}{l o:Bool}{sg:Int}:
  aO S 114 [.one (.p (fA F ls)),ql k av bv cv l o sg] (kR (mR F ls av bv cv)):=by
 have hlen:=g.len;have bd:=bk ls;have gG:∀e∈[av,bv,cv],e<ls.length:=fun e h=>by simp at h;rcases h with rfl|rfl|rfl<;>assumption
 generalize hE:[av,bv,cv]=es at*;have dy:es.length=3:=by rw[<- hE];rfl
 have Kv:nP [av,bv,cv]=[[.int .i64 av],[.int .i64 bv],[.int .i64 cv]]:=rfl;rw[hE] at Kv;have w3:((3:Nat):Int)=3:=rfl;refine bY c114 ?_;simp only[go_sem,i114];refine dG (fun j ak aj=>ak 0=.one (.p (fA F ls))/\ak 6=.one (.hsl 7296064384 1 1 0 3)/\ak 22=.one (.hsl 7296064384 1 1 0 3)/\ak 23=vi 3/\ak 24=vi j/\aj 7296064384=(1,some (.arr 3 1 (nP es)))/\(es.take j).all (ru ls)=true/\
  ak 9=vb ((es.take j).any (iB ls · true))/\ak 10=vb ((es.take j).any (iB ls · false))/\ ∃c7 c8,ak 7=.one c7/\ak 8=.one c8/\grown 7296640256 3 1 (iP (my ls (es.take j))) (.one c7) aj/\grown 7296705280 3 1 (iP (re ls (es.take j))) (.one c8) aj) 0 3 (cA _) ?_ ?_
 .simp only[go_sem];exact⟨rfl,rfl,by rw[Kv],rfl,rfl,_,_,rfl,rfl,grown.nil,grown.nil⟩
 rintro j ak aj hj ⟨h0,h6,uI,pP,mK,b6,dV,h9,ek,c7,c8,h7,h8,g7,g8⟩
 by_cases aB:j<3
 .have aP:((j:Int)<3):=aa;obtain⟨e,he⟩:=aN (ls:=es) (k:=j) aa;have FA:=gG e (aZ he);have hnp:=kI he;have pe:=Ds g FA;have hm:=dk (e+1) (show 0<ls.length by omega);obtain⟨P,hP⟩:=aN (ls:=pieces ls) (k:=e) aa;obtain⟨Q,hQ⟩:=aN (ls:=pieces ls) (k:=(e+1)%ls.length) aa;have qI:=j7 hP;have haq:=j7 hQ;have w1:=df (n:=j) aa;have po:=Jj g FA true;have pu:=Jj g FA false;have fg:ru ls e=((P.l.kind==2)&&(Q.l.kind==2)):=by unfold ru;rw[iU hP,iU hQ]
  have hl7:(iP (my ls (es.take j))).length<=100:=by unfold my;rw[wY,Vs _ (fun _=>rfl),iH];omega
  have hl8:(iP (re ls (es.take j))).length<=100:=by unfold re;rw[wY,Vs _ (fun _=>rfl),iH];omega
  have eh:ru ls e=false->mR F ls av bv cv=none:=fun h=>by
   have:es.all (ru ls)=false:=by
    cases hh:es.all (ru ls) with
    |false=>rfl
    |true=>rw[gj.1 hh e (aZ he)] at h;cases h
   unfold mR LH;rw[hE,this];rfl
  cases k1:(P.l.kind==2) with
  |false=>
   rw[k1] at fg;have k1':(P.l.kind !=2)=true:=by simp only[bne,k1];rfl
   rw[eh fg];simp only[go_sem,i114_l1,h0,uI,pP,mK,b6,aB,aP,hnp,s134,aY pe bK,qI,Pc.ps,k1'];rfl
  |true=>
   have k1':(P.l.kind !=2)=false:=by simp only[bne,k1];rfl
   cases k2:(Q.l.kind==2) with
   |false=>
    rw[k1,k2] at fg;have k2':(Q.l.kind !=2)=true:=by simp only[bne,k2];rfl
    rw[eh fg];simp only[go_sem,i114_l1,h0,uI,pP,mK,b6,aB,aP,hnp,s134,aY pe bK,qI,haq,Pc.ps,k1',k2'];rfl
   |true=>
    rw[k1,k2] at fg;have k2':(Q.l.kind !=2)=false:=by simp only[bne,k2];rfl
    simp only[go_sem,i114_l1,h0,h7,uI,pP,mK,b6,aB,aP,hnp,s134,aY pe bK,qI,haq,Pc.ps,k1',k2'];refine xU (xs:=[[.int .i64 (e:Nat)],[.int .i64 ((e+1)%ls.length:Nat)]]) (g7.of_eq (bn ae)) (by simp only[gb,aU,if_true];rfl) (.inl rfl) (by simp only[dL,fv];omega) fun d7 cZ gd7 dN=>?_;have q6:=dN 7296064384 ae ae;simp only[go_sem,b6] at q6;have g8':=g8.of_eq ((dN 7296705280 ae ae).trans (bn ae));simp only[go_sem,h0,h8,qI,haq,Pc.ps];refine Dn (xs:=[[.int .i64 P.l.id],[.int .i64 Q.l.id]]) (g8'.of_eq (bn ae)) (by simp only[gb,aU,if_true];rfl) (.inl rfl) (by simp only[dL,fv];omega) fun d8 bN r w gd8 bR hw=>?_
    have p6:=(bR 7296064384 ae ae).trans ((bn ae).trans q6);have anj:=gd7.of_eq ((bR 7296640256 ae ae).trans (bn ae));simp only[go_sem];refine⟨?_,?_⟩
    .rcases hw with ⟨rfl,rfl⟩|⟨rfl,rfl⟩|⟨rfl,rfl⟩<;>kernel_rfl
    generalize hx9:(es.take j).any (iB ls · true)=x9 at h9;generalize aoS:(es.take j).any (iB ls · false)=IB at ek;have e9:=aaK (iB ls · true) es j e he;have mY:=aaK (iB ls · false) es j e he;have eA:=ajw (ru ls) es j e he;rw[hx9] at e9;rw[aoS] at mY;rw[dV,fg] at eA;have G7:grown 7296640256 3 1 (iP (my ls (es.take (j+1)))) (.one d7) bN:=by have:=aiy (fun e:Nat=>[(e:Int),(nx ls e:Int)]) (es.take j) e (nx ls e);have h2:=ac0 (fun e:Nat=>[(e:Int),(nx ls e:Int)]) es j e he;rw[show my ls (es.take (j+1))=(es.take j).flatMap (fun e:Nat=>[(e:Int),(nx ls e:Int)])++[(e:Int),(nx ls e:Int)] from h2,<- this];exact anj
    have G8:grown 7296705280 3 1 (iP (re ls (es.take (j+1)))) (.one d8) bN:=by have:=aiy (fun e:Nat=>[(pA ls e).l.id,(pA ls (nx ls e)).l.id]) (es.take j) (pA ls e).l.id (pA ls (nx ls e)).l.id;have h2:=ac0 (fun e:Nat=>[(pA ls e).l.id,(pA ls (nx ls e)).l.id]) es j e he;rw[show re ls (es.take (j+1))=(es.take j).flatMap (fun e:Nat=>[(pA ls e).l.id,(pA ls (nx ls e)).l.id])++[(pA ls e).l.id,(pA ls (nx ls e)).l.id] from h2,<- this,iU hP,show pA ls (nx ls e)=Q from iU hQ];exact gd8
    cases x9<;>cases IB<;>simp only[go_sem,h0,h9,ek,uI,pP,mK,s145,aJ po,aJ pu,w1,aB]<;>exact⟨h6,p6,by rw[eA];rfl,by rw[e9];rfl,by rw[mY];rfl,d7,d8,rfl,rfl,G7,G8⟩
 have:j=3:=aa;subst this;have ht:es.take 3=es:=by rw[<- hE];rfl
 rw[ht] at dV h9 ek g7 g8;have n7:(my ls es).length=6:=by unfold my;rw[Vs _ (fun _=>rfl),dy]
 have n8:(re ls es).length=6:=by unfold re;rw[Vs _ (fun _=>rfl),dy]
 rcases g7 with ⟨e,_⟩|⟨_,gg7,e,b7⟩
 .have:=congrArg List.length e;rw[wY,n7] at this;cases this
 cases e;rcases g8 with ⟨e,_⟩|⟨_,gg8,e,b8⟩
 .have:=congrArg List.length e;rw[wY,n8] at this;cases this
 cases e;have s506:S.shared 130=true:=ah;have s507:S.shared 147=true:=ah;have NF:¬(((3:Nat):Int)<3):=ae;simp only[go_sem,i114_l1,i114_r2,h7,pP,mK,NF,s506,wY];refine BJ b7 (by rfl) (.inl rfl) (P:=Gc tC 7296640256 gg7 3 (my ls es) aj) (fun rT h1 h2=>ZL h1 (by rw[h2];kernel_rfl) aa b7) fun v cZ hP=>?_;obtain⟨rfl,⟨ws,bw,pw,sw⟩,kw⟩:=hP;have b8':=(kw 7296705280 ae).trans b8;have b6':=(kw 7296064384 ae).trans b6;simp only[go_sem,h8,s506,wY];refine BJ b8' (by rfl) (.inl rfl) (P:=Gc tC 7296705280 gg8 3 (re ls es) cZ) (fun rT h1 h2=>ZL h1 (by rw[h2];kernel_rfl) aa b8') fun v bN hP=>?_
 obtain⟨rfl,⟨us,bu,pu,su⟩,ku⟩:=hP;have bw':=(ku 7296640256 ae).trans bw;have aj6:=(ku 7296064384 ae).trans b6';have wl:=pw.length_eq;have ul:=pu.length_eq;have cw:=abB pw sw;have cu:=abB pu su;have pcn:=WH g es aa (e0:=av) (by rw[<- hE];rfl) ha 0;have c00:((0:Nat):Int)=0:=rfl;rw[c00] at pcn;have psw:=auJ g es gG aa;have ht3:List.take 3 (nP es)=nP es:=gT (by rw[YX];omega);have hB:LH F ls av bv cv=((((iQ (my ls es)).length:Int)==6)&&((((iQ (re ls es)).length:Int)==3)&&(es.any (iB ls · true)&&(es.any (iB ls · false)&&kQ F ls 0 es av)))):=by unfold LH;rw[hE,dV,Ug,Ug];rfl
 unfold mR;rw[hB];clear hB;simp only[go_sem,h7,s507,wY,<- wl];refine BJ bw' (by rfl) (.inl rfl) (P:=Wy 7296640256 gg7 3 ws bN) (fun rT h1 h2=>abC h1 aa bw') fun v je hP=>?_;obtain⟨rfl,_,kc⟩:=hP;have bu':=(kc 7296705280 ae).trans bu;have b63:=(kc 7296064384 ae).trans aj6;rw[cw];have lo:S.lone 7297152128=false:=ah;cases q1:(((iQ (my ls es)).length:Int)==6) with
 |false=>
  have q1':(((iQ (my ls es)).length:Int)!=6)=true:=by simp only[bne,q1];rfl
  simp only[go_sem,q1'];rfl
 |true=>
  have q1':(((iQ (my ls es)).length:Int)!=6)=false:=by simp only[bne,q1];rfl
  simp only[go_sem,h8,q1',s507,wY,<- ul];refine BJ bu' (by rfl) (.inl rfl) (P:=Wy 7296705280 gg8 3 us je) (fun rT h1 h2=>abC h1 aa bu') fun v kN hP=>?_;obtain⟨rfl,_,kd⟩:=hP;have b64:=(kd 7296064384 ae).trans b63;rw[cu];cases q2:(((iQ (re ls es)).length:Int)==3) with
  |false=>
   have Lm:(((iQ (re ls es)).length:Int)!=3)=true:=by simp only[bne,q2];rfl
   simp only[go_sem,Lm];rfl
  |true=>
   have Lm:(((iQ (re ls es)).length:Int)!=3)=false:=by simp only[bne,q2];rfl
   cases q3:es.any (iB ls · true) with
   |false=>rw[q3] at h9;simp only[go_sem,h9,Lm];rfl
   |true=>
    rw[q3] at h9;cases q4:es.any (iB ls · false) with
    |false=>rw[q4] at ek;simp only[go_sem,h9,ek,Lm];rfl
    |true=>
     rw[q4] at ek;cases q5:kQ F ls 0 es av with
     |false=>rw[q5] at pcn;simp only[go_sem,h0,h6,h9,ek,Lm,b64,s142,aJ pcn,dy,YX,ht3];rfl
     |true=>rw[q5] at pcn;simp only[go_sem,h0,h6,h9,ek,Lm,b64,s142,aJ pcn,s148,dy,YX,ht3];refine sX psw lo (.inr (tP (Er _))) fun cc De gc Fz=>?_;simp only[go_sem];rw[<- hE] at gc;exact za gc
abbrev Yv:f_:=[.p .zR,.p (.fn 107 [] []),.p (.fn 108 [] []),.p (.fn 109 [] []),.p (.fn 110 [] []),.p (.fn 111 [] []),.p (.fn 112 [] []),.p (.fn 113 [] []),.p (.fn 114 [] []),.p (.fn 115 [] []),.p (.fn 115 [] [])]
def anx(k:Int):0<=(mJ k).1/\(mJ k).1<=4/\0<=(mJ k).2/\(mJ k).2<=2:=by
 unfold mJ;split
 .simp
 split
 .simp
 split<;>simp
def MH(hlen:ls.length<=400)(fg:aq Let.aD ls<=200){k f:Nat}{rest:f_}(hk:Yv.drop k=.p (.fn f [] [])::rest)(jv:k<11)(KC:S.shared f=false){a b c:Int}{l o:Bool}{sg:Int}{res:Option c_}(ha:aO S 91 [.one (.p (fA F ls)),ql k a b c l o sg] (rb true))(hm:aO S f [.one (.p (fA F ls)),ql k a b c l o sg] (kR res))(hL:∀L,res=some L->L.length<=1000000):
  aO S 72 [.one (.p (fA F ls)),ql k a b c l o sg] (AN F ls k res):=by
 have wN:=amJ F;have pg:=anw k;have qk:S.lone 4608192384=false:=ah;have w8:S.lone 4608576128=false:=ah;have Kr:∀(aj:aE),land aj [] 4608192000 ((RV.agg [.p .zR,.p (.fn 107 [] []),.p (.fn 108 [] []),.p (.fn 109 [] []),.p (.fn 110 [] []),.p (.fn 111 [] []),.p (.fn 112 [] []),.p (.fn 113 [] []),.p (.fn 114 [] []),.p (.fn 115 [] []),.p (.fn 115 [] [])]).iu (S.lone 4608192000))=some (.agg Yv,[]):=fun aj=>by cases S.lone 4608192000<;>rfl
 have bd:=bk ls;obtain⟨g1,g2,g3,g4⟩:=anx k;have lg:∀aj:aE,land aj [] 4608384128 ((RV.tup [.one (.p (.int .i64 (mJ k).1)),.one (.p (.int .i64 (mJ k).2))]).iu (S.lone 4608384128))=some (.tup [.one (.p (.int .i64 (mJ k).1)),.one (.p (.int .i64 (mJ k).2))],[]):=fun aj=>bK;obtain⟨Nx,Ny,th⟩:∃x y,mJ k=(x,y):=⟨_,_,rfl⟩;have d4:AN F ls k none=sE 4:=rfl;have d7:∀L,((400:Int)<(ls.length:Int)+Nx\/(100:Int)<((aq Let.aD ls/2:Nat):Int)+Ny)->AN F ls k (some L)=sE 7:=fun L h=>by unfold AN;rw[th];exact aG h
 have d0:∀L,¬((400:Int)<(ls.length:Int)+Nx\/(100:Int)<((aq Let.aD ls/2:Nat):Int)+Ny)->AN F ls k (some L)=l5 F (dT L):=fun L h=>by unfold AN;rw[th];exact aC h
 rw[th] at g1 g2 g3 g4 pg;simp only[th] at lg;simp only at g1 g2 g3 g4 lg pg;have w1:IntKind.i64.wrap (((pieces ls).length:Int)+Nx)=(ls.length:Int)+Nx:=by rw[bd];exact xx aa aa
 have w2:IntKind.i64.wrap (((aq Let.aD ls/2:Nat):Int)+Ny)=((aq Let.aD ls/2:Nat):Int)+Ny:=xx aa aa;unfold kR at hm;generalize Yv=kg at hk Kr;refine bY c72 ?_;simp only[go_sem,i72,s91,aJ ha,s92,GR apu (Kr _),hk,jv,KC];refine alE hm qk fun cc cZ w gc hb hw=>?_;have b0:=hb 4608000000 ae;have b1:=hb 4608000064 ae;simp only[go_sem] at b0 b1;cases res with
 |none=>rw[d4];simp only[go_sem,b1];refine⟨?_,rfl⟩;rcases hw with rfl|rfl<;>kernel_rfl
 |some L=>
  simp only[ow] at gc;have pfin:=wN L (hL L rfl) (.sl (eI (pieces ls))) (.sl (uF (ff F ls))) (.sl (nP (qj F ls))) (.int .i64 (aq Let.aF ls:Nat)) (.int .i64 ((aq Let.aD ls/2:Nat):Int)) (.sl (nP (counts ls F)));obtain⟨rs,rI,_⟩:=gc.gZ;by_cases h1:(400:Int)<(ls.length:Int)+Nx
  .rw[d7 L (.inl h1)];simp only[go_sem,b0,b1,s93,aY pg (lg _),w1,h1];refine⟨?_,rfl⟩;rcases hw with rfl|rfl<;>kernel_rfl
  by_cases h2:(100:Int)<((aq Let.aD ls/2:Nat):Int)+Ny
  .rw[d7 L (.inr h2)];simp only[go_sem,b0,b1,s93,aY pg (lg _),w1,w2,h1,h2];refine⟨?_,rfl⟩;rcases hw with rfl|rfl<;>kernel_rfl
  rw[d0 L (by rintro (h|h);exact h1 h;exact h2 h)];simp only[go_sem,b0,s93,aY pg (lg _),w1,w2,h1,h2,rI,s94];refine⟨?_,?_⟩
  .rcases hw with rfl|rfl<;>kernel_rfl
  refine ane pfin w8 rfl (Pj _) fun c2 bN wG bR=>?_;have b02:=(bR 4608000064 ae).trans b1;simp only[go_sem,b02];exact adz (wG.of_eq (bn ae))
def alN{k a b c:Int}{l o:Bool}{sg:Int}(ha:aO S 91 [.one (.p (fA F ls)),ql k a b c l o sg] (rb false)):aO S 72 [.one (.p (fA F ls)),ql k a b c l o sg] (sE 2):=by refine bY c72 ?_;simp only[go_sem,i72,s91,aJ ha];try rfl
def qU(F:Nat)(ls:ai)(k:Int)(a b c:Nat)(l o:Bool)(sg:Int):Option c_:=if k=1 then we ls a else if k=2 then amR F ls a b c else if k=3 then nI F ls a b else if k=4 then w7 ls a else if k=5 then some (lmR ls a sg o) else if k=6 then xh F ls a b else if k=7 then pmR F ls a b l o else if k=8 then mR F ls a b c else if k=9 then trR F ls a else tlR ls a
def pI(F:Nat)(ls:ai)(k a b c:Int)(l o:Bool)(sg:Int):RV:=if dr F ls k a b c l o sg then AN F ls k (qU F ls k a.toNat b.toNat c.toNat l o sg) else sE 2
def ajC{k a b c:Int}{l o:Bool}{sg:Int}:(∃e,pI F ls k a b c l o sg=sE e)\/ ∃L,pI F ls k a b c l o sg=l5 F L:=by
 unfold pI;split
 .cases qU F ls k a.toNat b.toNat c.toNat l o sg with
  |none=>exact .inl ⟨4,rfl⟩
  |some L=>
   by_cases h:(400:Int)<(ls.length:Int)+(mJ k).1\/(100:Int)<((aq Let.aD ls/2:Nat):Int)+(mJ k).2
   .exact .inl ⟨7,aG h⟩
   exact .inr ⟨dT L,aC h⟩
 exact .inl ⟨2,rfl⟩
def ajG{k a b c:Int}{l o:Bool}{sg:Int}{res:RV}(po:aO S 70 [fe F ls] (Bl (fA F ls) (.int .i64 0)))(hd:aO S 72 [.one (.p (fA F ls)),ql k a b c l o sg] res)(fin:(∃e,res=sE e)\/ ∃L,res=l5 F L):
  aO S 46 [fe F ls,ql k a b c l o sg] res:=by
 have lo:S.lone 2944256128=false:=ah;refine bY c46 ?_;rcases fin with ⟨e,rfl⟩|⟨L,rfl⟩
 .simp only[go_sem,i46,s70,aY po bK,s72,aY hd apx];rfl
 simp only[go_sem,i46,s70,aY po bK,s72];refine adm hd lo fun cc cZ gc hb=>?_;have b4:=hb 2944000128 ae;simp only[go_sem] at b4;simp only[go_sem,b4];exact adz (gc.of_eq (bn ae))
def nT{n:Nat}{i:Int}(h:jx n i=true):∃k:Nat,i=(k:Int)/\k<n:=by unfold jx at h;simp at h;exact⟨i.toNat,aa,aa⟩
def Yx(l:c_)(drop:Nat->Pc->Bool):(qQ l drop).length<=l.length:=HU l drop l.length
def ahD(l:c_)(i:Nat)(g r:Int):(Vd l i g r).length=l.length:=by simp[Vd]
def aqE{k:Int}{a b c:Nat}{l o:Bool}{sg:Int}{L:c_}(h:qU F ls k a b c l o sg=some L):L.length<=ls.length+4:=by
 have hp:=bk ls;unfold qU at h;repeat' split at h
 .unfold we at h;simp only at h;split at h
  .cases h;have:=Yx (pieces ls) (fun k _=>decide (k=a)||decide (k=(a+1)%ls.length));simp only[ke,cU];omega
  cases h
 .unfold amR at h;split at h
  .cases h;simp only[PW,Uc,ke,cU,dL,fv];omega
  split at h
  .cases h;simp only[PW,Uc,ke,cU,dL,fv];omega
  cases h
 .unfold nI at h;split at h
  .cases h;simp only[qy,nv];omega
  cases h
 .unfold w7 at h;simp only at h;split at h
  .cases h;have:=Yx (pieces ls) (vl [((pieces ls).getD a ⟨lN,false⟩).l.id]);simp only[Jy,cU];omega
  cases h
 .cases h;simp only[lmR,Uc,dL,fv];omega
 .unfold xh at h;split at h
  .cases h;have:=Yx (pieces ls) (vl [(pA ls a).l.id,(pA ls (nx ls a)).l.id]);simp only[Jy,cU];omega
  cases h
 .have key:∀s t,pmV ls a b l o s t=some L->L.length<=ls.length+4:=fun s t h=>by
   unfold pmV at h;split at h
   .cases h
   simp only[gn] at h;subst h;have h2:∀x sg o s,(pmS x sg o s).length=2:=fun x sg o s=>by unfold pmS;split<;>rfl
   split<;>simp only[Uc,h2,dL,fv]<;>omega
  unfold pmR at h;split at h
  .exact key _ _ h
  exact key _ _ h
 .unfold mR at h;split at h
  .cases h;simp only[qy];omega
  cases h
 .unfold trR at h;split at h
  .cases h;simp only[ahD,ke,cU];omega
  cases h
 unfold tlR at h;split at h
 .cases h;simp only[ahD,ke,cU];omega
 cases h
def aaN{k a b c:Int}{l o:Bool}{sg:Int}(h:dr F [] k a b c l o sg=true):∃bv:Nat,k=2/\a=0/\b=(bv:Int)/\bv<=F/\c=0/\l=false/\o=false/\sg=0:=by
 have hi:∀i:Int,jx 0 i=false:=fun i=>by unfold jx;simp
 unfold dr at h;by_cases h2:k=2
 .subst h2;simp only[if_true,fv,hi,CO,cJ,l7,dh,l9] at h;obtain⟨rfl,rfl,rfl,⟨_,rfl⟩,s0,hbF,hc0,uJ⟩:=h;obtain⟨bv,rfl⟩:=vV s0;have:cg [] ((bv:Int).toNat)=0:=rfl;rw[this] at uJ;exact⟨bv,rfl,rfl,rfl,aa,aa,rfl,rfl,rfl⟩
 simp[h2,hi] at h
abbrev lA(ls:ai)(i:Nat):Let:=ls.getD i lN
def afo{i:Nat}{l:Let}(h:ls[i]?=some l):lA ls i=l:=by rw[lA,dK,h];rfl
def HW{i:Nat}(h:i<ls.length):ls[i]?=some (lA ls i):=by obtain⟨l,hl⟩:=aN h;rw[afo hl,hl]
def szL(l:ai):aw 6 (ez l)=true:=by simp[aw,Let.ps]
def apU(a b:ai):ez (a++b)=ez a++ez b:=ki
def apW{L:ai}(h:L≠[]):ez L≠[]:=by simpa [ez] using h
def leq(a b:Let):Bool:=(a.kind==b.kind)&&((a.gate==b.gate)&&((a.aA==b.aA)&&((a.id==b.id)&&((a.sign==b.sign)&&(a.over==b.over)))))
def W2(x y:Let):wC [true,true,true,true,true,false] [.p (.int .i64 x.kind),.p (.int .i64 x.gate),.p (.int .i64 x.aA),.p (.int .i64 x.id),.p (.int .i64 x.sign),.p (.bool x.over)] [.p (.int .i64 y.kind),.p (.int .i64 y.gate),.p (.int .i64 y.aA),.p (.int .i64 y.id),.p (.int .i64 y.sign),.p (.bool y.over)]=some (leq x y):=by
 have e:∀a b:Int,vm true (.int .i64 a) (.int .i64 b)=some (a==b):=fun a b=>by simp[vm]
 have e2:∀a b:Bool,vm false (.bool a) (.bool b)=some (a==b):=fun a b=>by simp[vm]
 simp only[wC,leq,e,e2];cases (x.kind==y.kind)<;>cases (x.gate==y.gate)<;>cases (x.aA==y.aA)<;>cases (x.id==y.id)<;>cases (x.sign==y.sign)<;>cases (x.over==y.over)<;>rfl
def H0(x:Let):leq x x=true:=by simp[leq]
def ahm(L:ai)(k:Nat)(hk:k<=L.length)(hl:L.length<=1000000):aO S 66 [.one (.p (dJ L)),vi k] (.one (bh mN 6 (ez (L.drop k++L.take k)))):=by
 have hs6:=szL L;have A0:List.take (L.length-k) (List.drop k (ez L))=ez (L.drop k):=by rw[gT af];simp[List.map_drop]
 have oN:List.take k (ez L)=ez (L.take k):=by simp[Gk]
 rw[apU];refine bY c66 ?_;simp only[go_sem,i66,hk,hs6,A0];refine Dn (id:=4224064192) (bytes:=48) grown.nil (xs:=ez (L.drop k)) (rd:=[]) rfl (.inr (szL _)) (by simp;omega) fun c1 cZ r w g1 dN hw=>?_;rw[gR] at g1;simp only[go_sem,hk,hs6,oN];refine Dn (bytes:=48) g1 (xs:=ez (L.take k)) (rd:=[]) rfl (.inr (szL _)) (by simp;omega) fun c2 bN r2 w2 g2 bR hw2=>?_;simp only[go_sem];refine⟨?_,AT g2⟩;rcases hw with ⟨rfl,rfl⟩|⟨rfl,rfl⟩|⟨rfl,rfl⟩<;>rcases hw2 with ⟨rfl,rfl⟩|⟨rfl,rfl⟩|⟨rfl,rfl⟩<;>kernel_rfl

def IT{S:Sys}{f:Nat}{fn:bG}{args:e_}{P:RV->Prop}(hp:S.prim f args=none)(hf:S.fns f=some fn)(hl:args.length<=fn.ntmps)
  (h:W S .all fn.body (tW .all fn.results fun v aj=>∃r,P r/\j6 aj v=some r) (tA args) xe):∃r,P r/\aO S f args r:=by
 obtain⟨n,v,ao,h1,r,h3,h2⟩:=VS h;refine⟨r,h3,n+1,?_⟩;rw[ij];simp only[hp,hf,hl,if_true];unfold F8;simp only[h1,h2]
def abo{l:ai}(aK:l≠[])(hl:l.length<=1000000):aO S 53 [.one (.p (dJ l))] (.one (bh mN 6 (ez l))):=by
 have hs:((ez l).all fun e=>e.length==6)=true:=szL l;have hr:(0+(ez l).length)*48<=room:=by unfold room;rw[cU];omega
 show aO S _ [.one (.p (.sl (ez l)))] _;obtain⟨e0,es,hq⟩:∃e0 es,ez l=e0::es:=by cases l with
  |nil=>exact absurd rfl aK
  |cons a t=>exact⟨_,_,rfl⟩
 rw[hq] at hs hr |-;refine bY c53 ?_;have aK:e0::es≠[]:=af;have th:bh mN 6 (e0::es)=.own mN 6 (e0::es):=aC aK;rw[th];unfold room at hr;simp only[jr,dL] at hr;simp only[oY] at hs;simp only[go_sem,i53,au,aw];simp only[hs,hr,not_true_eq_false,if_true,if_false];simp only[go_sem];exact Le Bp rfl
abbrev mkE(M:u_):t_:=M.map fun e=>(PV.int .i64 e.1,[PV.int .i64 e.2])
def fiM:u_->Int->Nat->Option (Nat×Int)
 |[],_,_=>none
 |(a,v)::r,x,i=>if x==a then some (i,v) else fiM r x (i+1)
def acQ(M:u_)(x:Int):∀i,qG (.int .i64 x) (mkE M) i=some ((fiM M x i).map fun p=>(p.1,[PV.int .i64 p.2])):=by
 induction M with
 |nil=>intro i;rfl
 |cons e M ih=>
  intro i;obtain⟨a,v⟩:=e;show qG (.int .i64 x) ((PV.int .i64 a,[PV.int .i64 v])::mkE M) i=_;unfold qG;have hs:sameKey (.int .i64 x) (.int .i64 a)=some (x==a):=by simp[sameKey]
  rw[hs];unfold fiM;cases (x==a) with
  |true=>rfl
  |false=>exact ih (i+1)
def afX(M:u_)(x v:Int):mkE M++[(PV.int .i64 x,[PV.int .i64 v])]=mkE (M++[(x,v)]):=af
def afC(l:ai)(k:Nat)(p:Let):(ez l).set k p.ps=ez (l.set k p):=by simp[List.map_set]
def afz{e:b_}(h:e.length=6):∃x0 x1 x2 x3 x4 x5,e=[x0,x1,x2,x3,x4,x5]:=by
 match e,h with
 |[x0,x1,x2,x3,x4,x5],_=>exact⟨_,_,_,_,_,_,rfl⟩
def asI{al:Al}{aj:aE}{id:Nat}{es:s_}{c:C}(o:es=[]\/al.ok id=true)(hl:es.length<=1000000)(gG:∀e∈es,e.length=6/\ ∀v∈e,v.norm=v)(h:grown id ty 6 es (.one c) aj):
  ∃v ao,jd S 85 [.one c] al aj v ao/\Iu id ty 6 es c aj v ao:=by
 refine nH c85 (iI rfl) ?_;rcases h with ⟨rfl,h2⟩|⟨aK,g,h2,hC⟩
 .cases h2;have w0:IntKind.i64.wrap (((0:Nat):Int)-1)= -1:=ae;have hz:¬((0:Int)< -1):=ae;simp only[go_sem,i85,w0];refine dG (fun k ak ao=>k=0/\ak 2=vi 0/\ak 3=vi (-1)/\ao=aj) 0 0 (cD _) ?_ ?_
  .simp only[go_sem]
  rintro k ak ao _ ⟨rfl,h2,h3,rfl⟩
  simp only[go_sem,i85_l1,h2,h3,hz];exact⟨rfl,.inl ⟨rfl,rfl⟩,fun _ _=>rfl⟩
 cases h2;have o:=o.resolve_left aK;have w0:=Ac (a:=es.length) aa;simp only[go_sem,i85,w0];refine dG (fun k ak ao=>ak 0=.one (.hsl id g 6 0 es.length)/\ak 2=vi k/\ak 3=vi ((es.length:Int)-1-(k:Int))/\ ∃fs,ao id=(g,some (.arr ty 6 fs))/\yH es fs k/\Kept (· =id) aj ao) 0 es.length (cA _) ?_ ?_
 .simp only[go_sem];refine⟨rfl,af,es,hC,yH.start es,Kept.refl _ _⟩
 rintro k ak ao hk ⟨h0,h2,h3,fs,hF,hI,dQ⟩
 by_cases aB:k<es.length-1-k
 .have e1:((es.length:Int)-1-(k:Int))=((es.length-1-k:Nat):Int):=aa;rw[e1] at h3;have aP:((k:Int)<((es.length-1-k:Nat):Int)):=aa;have w1:=df (n:=k) aa;have w2:IntKind.i64.wrap (((es.length-1-k:Nat):Int)-1)=((es.length:Int)-1-((k+1:Nat):Int)):=by
   rw[Ac aa];omega
  obtain⟨a,ha⟩:=aN (show k<es.length by omega);obtain⟨b,hb⟩:=aN (show es.length-1-k<es.length by omega);obtain⟨fa,fb,xX⟩:=hI.step aB ha hb;obtain⟨la,na⟩:=gG a (aZ ha);obtain⟨lb,nb⟩:=gG b (aZ hb);obtain⟨x0,x1,x2,x3,x4,x5,rfl⟩:=afz la;obtain⟨y0,y1,y2,y3,y4,y5,rfl⟩:=afz lb;have Ow:=na x0 af;have X3:=na x1 af;have aoq:=na x2 af;have aor:=na x3 af;have aos:=na x4 af;have aot:=na x5 af;have Ox:=nb y0 af;have X5:=nb y1 af;have aou:=nb y2 af;have aov:=nb y3 af;have aow:=nb y4 af;have aox:=nb y5 af;have zw:=hI.len;have Hz:¬(k=es.length-1-k):=aa;have Oi:¬(es.length-1-k=k):=aa;have l1:k<fs.length:=aa;have l2:es.length-1-k<fs.length:=aa;have l3:k<es.length:=aa;have l4:es.length-1-k<es.length:=aa
  simp only[go_sem,i85_l1,h0,h2,h3,hF,aP,fa,fb,w1,w2,o,l1,l3,l4,Hz,Ow,X3,aoq,aor,aos,aot,Ox,X5,aou,aov,aow,aox,rh];refine⟨aL,_,rfl,xX,?_⟩;exact(dQ.eH rfl _).eH rfl _
 have aP:¬((k:Int)<(es.length:Int)-1-(k:Int)):=aa;simp only[go_sem,i85_l1,h2,h3,aP];refine⟨rfl,?_,dQ⟩;rw[hI.done aB] at hF;exact .inr ⟨by simpa using aK,g,by rw[mT],hF⟩
def apY(l:ai):∀e∈ez l,e.length=6/\ ∀v∈e,v.norm=v:=fun e he=>by obtain⟨x,_,rfl⟩:=cV.1 he;refine⟨rfl,fun v hv=>?_⟩;simp only[Let.ps,ch,eL,or_false] at hv;rcases hv with rfl|rfl|rfl|rfl|rfl|rfl<;>rfl
def apX(l:ai):(ez l).reverse=ez l.reverse:=af
def YK{s:Nat}(h:s/64000000=41):S.lone s=true:=by show F2 afG (s/64000000)=true;rw[h];kernel_rfl
def HX{aj:aE}{s:Nat}{L:ai}(aK:L≠[])(hs:S.lone s=true):land aj [] s ((RV.one (bh mN 6 (ez L))).iu (S.lone s))=some (.one (.p (dJ L)),[]):=by rw[hs,ady (apW aK)];unfold land;rw[aG (.inl rfl)];rfl

abbrev sP:Prop:=aO S 53 [.one (.p (.sl []))] (.one (.p (.sl [])))
def revE{al:Al}{aj:aE}:∃v ao,jd S 85 [.one (.p (.sl []))] al aj v ao/\(v=.tup []/\ao=aj):=by
 refine nH c85 (iI rfl) ?_;have w0:IntKind.i64.wrap (((0:Nat):Int)-1)= -1:=ae;have hz:¬((0:Int)< -1):=ae;simp only[go_sem,i85,w0];refine dG (fun k ak ao=>k=0/\ak 2=vi 0/\ak 3=vi (-1)/\ao=aj) 0 0 (cD _) ?_ ?_
 .simp only[go_sem]
 rintro k ak ao _ ⟨rfl,h2,h3,rfl⟩
 simp only[go_sem,i85_l1,h2,h3,hz]
def afs{aj:aE}{s:Nat}{x:PV}{l:Bool}:land aj [] s ((RV.one (.p x)).iu l)=some (.one (.p x),[]):=by cases l<;>rfl
def aj8(cK:sP)(F:Int):aO S 64 [.one (.p (AM F))] (.one (.p (.sl []))):=by
 refine bY c64 ?_;simp only[go_sem,i64,s53,aY cK afs,s85];refine sY (P:=fun v ao=>v=.tup []/\ao=xe) Ba revE ?_;rintro v ao ⟨rfl,rfl⟩
 simp only[go_sem];refine dG (fun k ak aj=>k=0/\ak 3=.one (.p (.sl []))/\ak 15=vi 0/\ak 16=vi 0) 0 0 (cD _) ?_ ?_
 .simp only[go_sem];rfl
 rintro k ak aj _ ⟨rfl,h3,lU,qH⟩
 have hz:¬((0:Int)<0):=ae;simp only[go_sem,i64_l1,i64_r2,h3,lU,qH,hz]
def aqM(cK:sP)(F:Int):aO S 41 [.one (.p (AM F))] (.agg [.p (.int .i64 F),.p .nils]):=by
 have pb:=aj8 cK F;refine bY c41 ?_;simp only[go_sem,i41,s64,GR pb afs];refine⟨aL,?_⟩;refine dG (fun k ak aj=>ak 0=.one (.p (AM F))/\ak 2=.one (.bt 2624000000 1 0)/\ak 17=.one (.hsl 2624128448 1 1 0 2)/\ak 18=vi 2/\ak 19=vi k/\ak 3=.one (.p .nils)/\
  aj 2624000000=(1,some (.var [.p (.int .i64 0),.p .nils]))/\aj 2624128448=(1,some (.arr 22 1 [[.sl []],[.sl []]]))) 0 2 (cA _) ?_ ?_
 .simp only[go_sem];first|done|rfl|exact⟨rfl,rfl⟩
 rintro k ak aj hk ⟨h0,h2,iw,gE,gV,h3,b0,bB⟩
 by_cases aB:k<2
 .have XO:k=0\/k=1:=aa;have l02:((0:Nat):Int)<2:=ae;have l12:((1:Nat):Int)<2:=ae;have hz:¬((0:Int)<0):=ae;rcases XO with rfl|rfl
  .simp only[go_sem,i41_l3,iw,gE,gV,bB,l02];refine dG (fun i aH ao=>i=0/\ao=aj/\aH 0=ak 0/\aH 2=ak 2/\aH 17=ak 17/\aH 18=ak 18/\aH 19=ak 19/\aH 3=ak 3/\aH 24=vi 0/\aH 25=vi 0) 0 0 (cD _) ?_ ?_
   .simp only[go_sem];first|done|rfl|exact⟨rfl,rfl⟩
   rintro i aH ao _ ⟨rfl,rfl,e0,e2,JB,JC,e19,e3,e24,e25⟩
   simp only[go_sem,i41_l1,i41_r2,e0,e2,JB,JC,e19,e3,e24,e25,h0,h2,h3,iw,gE,gV,b0,bB,hz];first|done|rfl|exact⟨rfl,rfl⟩
  simp only[go_sem,i41_l3,iw,gE,gV,bB,l12];refine dG (fun i aH ao=>i=0/\ao=aj/\aH 0=ak 0/\aH 2=ak 2/\aH 17=ak 17/\aH 18=ak 18/\aH 19=ak 19/\aH 3=ak 3/\aH 24=vi 0/\aH 25=vi 0) 0 0 (cD _) ?_ ?_
  .simp only[go_sem];first|done|rfl|exact⟨rfl,rfl⟩
  rintro i aH ao _ ⟨rfl,rfl,e0,e2,JB,JC,e19,e3,e24,e25⟩
  simp only[go_sem,i41_l1,i41_r2,e0,e2,JB,JC,e19,e3,e24,e25,h0,h2,h3,iw,gE,gV,b0,bB,hz];first|done|rfl|exact⟨rfl,rfl⟩
 have:k=2:=aa;subst this;have l22:¬(((2:Nat):Int)<2):=ae;simp only[go_sem,i41_l3,i41_r4,h0,h2,h3,gE,gV,b0,l22];first|done|rfl|exact⟨rfl,rfl⟩
def ak1:sP:=⟨1,ah⟩
def apw{aj:aE}{s:Nat}{x c:PV}{l:Bool}:land aj [] s ((RV.agg [.p x,.p c]).iu l)=some (.agg [.p x,.p c],[]):=by cases l<;>rfl
def apQ(x y:Let):leq x y=true↔x=y:=by
 constructor
 .intro h;unfold leq at h;simp only[cJ,dh] at h;obtain⟨h1,h2,h3,h4,h5,h6⟩:=h;cases x;cases y;simp only at h1 h2 h3 h4 h5 h6;subst h1 h2 h3 h4 h5 h6;rfl
 rintro rfl;exact H0 x
def afr{aj:aE}{s:Nat}{x c e:PV}{l:Bool}:land aj [] s ((RV.tup [.agg [.p x,.p c],.one (.p e)]).iu l)=some (.tup [.agg [.p x,.p c],.one (.p e)],[]):=by cases l<;>rfl

structure aV where
 k:Int
 a:Int
 b:Int
 c:Int
 l:Bool
 o:Bool
 s:Int
abbrev h_:=List aV
def aV.ps(m:aV):b_:=[.int .i64 m.k,.int .i64 m.a,.int .i64 m.b,.int .i64 m.c,.bool m.l,.bool m.o,.int .i64 m.s]
abbrev qT(ms:h_):PV:=.sl (ms.map aV.ps)
def O0{ms:h_}{k:Nat}{m:aV}(h:ms[k]?=some m):(ms.map aV.ps)[k]?=some m.ps:=by rw[gk,h];rfl
def Mw(L:ai)(c:C)(aj:aE):Prop:=grown 3904256128 mN 6 (ez L) (.one c) aj\/grown 3904512129 mN 6 (ez L) (.one c) aj\/(L=[]/\c=.p (.sl []))
def Mw.snap{L:ai}{c:C}{aj:aE}(h:Mw L c aj):∃r,Go.Abs.snap aj gZ c=some (dJ L,r):=by
 rcases h with h|h|⟨rfl,rfl⟩
 .obtain⟨r,h1,_⟩:=h.gZ;exact⟨r,h1⟩
 .obtain⟨r,h1,_⟩:=h.gZ;exact⟨r,h1⟩
 exact⟨[],rfl⟩
def Mw.of_eq{L:ai}{c:C}{aj ao:aE}(h:Mw L c aj)(h1:ao 3904256128=aj 3904256128)(h2:ao 3904512129=aj 3904512129):Mw L c ao:=by
 rcases h with h|h|h
 .exact .inl (h.of_eq h1)
 .exact .inr (.inl (h.of_eq h2))
 exact .inr (.inr h)
def apy{aj:aE}{rd:a_}{s:Nat}{e:Int}{l:Bool}:land aj rd s ((sE e).iu l)=some (.tup [.agg [.p (.int .i64 0),.p .nils],.one (.p (.int .i64 e))],[]):=by cases l<;>(unfold land;rw[aG (.inr rfl)];rfl)
abbrev Ib(m:aV):V:=ql m.k m.a m.b m.c m.l m.o m.s
section
variable {Q:eK} {ak:Env} {aj:aE} {os:g_} {d:w_}
end
def Mv(s:Nat)(L:ai)(c:C)(aj:aE):Prop:=grown s mN 6 (ez L) (.one c) aj\/(L=[]/\c=.p (.sl []))
def Mv.snap{s:Nat}{L:ai}{c:C}{aj:aE}(h:Mv s L c aj):∃r,Go.Abs.snap aj gZ c=some (dJ L,r):=by
 rcases h with h|⟨rfl,rfl⟩
 .obtain⟨r,h1,_⟩:=h.gZ;exact⟨r,h1⟩
 exact⟨[],rfl⟩
def Mv.of_eq{s:Nat}{L:ai}{c:C}{aj ao:aE}(h:Mv s L c aj)(h1:ao s=aj s):Mv s L c ao:=by
 rcases h with h|h
 .exact .inl (h.of_eq h1)
 exact .inr h
section
variable {Q:eK} {ak:Env} {aj:aE} {os:g_} {d:w_}
end
end
end Go.Abs
