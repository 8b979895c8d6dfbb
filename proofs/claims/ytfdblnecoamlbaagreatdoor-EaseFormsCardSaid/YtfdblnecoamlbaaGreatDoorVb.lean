/- A part. -/
import Derived.Test.YtfdblnecoamlbaaGreatDoorWw
set_option linter.all false
set_option maxRecDepth 100000
set_option maxHeartbeats 16000000
namespace Go.Abs
section
variable{x:Int}{ls:ai}{F ty:Nat}{ws:d_}
section
attribute [local go_sem ↓] fm1 fm2
def di(F:Nat)(ls:ai)(k a b c:Int)(l o:Bool)(sg:Int):Bool:=
 if k=2 then !l&&(!o&&(sg==0&&((jK ls.length a||(ls.length==0&&a==0))&&(decide (0<=b)&&(decide (b<=(F:Int))&&(decide (0<=c)&&decide (c<=(cg ls b.toNat:Int))))))))
 else if k=3\/k=6 then !l&&(!o&&(sg==0&&(jK ls.length a&&(c==0&&(jK ls.length b&&decide (a<b))))))
 else if k=5 then !l&&((sg==1||sg== -1)&&(jK ls.length a&&(b==0&&c==0)))
 else if k=7 then sg==0&&(jK ls.length a&&(c==0&&(jK ls.length b&& !(a==b))))
 else if k=8 then !l&&(!o&&(sg==0&&(jK ls.length a&&(jK ls.length b&&(jK ls.length c&&(decide (a<b)&&decide (b<c)))))))
 else if k=1\/k=4\/k=9\/k=10 then !l&&(!o&&(sg==0&&(jK ls.length a&&(b==0&&c==0))))
 else false
def qf{i:Int}{x:Bool}(h:jK ls.length i=x):aK S 102 [vi i,.one (.p (.box [.int .i64 ls.length]))] (rb x):=h▸aeF i ls.length
def rh(h:¬x=0):(x==0)=false/\(x !=0)=true:=by simp[h]
def xz{y:Int}(h:¬x=y):(x==y)=false/\(x !=y)=true:=by simp[h]
section
variable {F:Nat} {ls:ai} {a b c:Int} {l o:Bool} {sg:Int}
def Pg{k:Int}(hk:k=1\/k=4\/k=9\/k=10):aK S 80 [.one (.p (eU F ls)),lL k a b c l o sg] (rb (di F ls k a b c l o sg)):=by
 obtain⟨v,hv⟩:∃v,di F ls k a b c l o sg=v:=⟨_,rfl⟩;rw[hv];rcases hk with rfl|rfl|rfl|rfl
 all_goals
  refine bk c80 ?_;simp only[go_sem,i80,fK];refine jv [0,3,4,5,6,7,8,9,10,41] fun e1 lE=>?_;simp only[go_sem] at lE;cases l with
  |true=>
   obtain rfl:v=false:=by rw[<- hv];simp[di]
   simp only[go_sem,lE]
  |false=>
   simp only[go_sem,lE];refine jv [0,3,4,5,6,7,8,9,10,53] fun e2 jQ=>?_;simp only[go_sem,lE] at jQ;cases o with
   |true=>
    obtain rfl:v=false:=by rw[<- hv];simp[di]
    simp only[go_sem,jQ]
   |false=>
    simp only[go_sem,jQ];refine jv [0,3,4,5,6,7,8,9,10,60] fun e3 jR=>?_;simp only[go_sem,jQ] at jR;by_cases hs:sg=0
    rotate_left
    .have kW:=(rh hs).1;have fM:=(rh hs).2;obtain rfl:v=false:=by rw[<- hv];simp[di,hs]
     simp only[go_sem,jR,fM]
    subst hs;cases hA:jK ls.length a with
    |false=>
     have pA:=qf hA;obtain rfl:v=false:=by rw[<- hv];simp[di,hA]
     simp only[go_sem,s102,jR,dZ pA]
    |true=>
     have pA:=qf hA;simp only[go_sem,s102,jR,dZ pA];refine jv [3,4,6,7,9,133] fun e4 og=>?_;simp only[go_sem,jR] at og;by_cases hb:b=0
     rotate_left
     .have dw:=(rh hb).2;obtain rfl:v=false:=by rw[<- hv];simp[di,hA,hb]
      simp only[go_sem,og,dw]
     subst hb;simp only[go_sem,og];refine jv [3,4,6,7,9,142] fun e5 tN=>?_;simp only[go_sem,og] at tN;by_cases hc:c=0
     rotate_left
     .have ji:=(rh hc).2;obtain rfl:v=false:=by rw[<- hv];simp[di,hA,hc]
      simp only[go_sem,tN,ji]
     subst hc;obtain rfl:v=true:=by rw[<- hv];simp[di,hA]
     simp only[go_sem,tN]
def ajN:aK S 80 [.one (.p (eU F ls)),lL 2 a b c l o sg] (rb (di F ls 2 a b c l o sg)):=by
 obtain⟨v,hv⟩:∃v,di F ls 2 a b c l o sg=v:=⟨_,rfl⟩;rw[hv];refine bk c80 ?_;simp only[go_sem,i80,fK];refine jv [0,3,4,5,6,7,8,9,10,41] fun e1 lE=>?_;simp only[go_sem] at lE;cases l with
 |true=>
  obtain rfl:v=false:=by rw[<- hv];simp[di]
  simp only[go_sem,lE]
 |false=>
  simp only[go_sem,lE];refine jv [0,3,4,5,6,7,8,9,10,53] fun e2 jQ=>?_;simp only[go_sem,lE] at jQ;cases o with
  |true=>
   obtain rfl:v=false:=by rw[<- hv];simp[di]
   simp only[go_sem,jQ]
  |false=>
   simp only[go_sem,jQ];refine jv [0,3,4,5,6,7,8,9,10,60] fun e3 jR=>?_;simp only[go_sem,jQ] at jR;by_cases hs:sg=0
   rotate_left
   .have kW:=(rh hs).1;have fM:=(rh hs).2;obtain rfl:v=false:=by rw[<- hv];simp[di,hs]
    simp only[go_sem,jR,fM]
   subst hs;cases hA:jK ls.length a with
   |true=>
    have pA:=qf hA;simp only[go_sem,s102,jR,nX pA];refine wg [0,3,4,6,7,9,92] fun e4 og=>?_;simp only[go_sem,jR] at og;by_cases tK:0<=b
    rotate_left
    .obtain rfl:v=false:=by rw[<- hv];simp[di,hA,tK]
     simp only[go_sem,og,tK];exact aJ
    simp only[go_sem,og,tK];refine wg [0,3,4,6,7,9,101] fun e5 tN=>?_;simp only[go_sem,og] at tN;by_cases vu:b<=(F:Int)
    rotate_left
    .obtain rfl:v=false:=by rw[<- hv];simp[di,hA,tK,vu]
     simp only[go_sem,tN,vu];exact aJ
    obtain⟨B,rfl⟩:=tA tK;have hBF:B<=F:=aa;have vv:=kE (Md (ls:=ls) hBF);have h5:B<F+1:=aa;have h6:(counts ls F).length=F+1:=by simp[counts]
    simp only[go_sem,tN,vu];refine wg [0,3,4,6,7,9,106] fun e6 Fm=>?_;simp only[go_sem,tN] at Fm;by_cases xD:0<=c
    rotate_left
    .obtain rfl:v=false:=by rw[<- hv];simp[di,hA,tK,vu,xD]
     simp only[go_sem,Fm,xD];exact aJ
    by_cases Dk:c<=(cg ls B:Int)
    rotate_left
    .obtain rfl:v=false:=by rw[<- hv];simp[di,hA,tK,vu,xD,Dk]
     simp only[go_sem,vv,Fm,xD,Dk];exact aJ
    obtain rfl:v=true:=by rw[<- hv];simp[di,hA,tK,vu,xD,Dk]
    simp only[go_sem,vv,Fm,xD,Dk];exact aJ
   |false=>
    have pA:=qf hA;by_cases hn:ls.length=0
    rotate_left
    .have uD:((ls.length:Int)==0)=false:=beq_false_of_ne aa;have Nz:ls≠[]:=fun h=>hn (by rw[h];rfl);obtain rfl:v=false:=by rw[<- hv];simp[di,hA,hn]
     simp only[go_sem,s102,jR,nX pA,uD];exact aJ
    have uD:((ls.length:Int)==0)=true:=by rw[hn];rfl
    have Nz:=Ej.mp hn;by_cases ha:a=0
    rotate_left
    .have Dl:=(rh ha).1;obtain rfl:v=false:=by rw[<- hv];simp[di,Nz,ha,show jK 0 a=false by rw[<- hn];exact hA]
     simp only[go_sem,s102,jR,nX pA,uD,Dl];exact aJ
    subst ha;simp only[go_sem,s102,jR,nX pA,uD];refine wg [0,3,4,6,7,9,92] fun e7 hh7=>?_;simp only[go_sem,jR] at hh7;by_cases tK:0<=b
    rotate_left
    .obtain rfl:v=false:=by rw[<- hv];simp[di,hn,tK]
     simp only[go_sem,hh7,tK];exact aJ
    simp only[go_sem,hh7,tK];refine wg [0,3,4,6,7,9,101] fun e8 hh8=>?_;simp only[go_sem,hh7] at hh8;by_cases vu:b<=(F:Int)
    rotate_left
    .obtain rfl:v=false:=by rw[<- hv];simp[di,hn,tK,vu]
     simp only[go_sem,hh8,vu];exact aJ
    obtain⟨B,rfl⟩:=tA tK;have hBF:B<=F:=aa;have vv:=kE (Md (ls:=ls) hBF);have h5:B<F+1:=aa;have h6:(counts ls F).length=F+1:=by simp[counts]
    simp only[go_sem,hh8,vu];refine wg [0,3,4,6,7,9,106] fun e9 hh9=>?_;simp only[go_sem,hh8] at hh9;by_cases xD:0<=c
    rotate_left
    .obtain rfl:v=false:=by rw[<- hv];simp[di,hn,tK,vu,xD]
     simp only[go_sem,hh9,xD];exact aJ
    by_cases Dk:c<=(cg ls B:Int)
    rotate_left
    .obtain rfl:v=false:=by rw[<- hv];simp[di,hn,tK,vu,xD,Dk]
     simp only[go_sem,vv,hh9,xD,Dk];exact aJ
    obtain rfl:v=true:=by rw[<- hv];simp[di,hn,tK,vu,xD,Dk]
    simp only[go_sem,vv,hh9,xD,Dk];exact aJ
def ZX{k:Int}(hk:k=3\/k=6):aK S 80 [.one (.p (eU F ls)),lL k a b c l o sg] (rb (di F ls k a b c l o sg)):=by
 obtain⟨v,hv⟩:∃v,di F ls k a b c l o sg=v:=⟨_,rfl⟩;rw[hv];rcases hk with rfl|rfl
 all_goals
  refine bk c80 ?_;simp only[go_sem,i80,fK];refine jv [0,3,4,5,6,7,8,9,10,41] fun e1 lE=>?_;simp only[go_sem] at lE;cases l with
  |true=>
   obtain rfl:v=false:=by rw[<- hv];simp[di]
   simp only[go_sem,lE]
  |false=>
   simp only[go_sem,lE];refine jv [0,3,4,5,6,7,8,9,10,53] fun e2 jQ=>?_;simp only[go_sem,lE] at jQ;cases o with
   |true=>
    obtain rfl:v=false:=by rw[<- hv];simp[di]
    simp only[go_sem,jQ]
   |false=>
    simp only[go_sem,jQ];refine jv [0,3,4,5,6,7,8,9,10,60] fun e3 jR=>?_;simp only[go_sem,jQ] at jR;by_cases hs:sg=0
    rotate_left
    .have kW:=(rh hs).1;have fM:=(rh hs).2;obtain rfl:v=false:=by rw[<- hv];simp[di,hs]
     simp only[go_sem,jR,fM]
    subst hs;cases hA:jK ls.length a with
    |false=>
     have pA:=qf hA;obtain rfl:v=false:=by rw[<- hv];simp[di,hA]
     simp only[go_sem,s102,jR,dZ pA]
    |true=>
     have pA:=qf hA;simp only[go_sem,s102,jR,dZ pA];refine jv [3,4,6,7,9,142] fun e4 og=>?_;simp only[go_sem,jR] at og;by_cases hc:c=0
     rotate_left
     .have ji:=(rh hc).2;obtain rfl:v=false:=by rw[<- hv];simp[di,hA,hc]
      simp only[go_sem,og,ji]
     subst hc;cases hB:jK ls.length b with
     |false=>
      have pB:=qf hB;obtain rfl:v=false:=by rw[<- hv];simp[di,hA,hB]
      simp only[go_sem,s102,og,dZ pB]
     |true=>
      have pB:=qf hB;simp only[go_sem,s102,og,dZ pB];refine jv [3,4,7,172,178] fun e5 tN=>?_;simp only[go_sem,og] at tN;by_cases hl:a<b
      rotate_left
      .obtain rfl:v=false:=by rw[<- hv];simp[di,hA,hB,hl]
       simp only[go_sem,tN,hl]
      obtain rfl:v=true:=by rw[<- hv];simp[di,hA,hB,hl]
      simp only[go_sem,tN,hl]
def ajO:aK S 80 [.one (.p (eU F ls)),lL 5 a b c l o sg] (rb (di F ls 5 a b c l o sg)):=by
 obtain⟨v,hv⟩:∃v,di F ls 5 a b c l o sg=v:=⟨_,rfl⟩;rw[hv];refine bk c80 ?_;simp only[go_sem,i80,fK];refine jv [0,3,4,5,6,7,8,9,10,41] fun e1 lE=>?_;simp only[go_sem] at lE;cases l with
 |true=>
  obtain rfl:v=false:=by rw[<- hv];simp[di]
  simp only[go_sem,lE]
 |false=>
  simp only[go_sem,lE];refine jv [0,3,4,5,6,7,8,9,10,60] fun e2 jQ=>?_;simp only[go_sem,lE] at jQ;by_cases q0:sg=0
  .subst q0;obtain rfl:v=false:=by rw[<- hv];simp[di]
   simp only[go_sem,jQ]
  by_cases q1:sg=1
  rotate_left;by_cases q2:sg= -1
  rotate_left
  .have MN:=(rh q0).2;have iu:=(xz q1).2;have rZ:=(xz q2).2;obtain rfl:v=false:=by rw[<- hv];simp[di,q1,q2]
   simp only[go_sem,jQ,MN,iu,rZ]
  .subst q1;cases hA:jK ls.length a with
   |false=>
    have pA:=qf hA;obtain rfl:v=false:=by rw[<- hv];simp[di,hA]
    simp only[go_sem,s102,jQ,dZ pA]
   |true=>
    have pA:=qf hA;simp only[go_sem,s102,jQ,dZ pA];refine jv [3,4,6,7,9,133] fun e3 jR=>?_;simp only[go_sem,jQ] at jR;by_cases hb:b=0
    rotate_left
    .have dw:=(rh hb).2;obtain rfl:v=false:=by rw[<- hv];simp[di,hA,hb]
     simp only[go_sem,jR,dw]
    subst hb;simp only[go_sem,jR];refine jv [3,4,6,7,9,142] fun e4 og=>?_;simp only[go_sem,jR] at og;by_cases hc:c=0
    rotate_left
    .have ji:=(rh hc).2;obtain rfl:v=false:=by rw[<- hv];simp[di,hA,hc]
     simp only[go_sem,og,ji]
    subst hc;obtain rfl:v=true:=by rw[<- hv];simp[di,hA]
    simp only[go_sem,og]
  subst q2;cases hA:jK ls.length a with
  |false=>
   have pA:=qf hA;obtain rfl:v=false:=by rw[<- hv];simp[di,hA]
   simp only[go_sem,s102,jQ,dZ pA]
  |true=>
   have pA:=qf hA;simp only[go_sem,s102,jQ,dZ pA];refine jv [3,4,6,7,9,133] fun e5 tN=>?_;simp only[go_sem,jQ] at tN;by_cases hb:b=0
   rotate_left
   .have dw:=(rh hb).2;obtain rfl:v=false:=by rw[<- hv];simp[di,hA,hb]
    simp only[go_sem,tN,dw]
   subst hb;simp only[go_sem,tN];refine jv [3,4,6,7,9,142] fun e6 Fm=>?_;simp only[go_sem,tN] at Fm;by_cases hc:c=0
   rotate_left
   .have ji:=(rh hc).2;obtain rfl:v=false:=by rw[<- hv];simp[di,hA,hc]
    simp only[go_sem,Fm,ji]
   subst hc;obtain rfl:v=true:=by rw[<- hv];simp[di,hA]
   simp only[go_sem,Fm]
end
end
section
attribute [local go_sem ↓] fm1 fm2
section
variable {F:Nat} {ls:ai} {a b c:Int} {l o:Bool} {sg:Int}
def ajP:aK S 80 [.one (.p (eU F ls)),lL 7 a b c l o sg] (rb (di F ls 7 a b c l o sg)):=by
 obtain⟨v,hv⟩:∃v,di F ls 7 a b c l o sg=v:=⟨_,rfl⟩;rw[hv];refine bk c80 ?_;simp only[go_sem,i80,fK];refine jv [0,3,4,5,6,7,8,9,10,60] fun e1 lE=>?_;simp only[go_sem] at lE;by_cases hs:sg=0
 rotate_left
 .have kW:=(rh hs).1;have fM:=(rh hs).2;obtain rfl:v=false:=by rw[<- hv];simp[di,hs]
  simp only[go_sem,lE,fM]
 subst hs;cases hA:jK ls.length a with
 |false=>
  have pA:=qf hA;obtain rfl:v=false:=by rw[<- hv];simp[di,hA]
  simp only[go_sem,s102,lE,dZ pA]
 |true=>
  have pA:=qf hA;simp only[go_sem,s102,lE,dZ pA];refine jv [3,4,6,7,9,142] fun e2 jQ=>?_;simp only[go_sem,lE] at jQ;by_cases hc:c=0
  rotate_left
  .have ji:=(rh hc).2;obtain rfl:v=false:=by rw[<- hv];simp[di,hA,hc]
   simp only[go_sem,jQ,ji]
  subst hc;cases hB:jK ls.length b with
  |false=>
   have pB:=qf hB;obtain rfl:v=false:=by rw[<- hv];simp[di,hA,hB]
   simp only[go_sem,s102,jQ,dZ pB]
  |true=>
   have pB:=qf hB;simp only[go_sem,s102,jQ,dZ pB];by_cases hn:a=b
   .subst hn;obtain rfl:v=false:=by rw[<- hv];simp[di,hA]
    simp only[go_sem]
   have jk:=(xz hn).2;obtain rfl:v=true:=by rw[<- hv];simp[di,hA,hB,hn]
   simp only[go_sem,jk]
def ajQ:aK S 80 [.one (.p (eU F ls)),lL 8 a b c l o sg] (rb (di F ls 8 a b c l o sg)):=by
 obtain⟨v,hv⟩:∃v,di F ls 8 a b c l o sg=v:=⟨_,rfl⟩;rw[hv];refine bk c80 ?_;simp only[go_sem,i80,fK];refine jv [0,3,4,5,6,7,8,9,10,41] fun e1 lE=>?_;simp only[go_sem] at lE;cases l with
 |true=>
  obtain rfl:v=false:=by rw[<- hv];simp[di]
  simp only[go_sem,lE]
 |false=>
  simp only[go_sem,lE];refine jv [0,3,4,5,6,7,8,9,10,53] fun e2 jQ=>?_;simp only[go_sem,lE] at jQ;cases o with
  |true=>
   obtain rfl:v=false:=by rw[<- hv];simp[di]
   simp only[go_sem,jQ]
  |false=>
   simp only[go_sem,jQ];refine jv [0,3,4,5,6,7,8,9,10,60] fun e3 jR=>?_;simp only[go_sem,jQ] at jR;by_cases hs:sg=0
   rotate_left
   .have kW:=(rh hs).1;have fM:=(rh hs).2;obtain rfl:v=false:=by rw[<- hv];simp[di,hs]
    simp only[go_sem,jR,fM]
   subst hs;cases hA:jK ls.length a with
   |false=>
    have pA:=qf hA;obtain rfl:v=false:=by rw[<- hv];simp[di,hA]
    simp only[go_sem,s102,jR,dZ pA]
   |true=>
    have pA:=qf hA;simp only[go_sem,s102,jR,dZ pA];cases hB:jK ls.length b with
    |false=>
     have pB:=qf hB;obtain rfl:v=false:=by rw[<- hv];simp[di,hA,hB]
     simp only[go_sem,jR,dZ pB]
    |true=>
     have pB:=qf hB;cases hD:jK ls.length c with
     |false=>
      have pD:=qf hD;obtain rfl:v=false:=by rw[<- hv];simp[di,hA,hB,hD]
      simp only[go_sem,s102,jR,dZ pB,dZ pD]
     |true=>
      have pD:=qf hD;simp only[go_sem,s102,jR,dZ pB,dZ pD];refine jv [3,4,7,172,178] fun e4 og=>?_;simp only[go_sem,jR] at og;by_cases hl:a<b
      rotate_left
      .obtain rfl:v=false:=by rw[<- hv];simp[di,hA,hB,hD,hl]
       simp only[go_sem,og,hl]
      by_cases hm:b<c
      rotate_left
      .obtain rfl:v=false:=by rw[<- hv];simp[di,hA,hB,hD,hl,hm]
       simp only[go_sem,og,hl,hm]
      obtain rfl:v=true:=by rw[<- hv];simp[di,hA,hB,hD,hl,hm]
      simp only[go_sem,og,hl,hm]
def ZW(k:Int):aK S 80 [.one (.p (eU F ls)),lL k a b c l o sg] (rb (di F ls k a b c l o sg)):=by
 by_cases h1:k=1
 .subst h1;exact Pg ae
 by_cases h2:k=2
 .subst h2;exact ajN
 by_cases h3:k=3
 .subst h3;exact ZX ae
 by_cases h4:k=4
 .subst h4;exact Pg ae
 by_cases h5:k=5
 .subst h5;exact ajO
 by_cases h6:k=6
 .subst h6;exact ZX ae
 by_cases h7:k=7
 .subst h7;exact ajP
 by_cases h8:k=8
 .subst h8;exact ajQ
 by_cases h9:k=9
 .subst h9;exact Pg ae
 by_cases ff:k=10
 .subst ff;exact Pg ae
 rw[show di F ls k a b c l o sg=false by simp[di,h1,h2,h3,h4,h5,h6,h7,h8,h9,ff]];have e1:=(xz h1).1;have e2:=(xz h2).1;have e3:=(xz h3).1;have e4:=(xz h4).1;have e5:=(xz h5).1;have e6:=(xz h6).1;have e7:=(xz h7).1;have e8:=(xz h8).1;have e9:=(xz h9).1;have rU:=(xz ff).1;refine bk c80 ?_;simp only[go_sem,i80,fK,e1,e2,e3,e4,e5,e6,e7,e8,e9,rU]
end
end
structure Swo {α:Type} (lt:α->α->Bool):Prop where
 asym:∀a b,lt a b=true->lt b a=false
 ntrans:∀a b c,lt b a=false->lt c b=false->lt c a=false
def xt{α:Type}(lt:α->α->Bool)(ws:List α)(a b:Nat):Prop:=∀p q x y,a<=p->p<q->q<b->ws[p]?=some x->ws[q]?=some y->lt y x=false
structure zL {α:Type} (lt:α->α->Bool) (zs ws:List α) (x:α) (a i j:Nat):Prop where
 perm:ws.Perm zs
 le:a<=j/\j<=i/\i<ws.length
 at':ws[j]?=some x
 up:∀p y,j<p->p<=i->ws[p]?=some y->lt x y=true
 so:∀p q y z,a<=p->p<q->q<=i->p≠j->q≠j->ws[p]?=some y->ws[q]?=some z->lt z y=false
 out:∀p,p<a\/i<p->ws[p]?=zs[p]?
def zL.start{α:Type}{lt:α->α->Bool}{zs:List α}{x:α}{a i:Nat}(ha:a<=i)(hi:zs[i]?=some x)(hs:xt lt zs a i):zL lt zs zs x a i i:=
 ⟨.refl _,⟨ha,bR _,(aT.1 hi).1⟩,hi,fun p y h1 h2=>aa,fun p q y z h0 h1 h2 h3 h4=>hs p q y z h0 h1 aa,fun _ _=>rfl⟩
def swap_perm{α:Type}{ws:List α}{i j:Nat}{x y:α}(hi:ws[i]?=some x)(hj:ws[j]?=some y):((ws.set i y).set j x).Perm ws:=by obtain⟨h1,e1⟩:=aT.1 hi;obtain⟨h2,e2⟩:=aT.1 hj;have:=List.set_set_perm h1 h2;rwa[e1,e2] at this
def zL.step{α:Type}{lt:α->α->Bool}{zs ws:List α}{x y:α}{a i j:Nat}(o:Swo lt)(h:zL lt zs ws x a i (j+1))(hj:a<=j)(hy:ws[j]?=some y)(aw:lt x y=true):
  zL lt zs ((ws.set (j+1) y).set j x) x a i j:=by
 obtain⟨hp,⟨_,hle,hl⟩,kr,wN,Kl,qG⟩:=h;have Hs:j<ws.length:=(aT.1 hy).1;have get:∀p,((ws.set (j+1) y).set j x)[p]?=if p=j then some x else if p=j+1 then some y else ws[p]? :=fun p=>by
  rw[qT,qT,ud];by_cases e1:j=p
  .subst e1;simp[Hs]
  by_cases e2:j+1=p
  .subst e2;have:¬(j+1=j):=aa;rw[ay e1,aD rfl,aD aa,ay this,aD rfl]
  rw[ay e1,ay e2,ay (fun h=>e1 h.symm),ay (fun h=>e2 h.symm)]
 refine⟨(swap_perm kr hy).trans hp,⟨hj,aa,by simp;omega⟩,by rw[get];simp,?_,?_,?_⟩
 .intro p z h1 h2 hz;rw[get,ay aa] at hz;by_cases e:p=j+1
  .rw[aD e] at hz;cases hz;exact aw
  rw[ay e] at hz;exact wN p z aa h2 hz
 .intro p q u v h0 h1 h2 h3 h4 hu hv;rw[get,ay h3] at hu;rw[get,ay h4] at hv;by_cases e:p=j+1
  .rw[aD e] at hu;cases hu;rw[ay aa] at hv;exact Kl j q _ _ hj aa h2 aa aa hy hv
  rw[ay e] at hu;by_cases e2:q=j+1
  .rw[aD e2] at hv;cases hv;exact Kl p j _ _ h0 aa aa e aa hu hy
  rw[ay e2] at hv;exact Kl p q _ _ h0 h1 h2 e e2 hu hv
 intro p fV;rw[get,ay aa,ay aa,qG p fV]
def zL.stop{α:Type}{lt:α->α->Bool}{zs ws:List α}{x:α}{a i j:Nat}(o:Swo lt)(h:zL lt zs ws x a i j)(hj:j=a\/ ∃y,a<j/\ws[j-1]?=some y/\lt x y=false):xt lt ws a (i+1):=by
 obtain⟨hp,⟨hja,hle,hl⟩,kr,wN,Kl,qG⟩:=h;intro p q u v h0 h1 h2 hu hv;by_cases e:q=j
 .subst e;rw[kr] at hv;cases hv;rcases hj with hj|⟨y,DF,hy,j6⟩
  .omega
  by_cases e3:p=q-1
  .subst e3;rw[hy] at hu;cases hu;exact j6
  exact o.ntrans _ _ _ (Kl p (q-1) _ _ h0 aa aa aa aa hu hy) j6
 by_cases e2:p=j
 .subst e2;rw[kr] at hu;cases hu;exact o.asym _ _ (wN q v h1 aa hv)
 exact Kl p q u v h0 h1 aa e2 e hu hv
def xt.mono{α:Type}{lt:α->α->Bool}{ws:List α}{a b c:Nat}(h:xt lt ws a c)(hb:b<=c\/ws.length<=c):xt lt ws a b:=fun p q x y h0 h1 h2 hx hy=>h p q x y h0 h1 (by
 rcases hb with hb|hb
 .omega
 have:=(aT.1 hy).1;omega) hx hy
abbrev tk(a b:Int):Bool:=decide (a<b)
def YP:Swo tk:=⟨fun a b h=>by simp at*;omega,fun a b c h k=>by simp at*;omega⟩
def aq6(a:Int):aK S 197 [vi a] (rb false):=by refine bk c197 ?_;have h:(a !=a)=false:=af;simp only[go_sem,i197,h]
def ap5(a b:Int):aK S 176 [vi a,vi b] (rb (tk a b)):=by have pn:=aq6 a;refine bk c176 ?_;simp only[go_sem,i176,s197,dZ pn,tk]
def Tu(n:Nat)(h:n<=1000000):∃k:Int,aK S 118 [.one (.p (.int .u64 n))] (ri k):=by
 refine⟨((Lib.bitLen n:Nat):Int),⟨1,?_⟩⟩;have hp:S.prim 118 [.one (.p (.int .u64 (n:Int)))]=some (some (ri ((Lib.bitLen n:Nat):Int))):=by show some (OC [.one (.p (.int .u64 (n:Int)))])=_;simp only[OC];rw[aD ⟨aa,aa⟩];rfl
 rw[ij,hp]
def Xk(o:d_)(k:Nat)(v:Int):(iP o).set k [.int .i64 v]=iP (o.set k v):=by simp[List.map_set]
def xS(o:d_):(iP o).length=o.length:=cM _
def F4(lt:Int->Int->Bool)(id g ty:Nat)(es:d_)(aj:aB)(v:V)(ao:aB):Prop:=v=.tup []/\(∃ws:d_,ao id=(g,some (.arr ty 1 (iP ws)))/\ws.Perm es/\xt lt ws 0 ws.length)/\Kept (· =id) aj ao
def apq{al:Al}{aj:aB}{id g:Nat}{es:d_}(o:al.ok id=true)(hl:es.length<=1000000)(hC:aj id=(g,some (.arr ty 1 (iP es)))):
  ∃v ao,jm S 170 [.one (.hsl id g 1 0 es.length),vi 0,vi es.length] al aj v ao/\F4 tk id g ty es aj v ao:=by
 refine nT c170 (iA rfl) ?_;have w0:IntKind.i64.wrap (0+1)=((0+1:Nat):Int):=ae;simp only[go_sem,i170];refine dy (fun k ak ao=>ak 0=.one (.hsl id g 1 0 es.length)/\ak 1=vi 0/\ak 2=vi es.length/\ak 6=vi ((k+1:Nat):Int)/\ ∃zs:d_,ao id=(g,some (.arr ty 1 (iP zs)))/\zs.Perm es/\xt tk zs 0 (k+1)/\Kept (· =id) aj ao) 0 es.length (bG _) ?_ ?_
 .simp only[go_sem];exact⟨rfl,es,hC,.refl _,fun p q x y _ h1 h2=>aa,Kept.refl _ _⟩
 rintro k ak bU hk ⟨h0,h1,h2,h6,zs,hZ,hp,hs,dK⟩
 have mS:=hp.length_eq;by_cases aw:k+1<es.length
 .have aL:((k+1:Nat):Int)<(es.length:Int):=aa;obtain⟨x,hx⟩:=aM (ls:=zs) (k:=k+1) aa;simp only[go_sem,i170_l3,h2,h6,aL];refine dy (fun q ak ao=>ak 0=.one (.hsl id g 1 0 es.length)/\ak 1=vi 0/\ak 2=vi es.length/\ak 6=vi ((k+1:Nat):Int)/\ak 7=vi ((k+1-q:Nat):Int)/\ ∃ws:d_,ao id=(g,some (.arr ty 1 (iP ws)))/\zL tk zs ws x 0 (k+1) (k+1-q)/\Kept (· =id) aj ao) 0 (k+1) (bG _) ?_ ?_
  .simp only[go_sem,h0,h1,h2,h6];exact⟨zs,hZ,zL.start (bG _) hx hs,dK⟩
  rintro q dz bh hq ⟨k0,k1,k2,k6,k7,ws,hW,hI,Hv⟩
  have j5:ws.length=es.length:=hI.perm.length_eq.trans mS;have wk:IntKind.i64.wrap (((k+1:Nat):Int)+1)=((k+1+1:Nat):Int):=cS (n:=k+1) aa;by_cases hj0:k+1-q=0
  .have e7:¬((0:Int)<((k+1-q:Nat):Int)):=aa;simp only[go_sem,i170_l1,i170_r2,k0,k1,k2,k6,k7,e7,wk];refine⟨aJ,aa,ws,hW,hI.perm.trans hp,hI.stop YP (.inl hj0),Hv⟩
  obtain⟨j,hj⟩:∃j,k+1-q=j+1:=⟨k-q,aa⟩;have e7:((0:Int)<((j+1:Nat):Int)):=aa;obtain⟨y,hy⟩:=aM (ls:=ws) (k:=j) aa;rw[hj] at hI k7;have wj:IntKind.i64.wrap (((j+1:Nat):Int)-1)=(j:Int):=by rw[zD aa];omega
  have tV:=BO hI.at';have DF:=BO hy;have j1:j+1<es.length:=by have:=hI.le;omega
  have j2:j<es.length:=aa;have pl:=ap5 x y;cases j6:tk x y with
  |false=>rw[j6] at pl;simp only[go_sem,i170_l1,i170_r2,k0,k1,k2,k6,k7,e7,wk,wj,hW,tV,DF,j1,j2,o,s176,Ps pl];refine⟨aJ,aa,ws,rfl,hI.perm.trans hp,hI.stop YP (.inr ⟨y,aa,hy,j6⟩),Hv⟩
  |true=>rw[j6] at pl;have xE:=hI.step YP (bG _) hy j6;have hjj:¬(j+1=j):=aa;have l1:j+1<ws.length:=aa;have l2:j<ws.length:=aa;simp only[go_sem,i170_l1,i170_r2,k0,k1,k2,k6,k7,e7,wj,hW,tV,DF,j1,j2,l1,hjj,o,s176,Ps pl,qT,xS];have HD:k+1-(q+1)=j:=aa;refine⟨aJ,aJ,aa,by rw[HD],(ws.set (j+1) y).set j x,by rw[Xk,Xk],by rw[HD];exact xE,(Hv.dU rfl _).dU rfl _⟩
 have aL:¬(((k+1:Nat):Int)<(es.length:Int)):=aa;simp only[go_sem,i170_l3,h2,h6,aL];exact⟨rfl,⟨zs,hZ,hp,hs.mono (.inl aa)⟩,dK⟩
def Bt{Q:dO}{al:Al}{ak:Env}{aj:aB}{os:h_}{d:w_}{f id g ty z o n:Nat}{vs:e_}{es:s_}{P:V->aB->Prop}(hC:aj id=(g,some (.arr ty z es)))(se:(vs.map (jN aj)).flatten=[])(hh:al=.all\/al.ok id=true/\(S.sites f).all al.fs.contains=true)
  (h:∀rR,rR.ok id=true->rR.fs=S.sites f->∃v ao,jm S f (.one (.hsl id g z o n)::vs) rR aj v ao/\P v ao)
  (hK:∀v ao,P v ao->RN S al os Q (put ak d v) ao):gP S al (.sc f (.one (.hsl id g z o n)::vs)) d os Q ak aj:=by
 have hr:((V.one (.hsl id g z o n)::vs).map (jN aj)).flatten=[id]:=by rw[eh,mX,se,Ys hC];rfl
 refine sR (P:=P) ?_ (h _ (tD (by rw[hr];simp)) rfl) hK;rcases hh with rfl|⟨h1,h2⟩
 .rfl
 refine holds_of ?_ h2;show al.fP ((V.one (.hsl id g z o n)::vs).map (jN aj)).flatten=true;rw[hr];simp[Al.fP,h1]
def arJ{al:Al}{aj:aB}{id g:Nat}{es:d_}(o:al.ok id=true)(f1:al.fs.contains 170=true)(hl:es.length<=12)(hC:aj id=(g,some (.arr ty 1 (iP es))))(lim:Int):
  ∃v ao,jm S 153 [.one (.hsl id g 1 0 es.length),vi 0,vi es.length,vi lim] al aj v ao/\F4 tk id g ty es aj v ao:=by
 refine nT c153 (iA rfl) ?_;have w0:IntKind.i64.wrap ((es.length:Int)-0)=(es.length:Int):=by rw[Int.sub_zero];exact uZ aa aa
 have jF:(es.length:Int)<=12:=aa;simp only[go_sem,i153];refine sF ?_;simp only[go_sem,i153_l1,w0,jF,s170];refine Bt hC (by rfl) (.inr ⟨o,by rw[show S.sites 170=[170] by kernel_rfl];simp only[mH,pQ,f1,yg]⟩) (P:=F4 tk id g ty es aj) (fun rR h1 _=>apq h1 aa hC) fun v ao hP=>?_;obtain⟨rfl,h2⟩:=hP;simp only[go_sem];exact⟨rfl,h2⟩
def YM{al:Al}{aj:aB}{id g:Nat}{es:d_}(o:al.ok id=true)(f1:(S.sites 153).all al.fs.contains=true)(hl:es.length<=12)(hC:aj id=(g,some (.arr ty 1 (iP es)))):
  ∃v ao,jm S 119 [.one (.hsl id g 1 0 es.length)] al aj v ao/\F4 tk id g ty es aj v ao:=by
 obtain⟨k,pb⟩:=Tu es.length aa;have wu:IntKind.u64.wrap (es.length:Int)=(es.length:Int):=by
  have e:IntKind.u64.wrap (es.length:Int)=(es.length:Int)%18446744073709551616:=by unfold IntKind.wrap;rfl
  rw[e];omega
 refine nT c119 (iA rfl) ?_;have sbl:S.shared 118=false:=ah;simp only[go_sem,i119,wu,sbl,GY pb,s153];refine Bt hC (by rfl) (.inr ⟨o,f1⟩) (P:=F4 tk id g ty es aj) (fun rR h1 h2=>arJ h1 (by rw[h2];kernel_rfl) hl hC k) fun v ao hP=>?_;obtain⟨rfl,h2⟩:=hP;simp only[go_sem];exact⟨rfl,h2⟩
def mN(ws:d_):Nat->d_
 |0=>[]
 |k+1=>match ws[k]? with
  |some x=>if 0<k/\ws[k-1]?=some x then mN ws k else mN ws k++[x]
  |none=>mN ws k
def aa1(ws:d_):∀k,(mN ws k).length<=k:=by
 intro k
 induction k with
 |zero=>exact bR _
 |succ k ih=>
  unfold mN;split
  .split
   .omega
   simp;omega
  omega
def TZ{k:Nat}(h:ws[k+1]?=some x)(hp:ws[k]?=some x):mN ws (k+2)=mN ws (k+1):=by
 conv=>lhs;unfold mN
 rw[h];simp[hp]
def TX{k:Nat}{y:Int}(h:ws[k+1]?=some x)(hp:ws[k]?=some y)(hn:¬x=y):mN ws (k+2)=mN ws (k+1)++[x]:=by
 conv=>lhs;unfold mN
 rw[h];have:¬y=x:=fun e=>hn e.symm;simp[hp,this]
def alw(h:ws[0]?=some x):mN ws 1=[x]:=by simp[mN,h]
def Rc(ws:d_)(k:Nat):Prop:=∀i x y,i+1<k->ws[i]?=some x->ws[i+1]?=some y-> ¬y=x
def TY:∀k,k<=ws.length->Rc ws k->mN ws k=ws.take k:=by
 intro k
 induction k with
 |zero=>intro _ _;rfl
 |succ k ih=>
  intro hk h;obtain⟨x,hx⟩:=aM (ls:=ws) (k:=k) aa;have e:=ih aa fun i x y h1=>h i x y aa;have ht:ws.take (k+1)=ws.take k++[x]:=by rw[qq,hx];rfl
  rcases k with _|k
  .rw[alw hx,ht];rfl
  obtain⟨y,hy⟩:=aM (ls:=ws) (k:=k) aa;rw[TX hx hy (h k y x aa hy hx),e,ht]
structure zU (ws cs:d_) (k q:Nat):Prop where
 len:cs.length=ws.length
 kl:k=(mN ws q).length
 pre:cs.take k=mN ws q
 out:∀p,q-1<=p->cs[p]?=ws[p]?
 kq:k<q
def zU.step{cs:d_}{k q:Nat}{y:Int}(h:zU ws cs k (q+1))(hx:ws[q+1]?=some x)(hy:ws[q]?=some y)(hn:¬x=y):zU ws (cs.set k x) (k+1) (q+2):=by
 obtain⟨h1,h2,h3,h4,h5⟩:=h;have hl:=aa1 ws (q+1);have hq:q+1<ws.length:=(aT.1 hx).1;refine⟨by simpa using h1,by rw[TX hx hy hn,fS,<- h2];rfl,?_,fun p hp=>?_,aa⟩
 .rw[TX hx hy hn,qq,qT];have:k<cs.length:=aa;rw[aD rfl,aD this,List.take_set_of_le (bR _),h3];rfl
 rw[qT,ay aa];exact h4 p aa
def zU.skip{cs:d_}{k q:Nat}(h:zU ws cs k (q+1))(hx:ws[q+1]?=some x)(hy:ws[q]?=some x):zU ws cs k (q+2):=by obtain⟨h1,h2,h3,h4,h5⟩:=h;exact⟨h1,by rw[TZ hx hy];exact h2,by rw[TZ hx hy];exact h3,fun p hp=>h4 p aa,aa⟩
def zU.start{k:Nat}(hk:k+1<ws.length)(h:Rc ws (k+1))(hx:ws[k+1]?=some x)(hy:ws[k]?=some x):zU ws ws (k+1) (k+2):=by have e:=TY (k+1) aa h;have e2:mN ws (k+2)=ws.take (k+1):=(TZ hx hy).trans e;exact⟨rfl,by rw[e2];simp;omega,by rw[e2],fun _ _=>rfl,aa⟩
def TK(id g ty:Nat)(ws:d_)(aj:aB)(v:V)(ao:aB):Prop:=v=.one (.hsl id g 1 0 (mN ws ws.length).length)/\(∃cs:d_,ao id=(g,some (.arr ty 1 (iP cs)))/\cs.length=ws.length/\cs.take (mN ws ws.length).length=mN ws ws.length)/\Kept (· =id) aj ao
def ao9{cs:d_}{k:Nat}(hk:k<=cs.length):List.take k (iP cs)++List.replicate (cs.length-k) [PV.int .i64 0]++List.drop (k+(cs.length-k)) (iP cs)=iP (cs.take k++List.replicate (cs.length-k) 0):=by rw[List.drop_of_length_le (by simp;omega),jA];simp only[iP,kZ,List.map_replicate,IG]
def aaN{al:Al}{aj:aB}{id g:Nat}(o:al.ok id=true)(hl:ws.length<=1000000)(hC:aj id=(g,some (.arr ty 1 (iP ws)))):
  ∃v ao,jm S 140 [.one (.hsl id g 1 0 ws.length)] al aj v ao/\TK id g ty ws aj v ao:=by
 refine nT c140 (iA rfl) ?_;by_cases h2:ws.length<2
 .have jH:((ws.length:Int)<2):=aa;have iw:Rc ws ws.length:=fun i x y h=>aa;have e:=TY ws.length (bR _) iw;rw[lf] at e;simp only[go_sem,i140,jH];exact⟨by rw[e],⟨ws,hC,rfl,by rw[e,lf]⟩,Kept.refl _ _⟩
 have jH:¬((ws.length:Int)<2):=aa;simp only[go_sem,i140,jH];refine dy (fun q ak ao=>ak 0=.one (.hsl id g 1 0 ws.length)/\ak 3=vi ((q+1:Nat):Int)/\Rc ws (q+1)/\ao=aj) 0 ws.length (bG _) ?_ ?_
 .simp only[go_sem];exact⟨rfl,fun i x y h=>aa⟩
 rintro q ak bU hq ⟨h0,h3,iw,rfl⟩
 by_cases aw:q+1<ws.length
 .have aL:(((q+1:Nat):Int)<(ws.length:Int)):=aa;obtain⟨x,hx⟩:=aM (ls:=ws) (k:=q+1) aw;obtain⟨y,hy⟩:=aM (ls:=ws) (k:=q) aa;have tV:=BO hx;have DF:=BO hy;have wj:IntKind.i64.wrap (((q+1:Nat):Int)-1)=(q:Int):=by rw[zD aa];omega
  have wk:=cS (n:=q+1) aa;have q1:q<ws.length:=aa;have q2:q+1<=ws.length:=aa;by_cases e:x=y
  .subst e;simp only[go_sem,i140_l4,h0,h3,aw,aL,tV,DF,wj,q1,q2,hC,o];refine⟨aJ,?_⟩;refine dy (fun r ak ao=>ak 0=.one (.hsl id g 1 0 ws.length)/\ak 4=.one (.hsl id g 1 (q+1) (ws.length-(q+1)))/\ak 5=vi ((r+1:Nat):Int)/\ ∃(cs:d_) (k:Nat),ak 3=vi (k:Nat)/\ao id=(g,some (.arr ty 1 (iP cs)))/\zU ws cs k (q+2+r)/\q+2+r<=ws.length/\Kept (· =id) bU ao) 0 ws.length (bG _) ?_ ?_
   .simp only[go_sem,h0];exact⟨rfl,ws,q+1,h3,hC,zU.start aw iw hx hy,aa,Kept.refl _ _⟩
   rintro r dz bh hr ⟨k0,k4,k5,cs,k,k3,hB,hI,hqr,dK⟩
   have bN:=hI.len;have eH:=hI.kl;have hkle:=aa1 ws (q+2+r);have hkq:=hI.kq;have Fa:zU ws cs k (q+1+r+1):=by rw[show q+1+r+1=q+2+r by omega];exact hI
   by_cases Qx:r+1<ws.length-(q+1)
   .have Qy:(((r+1:Nat):Int)<((ws.length-(q+1):Nat):Int)):=aa;obtain⟨u,hu⟩:=aM (ls:=ws) (k:=q+1+(r+1)) aa;obtain⟨v,hv⟩:=aM (ls:=ws) (k:=q+1+r) aa;have cu:=BO ((hI.out (q+1+(r+1)) aa).trans hu);have cv:=BO ((hI.out (q+1+r) aa).trans hv);have wr:IntKind.i64.wrap (((r+1:Nat):Int)-1)=(r:Int):=by rw[zD aa];omega
    have wr2:=cS (n:=r+1) aa;have wk2:=cS (n:=k) aa;have r1:r<ws.length-(q+1):=aa;have kk:k<ws.length:=aa;have kk2:k<cs.length:=aa;obtain⟨z,hz⟩:=aM kk2;have cz:=BO hz;by_cases e2:u=v
    .subst e2;have Fz:(u !=u)=false:=af;have xE:=Fa.skip (by rw[show q+1+r+1=q+1+(r+1) by omega];exact hu) hv;simp only[go_sem,i140_l1,k0,k4,k5,k3,Qx,Qy,r1,hB,cu,cv,wr,wr2,Fz,o];refine⟨aJ,aa,cs,k,rfl,rfl,by rw[show q+2+(r+1)=q+1+r+2 by omega];exact xE,aa,dK⟩
    have Fz:=(show(u !=v)=true by simp[e2]);simp only[go_sem,i140_l1,k0,k4,k5,k3,Qx,Qy,r1,hB,cu,cv,wr,wr2,wk2,kk,cz,Fz,o];have xE:=Fa.step (by rw[show q+1+r+1=q+1+(r+1) by omega];exact hu) hv e2;refine⟨aJ,aa,cs.set k u,k+1,rfl,by rw[Xk],by rw[show q+2+(r+1)=q+1+r+2 by omega];exact xE,aa,dK.dU rfl _⟩
   have Qy:¬(((r+1:Nat):Int)<((ws.length-(q+1):Nat):Int)):=aa;have kk3:k<=ws.length:=aa;have kk4:k+(ws.length-k)<=cs.length:=aa;have aI:¬(ws.length-k=0):=aa;have Qp:q+2+r=ws.length:=aa;rw[Qp] at hI;have qc:=ao9 (cs:=cs) (k:=k) aa;rw[bN] at qc;simp only[go_sem,i140_l1,i140_r2,k0,k4,k5,k3,Qy,hB,o,kk3,kk4,aI,List.length_replicate,xS,qc];obtain⟨i1,i2,i3,i4,i5⟩:=hI;refine⟨by rw[<- i2],⟨_,A7,by simp;omega,?_⟩,dK.dU rfl _⟩;rw[<- i2,List.take_left' (by simp;omega),i3]
  have e1:=(show(x==y)=false by simp[e]);simp only[go_sem,i140_l4,i140_r3,h0,h3,aw,aL,tV,DF,wj,wk,q1,hC,o,e1];refine⟨aJ,fun i u v h h4 h5=>?_⟩;by_cases e2:i=q
  .subst e2;rw[hy] at h4;rw[hx] at h5;cases h4;cases h5;exact e
  exact iw i u v aa h4 h5
 have aL:¬(((q+1:Nat):Int)<(ws.length:Int)):=aa;have e:=TY ws.length (bR _) (fun i x y h=>iw i x y aa);rw[lf] at e;simp only[go_sem,i140_l4,i140_r5,h0,h3,aL];exact⟨by rw[e],⟨ws,hC,rfl,by rw[e,lf]⟩,Kept.refl _ _⟩
def iS:d_->d_
 |[]=>[]
 |x::r=>if x∈r then iS r else x::iS r
def zY:∀ {l:d_},x∈iS l↔x∈l:=by
 intro l
 induction l with
 |nil=>simp[iS]
 |cons y r ih=>
  unfold iS;split
  .rename_i h;rw[ih,cD];constructor
   .exact .inr
   rintro (rfl|h2)
   .exact h
   exact h2
  rw[cD,cD,ih]
def alO:∀l:d_,(iS l).Nodup:=by
 intro l
 induction l with
 |nil=>exact xl
 |cons y r ih=>
  unfold iS;split
  .exact ih
  rename_i h;exact qU.2 ⟨fun h2=>h (zY.1 h2),ih⟩
def aa2:∀k,k<=ws.length->(x∈mN ws k↔x∈ws.take k):=by
 intro k
 induction k with
 |zero=>intro _;simp[mN]
 |succ k ih=>
  intro hk;obtain⟨y,hy⟩:=aM (ls:=ws) (k:=k) aa;have ht:ws.take (k+1)=ws.take k++[y]:=by rw[qq,hy];rfl
  have ih:=ih aa;unfold mN;rw[hy,ht];simp only;split
  .rename_i h;obtain⟨h1,h2⟩:=h;have hm:y∈ws.take k:=by
    rw[List.mem_take_iff_getElem];obtain⟨h3,h4⟩:=aT.1 h2;exact⟨k-1,aa,h4⟩
   rw[ih,eK];constructor
   .exact .inl
   rintro (h|h)
   .exact h
   simp at h;subst h;exact hm
  rw[eK,eK,ih]
def alv(hs:xt tk ws 0 ws.length):∀k,k<=ws.length->(mN ws k).Nodup:=by
 intro k
 induction k with
 |zero=>intro _;exact xl
 |succ k ih=>
  intro hk;obtain⟨y,hy⟩:=aM (ls:=ws) (k:=k) aa;have ih:=ih aa;unfold mN;rw[hy];simp only;split
  .exact ih
  rename_i h;rw[Gf];refine⟨ih,af,fun z hz w hw=>?_⟩;simp at hw;subst hw;rintro rfl
  rw[aa2 k aa,List.mem_take_iff_getElem] at hz;obtain⟨p,hp,hpz⟩:=hz;have hpk:p<k:=aa;have mw:ws[p]?=some z:=by rw[rL aa,hpz]
  obtain⟨u,hu⟩:=aM (ls:=ws) (k:=k-1) aa;have s1:=hs (k-1) k u z (bG _) aa aa hu hy;have huz:u=z:=by
   by_cases e:p=k-1
   .rw[e,hu] at mw;cases mw;rfl
   have s2:=hs p (k-1) z u (bG _) aa aa mw hu;simp at s1 s2;omega
  rw[huz] at hu;exact h ⟨aa,hu⟩
def aaM{es:d_}(hp:ws.Perm es)(hs:xt tk ws 0 ws.length):(mN ws ws.length).length=(iS es).length:=by refine List.Perm.length_eq ((List.perm_ext_iff_of_nodup (alv hs _ (bR _)) (alO es)).2 fun x=>?_);rw[aa2 _ (bR _),lf,zY,hp.mem_iff]
def um(ls:ai)(e:Nat):Bool:=((pA ls e).l.kind==2)&&((pA ls (nx ls e)).l.kind==2)
def pO(ls:ai)(es:a_):d_:=es.flatMap fun e:Nat=>[(e:Int),(nx ls e:Int)]
def rK(ls:ai)(es:a_):d_:=es.flatMap fun e:Nat=>[(pA ls e).l.id,(pA ls (nx ls e)).l.id]
def tgB(F:Nat)(ls:ai)(a b c:Nat):Bool:=[a,b,c].all (um ls)&&(((iS (pO ls [a,b,c])).length==6)&&(((iS (rK ls [a,b,c])).length==3)&&([a,b,c].any (jt ls · true)&&([a,b,c].any (jt ls · false)&&lk F ls 0 [a,b,c] a))))
def tx(F:Nat)(ls:ai)(a b c:Nat):Option c_:=if tgB F ls a b c then some (fY ls (pieces ls) [a,b,c]) else none
def Sx(f:Nat->d_)(hf:∀e,(f e).length=2):∀l:a_,(l.flatMap f).length=2*l.length:=by
 intro l
 induction l with
 |nil=>rfl
 |cons a r ih=>rw[LD,fS,ih,hf,dC];omega
def ac9(f:Nat->d_)(l:a_)(k e:Nat)(h:l[k]?=some e):(l.take (k+1)).flatMap f=(l.take k).flatMap f++f e:=by rw[qq,h];simp
def ZS(f:Nat->Bool)(l:a_)(k e:Nat)(h:l[k]?=some e):(l.take (k+1)).any f=((l.take k).any f||f e):=by rw[qq,h];simp
def ajv(f:Nat->Bool)(l:a_)(k e:Nat)(h:l[k]?=some e):(l.take (k+1)).all f=((l.take k).all f&&f e):=by rw[qq,h];simp
def aiv(f:Nat->d_)(es:a_)(x y:Int):iP (es.flatMap f)++[[PV.int .i64 x],[PV.int .i64 y]]=iP (es.flatMap f++[x,y]):=af
def avr(g:cX F ls){av bv cv:Nat}(ha:av<ls.length)(hb:bv<ls.length)(hc:cv<ls.length){k:Int}{l o:Bool}{sg:Int}:
  aK S 110 [.one (.p (eU F ls)),lL k av bv cv l o sg] (kR (tx F ls av bv cv)):=by
 have hlen:=g.len;have bY:=fK ls;have l6:∀e∈[av,bv,cv],e<ls.length:=fun e h=>by simp at h;rcases h with rfl|rfl|rfl<;>assumption
 generalize hE:[av,bv,cv]=es at*;have dI:es.length=3:=by rw[<- hE];rfl
 have Nz:nP [av,bv,cv]=[[.int .i64 av],[.int .i64 bv],[.int .i64 cv]]:=rfl;rw[hE] at Nz;have w3:((3:Nat):Int)=3:=rfl;refine bk c110 ?_;simp only[go_sem,i110];refine dy (fun j ak aj=>ak 0=.one (.p (eU F ls))/\ak 6=.one (.hsl 7040064384 1 1 0 3)/\ak 22=.one (.hsl 7040064384 1 1 0 3)/\ak 23=vi 3/\ak 24=vi j/\aj 7040064384=(1,some (.arr 3 1 (nP es)))/\(es.take j).all (um ls)=true/\
  ak 9=vb ((es.take j).any (jt ls · true))/\ak 10=vb ((es.take j).any (jt ls · false))/\ ∃c7 c8,ak 7=.one c7/\ak 8=.one c8/\grown 7040640256 3 1 (iP (pO ls (es.take j))) (.one c7) aj/\grown 7040705280 3 1 (iP (rK ls (es.take j))) (.one c8) aj) 0 3 (bG _) ?_ ?_
 .simp only[go_sem];exact⟨rfl,rfl,by rw[Nz],rfl,rfl,_,_,rfl,rfl,grown.nil,grown.nil⟩
 rintro j ak aj hj ⟨h0,h6,rZ,mr,ko,b6,dQ,h9,ff,c7,c8,h7,h8,g7,g8⟩
 by_cases aw:j<3
 .have aL:((j:Int)<3):=aa;obtain⟨e,he⟩:=aM (ls:=es) (k:=j) aa;have Qo:=l6 e (aV he);have hnp:=kE he;have pe:=C0 g Qo;have hm:=dr (e+1) (show 0<ls.length by omega);obtain⟨P,hP⟩:=aM (ls:=pieces ls) (k:=e) aa;obtain⟨Q,hQ⟩:=aM (ls:=pieces ls) (k:=(e+1)%ls.length) aa;have oZ:=kI hP;have haq:=kI hQ;have w1:=cS (n:=j) aa;have po:=Jf g Qo true;have pu:=Jf g Qo false;have eV:um ls e=((P.l.kind==2)&&(Q.l.kind==2)):=by unfold um;rw[je hP,je hQ]
  have hl7:(iP (pO ls (es.take j))).length<=100:=by unfold pO;rw[xS,Sx _ (fun _=>rfl),iK];omega
  have hl8:(iP (rK ls (es.take j))).length<=100:=by unfold rK;rw[xS,Sx _ (fun _=>rfl),iK];omega
  have dM:um ls e=false->tx F ls av bv cv=none:=fun h=>by
   have:es.all (um ls)=false:=by
    cases hh:es.all (um ls) with
    |false=>rfl
    |true=>rw[gO.1 hh e (aV he)] at h;cases h
   unfold tx tgB;rw[hE,this];rfl
  cases k1:(P.l.kind==2) with
  |false=>
   rw[k1] at eV;have k1':(P.l.kind !=2)=true:=by simp only[bne,k1];rfl
   rw[dM eV];simp only[go_sem,i110_l1,h0,rZ,mr,ko,b6,aw,aL,hnp,s127,de pe iB,oZ,Pc.ps,k1'];rfl
  |true=>
   have k1':(P.l.kind !=2)=false:=by simp only[bne,k1];rfl
   cases k2:(Q.l.kind==2) with
   |false=>
    rw[k1,k2] at eV;have k2':(Q.l.kind !=2)=true:=by simp only[bne,k2];rfl
    rw[dM eV];simp only[go_sem,i110_l1,h0,rZ,mr,ko,b6,aw,aL,hnp,s127,de pe iB,oZ,haq,Pc.ps,k1',k2'];rfl
   |true=>
    rw[k1,k2] at eV;have k2':(Q.l.kind !=2)=false:=by simp only[bne,k2];rfl
    simp only[go_sem,i110_l1,h0,h7,rZ,mr,ko,b6,aw,aL,hnp,s127,de pe iB,oZ,haq,Pc.ps,k1',k2'];refine vq (xs:=[[.int .i64 (e:Nat)],[.int .i64 ((e+1)%ls.length:Nat)]]) (g7.of_eq (aX ae)) (by simp only[fU,aO,if_true];rfl) (.inl rfl) (by simp only[dC,fe];omega) fun d7 bU gd7 dw=>?_;have q6:=dw 7040064384 ae ae;simp only[go_sem,b6] at q6;have g8':=g8.of_eq ((dw 7040705280 ae ae).trans (aX ae));simp only[go_sem,h0,h8,oZ,haq,Pc.ps];refine Bn (xs:=[[.int .i64 P.l.id],[.int .i64 Q.l.id]]) (g8'.of_eq (aX ae)) (by simp only[fU,aO,if_true];rfl) (.inl rfl) (by simp only[dC,fe];omega) fun d8 bh r w gd8 bj hw=>?_
    have p6:=(bj 7040064384 ae ae).trans ((aX ae).trans q6);have anx:=gd7.of_eq ((bj 7040640256 ae ae).trans (aX ae));simp only[go_sem];refine⟨?_,?_⟩
    .rcases hw with ⟨rfl,rfl⟩|⟨rfl,rfl⟩|⟨rfl,rfl⟩<;>kernel_rfl
    generalize hx9:(es.take j).any (jt ls · true)=x9 at h9;generalize ao7:(es.take j).any (jt ls · false)=Iw at ff;have e9:=ZS (jt ls · true) es j e he;have rU:=ZS (jt ls · false) es j e he;have eA:=ajv (um ls) es j e he;rw[hx9] at e9;rw[ao7] at rU;rw[dQ,eV] at eA;have G7:grown 7040640256 3 1 (iP (pO ls (es.take (j+1)))) (.one d7) bh:=by have:=aiv (fun e:Nat=>[(e:Int),(nx ls e:Int)]) (es.take j) e (nx ls e);have h2:=ac9 (fun e:Nat=>[(e:Int),(nx ls e:Int)]) es j e he;rw[show pO ls (es.take (j+1))=(es.take j).flatMap (fun e:Nat=>[(e:Int),(nx ls e:Int)])++[(e:Int),(nx ls e:Int)] from h2,<- this];exact anx
    have G8:grown 7040705280 3 1 (iP (rK ls (es.take (j+1)))) (.one d8) bh:=by have:=aiv (fun e:Nat=>[(pA ls e).l.id,(pA ls (nx ls e)).l.id]) (es.take j) (pA ls e).l.id (pA ls (nx ls e)).l.id;have h2:=ac9 (fun e:Nat=>[(pA ls e).l.id,(pA ls (nx ls e)).l.id]) es j e he;rw[show rK ls (es.take (j+1))=(es.take j).flatMap (fun e:Nat=>[(pA ls e).l.id,(pA ls (nx ls e)).l.id])++[(pA ls e).l.id,(pA ls (nx ls e)).l.id] from h2,<- this,je hP,show pA ls (nx ls e)=Q from je hQ];exact gd8
    cases x9<;>cases Iw<;>simp only[go_sem,h0,h9,ff,rZ,mr,ko,s138,dZ po,dZ pu,w1,aw]<;>exact⟨h6,p6,by rw[eA];rfl,by rw[e9];rfl,by rw[rU];rfl,d7,d8,rfl,rfl,G7,G8⟩
 have:j=3:=aa;subst this;have ht:es.take 3=es:=by rw[<- hE];rfl
 rw[ht] at dQ h9 ff g7 g8;have n7:(pO ls es).length=6:=by unfold pO;rw[Sx _ (fun _=>rfl),dI]
 have n8:(rK ls es).length=6:=by unfold rK;rw[Sx _ (fun _=>rfl),dI]
 rcases g7 with ⟨e,_⟩|⟨_,gg7,e,b7⟩
 .have:=congrArg List.length e;rw[xS,n7] at this;cases this
 cases e;rcases g8 with ⟨e,_⟩|⟨_,gg8,e,b8⟩
 .have:=congrArg List.length e;rw[xS,n8] at this;cases this
 cases e;have s506:S.shared 119=true:=ah;have s507:S.shared 140=true:=ah;have E0:¬(((3:Nat):Int)<3):=ae;simp only[go_sem,i110_l1,i110_r2,h7,mr,ko,E0,s506,xS];refine Bt b7 (by rfl) (.inl rfl) (P:=F4 tk 7040640256 gg7 3 (pO ls es) aj) (fun rR h1 h2=>YM h1 (by rw[h2];kernel_rfl) aa b7) fun v bU hP=>?_;obtain⟨rfl,⟨ws,bw,pw,sw⟩,kw⟩:=hP;have b8':=(kw 7040705280 ae).trans b8;have b6':=(kw 7040064384 ae).trans b6;simp only[go_sem,h8,s506,xS];refine Bt b8' (by rfl) (.inl rfl) (P:=F4 tk 7040705280 gg8 3 (rK ls es) bU) (fun rR h1 h2=>YM h1 (by rw[h2];kernel_rfl) aa b8') fun v bh hP=>?_
 obtain⟨rfl,⟨us,bu,pu,su⟩,ku⟩:=hP;have bw':=(ku 7040640256 ae).trans bw;have aj9:=(ku 7040064384 ae).trans b6';have wl:=pw.length_eq;have ul:=pu.length_eq;have cw:=aaM pw sw;have cu:=aaM pu su;have pcn:=TS g es aa (e0:=av) (by rw[<- hE];rfl) ha 0;have c00:((0:Nat):Int)=0:=rfl;rw[c00] at pcn;have psw:=au6 g es l6 aa;have ht3:List.take 3 (nP es)=nP es:=iz (by rw[XZ];omega);have hB:tgB F ls av bv cv=((((iS (pO ls es)).length:Int)==6)&&((((iS (rK ls es)).length:Int)==3)&&(es.any (jt ls · true)&&(es.any (jt ls · false)&&lk F ls 0 es av)))):=by unfold tgB;rw[hE,dQ,QT,QT];rfl
 unfold tx;rw[hB];clear hB;simp only[go_sem,h7,s507,xS,<- wl];refine Bt bw' (by rfl) (.inl rfl) (P:=TK 7040640256 gg7 3 ws bh) (fun rR h1 h2=>aaN h1 aa bw') fun v ig hP=>?_;obtain⟨rfl,_,kc⟩:=hP;have bu':=(kc 7040705280 ae).trans bu;have b63:=(kc 7040064384 ae).trans aj9;rw[cw];have lo:S.lone 7041152128=false:=ah;cases q1:(((iS (pO ls es)).length:Int)==6) with
 |false=>
  have q1':(((iS (pO ls es)).length:Int)!=6)=true:=by simp only[bne,q1];rfl
  simp only[go_sem,q1'];rfl
 |true=>
  have q1':(((iS (pO ls es)).length:Int)!=6)=false:=by simp only[bne,q1];rfl
  simp only[go_sem,h8,q1',s507,xS,<- ul];refine Bt bu' (by rfl) (.inl rfl) (P:=TK 7040705280 gg8 3 us ig) (fun rR h1 h2=>aaN h1 aa bu') fun v jE hP=>?_;obtain⟨rfl,_,kd⟩:=hP;have yw:=(kd 7040064384 ae).trans b63;rw[cu];cases q2:(((iS (rK ls es)).length:Int)==3) with
  |false=>
   have K0:(((iS (rK ls es)).length:Int)!=3)=true:=by simp only[bne,q2];rfl
   simp only[go_sem,K0];rfl
  |true=>
   have K0:(((iS (rK ls es)).length:Int)!=3)=false:=by simp only[bne,q2];rfl
   cases q3:es.any (jt ls · true) with
   |false=>rw[q3] at h9;simp only[go_sem,h9,K0];rfl
   |true=>
    rw[q3] at h9;cases q4:es.any (jt ls · false) with
    |false=>rw[q4] at ff;simp only[go_sem,h9,ff,K0];rfl
    |true=>
     rw[q4] at ff;cases q5:lk F ls 0 es av with
     |false=>rw[q5] at pcn;simp only[go_sem,h0,h6,h9,ff,K0,yw,s135,dZ pcn,dI,XZ,ht3];rfl
     |true=>rw[q5] at pcn;simp only[go_sem,h0,h6,h9,ff,K0,yw,s135,dZ pcn,s141,dI,XZ,ht3];refine rX psw lo (.inr (qY (DZ _))) fun cc CO gc Fh=>?_;simp only[go_sem];rw[<- hE] at gc;exact yE gc
abbrev Xt:f_:=[.p .wT,.p (.fn 103 [] []),.p (.fn 104 [] []),.p (.fn 105 [] []),.p (.fn 106 [] []),.p (.fn 107 [] []),.p (.fn 108 [] []),.p (.fn 109 [] []),.p (.fn 110 [] []),.p (.fn 111 [] []),.p (.fn 111 [] [])]
def anM(k:Int):0<=(gZ k).1/\(gZ k).1<=4/\0<=(gZ k).2/\(gZ k).2<=2:=by
 unfold gZ;split
 .simp
 split
 .simp
 split<;>simp
def Mk(hlen:ls.length<=400)(eV:aq Let.aA ls<=200){k f:Nat}{rest:f_}(hk:Xt.drop k=.p (.fn f [] [])::rest)(jT:k<11)(Kj:S.shared f=false){a b c:Int}{l o:Bool}{sg:Int}{res:Option c_}(ha:aK S 80 [.one (.p (eU F ls)),lL k a b c l o sg] (rb true))(hm:aK S f [.one (.p (eU F ls)),lL k a b c l o sg] (kR res))(hL:∀L,res=some L->L.length<=1000000):
  aK S 54 [.one (.p (eU F ls)),lL k a b c l o sg] (sP F ls k res):=by
 have uA:=ac2 F;have pg:=adG k;have mf:S.lone 3456192384=false:=ah;have ti:S.lone 3456576128=false:=ah;have Kb:∀(aj:aB),land aj [] 3456192000 ((RV.agg [.p .wT,.p (.fn 103 [] []),.p (.fn 104 [] []),.p (.fn 105 [] []),.p (.fn 106 [] []),.p (.fn 107 [] []),.p (.fn 108 [] []),.p (.fn 109 [] []),.p (.fn 110 [] []),.p (.fn 111 [] []),.p (.fn 111 [] [])]).gJ (S.lone 3456192000))=some (.agg Xt,[]):=fun aj=>by cases S.lone 3456192000<;>rfl
 have bY:=fK ls;obtain⟨g1,g2,g3,g4⟩:=anM k;have lg:∀aj:aB,land aj [] 3456384128 ((RV.tup [.one (.p (.int .i64 (gZ k).1)),.one (.p (.int .i64 (gZ k).2))]).gJ (S.lone 3456384128))=some (.tup [.one (.p (.int .i64 (gZ k).1)),.one (.p (.int .i64 (gZ k).2))],[]):=fun aj=>iB;obtain⟨MK,ML,sX⟩:∃x y,gZ k=(x,y):=⟨_,_,rfl⟩;have d4:sP F ls k none=nJ 4:=rfl;have d7:∀L,((400:Int)<(ls.length:Int)+MK\/(100:Int)<((aq Let.aA ls/2:Nat):Int)+ML)->sP F ls k (some L)=nJ 7:=fun L h=>by unfold sP;rw[sX];exact aD h
 have d0:∀L,¬((400:Int)<(ls.length:Int)+MK\/(100:Int)<((aq Let.aA ls/2:Nat):Int)+ML)->sP F ls k (some L)=jy F (eL L):=fun L h=>by unfold sP;rw[sX];exact ay h
 rw[sX] at g1 g2 g3 g4 pg;simp only[sX] at lg;simp only at g1 g2 g3 g4 lg pg;have w1:IntKind.i64.wrap (((pieces ls).length:Int)+MK)=(ls.length:Int)+MK:=by rw[bY];exact uZ aa aa
 have w2:IntKind.i64.wrap (((aq Let.aA ls/2:Nat):Int)+ML)=((aq Let.aA ls/2:Nat):Int)+ML:=uZ aa aa;unfold kR at hm;generalize Xt=kg at hk Kb;refine bk c54 ?_;simp only[go_sem,i54,s80,dZ ha,s81,EK afw (Kb _),hk,jT,Kj];refine aa9 hm mf fun cc bU w gc hb hw=>?_;have b0:=hb 3456000000 ae;have b1:=hb 3456000064 ae;simp only[go_sem] at b0 b1;cases res with
 |none=>rw[d4];simp only[go_sem,b1];refine⟨?_,rfl⟩;rcases hw with rfl|rfl<;>kernel_rfl
 |some L=>
  simp only[nO] at gc;have pfin:=uA L (hL L rfl) (.sl (eo (pieces ls))) (.sl (tG (eS F ls))) (.sl (nP (pK F ls))) (.int .i64 (aq Let.aE ls:Nat)) (.int .i64 ((aq Let.aA ls/2:Nat):Int)) (.sl (nP (counts ls F)));obtain⟨rs,lJ,_⟩:=gc.fE;by_cases h1:(400:Int)<(ls.length:Int)+MK
  .rw[d7 L (.inl h1)];simp only[go_sem,b0,b1,s82,de pg (lg _),w1,h1];refine⟨?_,rfl⟩;rcases hw with rfl|rfl<;>kernel_rfl
  by_cases h2:(100:Int)<((aq Let.aA ls/2:Nat):Int)+ML
  .rw[d7 L (.inr h2)];simp only[go_sem,b0,b1,s82,de pg (lg _),w1,w2,h1,h2];refine⟨?_,rfl⟩;rcases hw with rfl|rfl<;>kernel_rfl
  rw[d0 L (by rintro (h|h);exact h1 h;exact h2 h)];simp only[go_sem,b0,s82,de pg (lg _),w1,w2,h1,h2,lJ,s83];refine⟨?_,?_⟩
  .rcases hw with rfl|rfl<;>kernel_rfl
  refine adv pfin ti rfl (DY _) fun c2 bh uw bj=>?_;have b02:=(bj 3456000064 ae).trans b1;simp only[go_sem,b02];exact Qi (uw.of_eq (aX ae))
def abp{k a b c:Int}{l o:Bool}{sg:Int}(ha:aK S 80 [.one (.p (eU F ls)),lL k a b c l o sg] (rb false)):aK S 54 [.one (.p (eU F ls)),lL k a b c l o sg] (nJ 2):=by refine bk c54 ?_;simp only[go_sem,i54,s80,dZ ha];try rfl
def qk(F:Nat)(ls:ai)(k:Int)(a b c:Nat)(l o:Bool)(sg:Int):Option c_:=if k=1 then ug ls a else if k=2 then amR F ls a b c else if k=3 then rS F ls a b else if k=4 then uM ls a else if k=5 then some (lmR ls a sg o) else if k=6 then uS F ls a b else if k=7 then pmR F ls a b l o else if k=8 then tx F ls a b c else if k=9 then trR F ls a else tlR ls a
def nU(F:Nat)(ls:ai)(k a b c:Int)(l o:Bool)(sg:Int):RV:=if di F ls k a b c l o sg then sP F ls k (qk F ls k a.toNat b.toNat c.toNat l o sg) else nJ 2
def ajC{k a b c:Int}{l o:Bool}{sg:Int}:(∃e,nU F ls k a b c l o sg=nJ e)\/ ∃L,nU F ls k a b c l o sg=jy F L:=by
 unfold nU;split
 .cases qk F ls k a.toNat b.toNat c.toNat l o sg with
  |none=>exact .inl ⟨4,rfl⟩
  |some L=>
   by_cases h:(400:Int)<(ls.length:Int)+(gZ k).1\/(100:Int)<((aq Let.aA ls/2:Nat):Int)+(gZ k).2
   .exact .inl ⟨7,aD h⟩
   exact .inr ⟨eL L,ay h⟩
 exact .inl ⟨2,rfl⟩
def ZV{k a b c:Int}{l o:Bool}{sg:Int}{res:RV}(po:aK S 32 [dY F ls] (uV (eU F ls) (.int .i64 0)))(hd:aK S 54 [.one (.p (eU F ls)),lL k a b c l o sg] res)(fin:(∃e,res=nJ e)\/ ∃L,res=jy F L):
  aK S 30 [dY F ls,lL k a b c l o sg] res:=by
 have lo:S.lone 1920256128=false:=ah;refine bk c30 ?_;rcases fin with ⟨e,rfl⟩|⟨L,rfl⟩
 .simp only[go_sem,i30,s32,de po iB,s54,de hd apL];rfl
 simp only[go_sem,i30,s32,de po iB,s54];refine Wk hd lo fun cc bU gc hb=>?_;have b4:=hb 1920000128 ae;simp only[go_sem] at b4;simp only[go_sem,b4];exact Qi (gc.of_eq (aX ae))
def oF{n:Nat}{i:Int}(h:jK n i=true):∃k:Nat,i=(k:Int)/\k<n:=by unfold jK at h;simp at h;exact⟨i.toNat,aa,aa⟩
def Xv(l:c_)(drop:Nat->Pc->Bool):(qK l drop).length<=l.length:=HR l drop l.length
def ahI(l:c_)(i:Nat)(g r:Int):(Sj l i g r).length=l.length:=by simp[Sj]
def af7{k:Int}{a b c:Nat}{l o:Bool}{sg:Int}{L:c_}(h:qk F ls k a b c l o sg=some L):L.length<=ls.length+4:=by
 have hp:=fK ls;unfold qk at h;repeat' split at h
 .unfold ug at h;simp only at h;split at h
  .cases h;have:=Xv (pieces ls) (fun k _=>decide (k=a)||decide (k=(a+1)%ls.length));simp only[kY,cM];omega
  cases h
 .unfold amR at h;split at h
  .cases h;simp only[Pd,QP,kY,cM,dC,fe];omega
  split at h
  .cases h;simp only[Pd,QP,kY,cM,dC,fe];omega
  cases h
 .unfold rS at h;split at h
  .cases h;simp only[w8,zu];omega
  cases h
 .unfold uM at h;simp only at h;split at h
  .cases h;have:=Xv (pieces ls) (vk [((pieces ls).getD a ⟨lX,false⟩).l.id]);simp only[Jv,cM];omega
  cases h
 .cases h;simp only[lmR,QP,dC,fe];omega
 .unfold uS at h;split at h
  .cases h;have:=Xv (pieces ls) (vk [(pA ls a).l.id,(pA ls (nx ls a)).l.id]);simp only[Jv,cM];omega
  cases h
 .have key:∀s t,pmV ls a b l o s t=some L->L.length<=ls.length+4:=fun s t h=>by
   unfold pmV at h;split at h
   .cases h
   simp only[gh] at h;subst h;have h2:∀x sg o s,(pmS x sg o s).length=2:=fun x sg o s=>by unfold pmS;split<;>rfl
   split<;>simp only[QP,h2,dC,fe]<;>omega
  unfold pmR at h;split at h
  .exact key _ _ h
  exact key _ _ h
 .unfold tx at h;split at h
  .cases h;simp only[w8];omega
  cases h
 .unfold trR at h;split at h
  .cases h;simp only[ahI,kY,cM];omega
  cases h
 unfold tlR at h;split at h
 .cases h;simp only[ahI,kY,cM];omega
 cases h
def Tg(F:Nat)(k a b c:Int)(l o:Bool)(sg:Int):RV:=if di F [] k a b c l o sg then jy F (EC b.toNat) else nJ 2
def Tl{k a b c:Int}{l o:Bool}{sg:Int}(h:di F [] k a b c l o sg=true):∃bv:Nat,k=2/\a=0/\b=(bv:Int)/\bv<=F/\c=0/\l=false/\o=false/\sg=0:=by
 have hi:∀i:Int,jK 0 i=false:=fun i=>by unfold jK;simp
 unfold di at h;by_cases h2:k=2
 .subst h2;simp only[if_true,fe,hi,Cw,cU,mj,dk,oO] at h;obtain⟨rfl,rfl,rfl,⟨_,rfl⟩,mu,hbF,hc0,uz⟩:=h;obtain⟨bv,rfl⟩:=tA mu;have:cg [] ((bv:Int).toNat)=0:=rfl;rw[this] at uz;exact⟨bv,rfl,rfl,rfl,aa,aa,rfl,rfl,rfl⟩
 simp[h2,hi] at h
def ajI(hF:F<=40)(k a b c:Int)(l o:Bool)(sg:Int):aK S 30 [dY F [],lL k a b c l o sg] (Tg F k a b c l o sg):=by
 unfold Tg;cases hA:di F [] k a b c l o sg with
 |false=>have pa:=ZW (F:=F) (ls:=[]) (a:=a) (b:=b) (c:=c) (l:=l) (o:=o) (sg:=sg) k;rw[hA] at pa;exact ZV (X9 hF) (abp pa) (.inl ⟨2,rfl⟩)
 |true=>obtain⟨bv,rfl,rfl,rfl,hb,rfl,rfl,rfl,rfl⟩:=Tl hA;exact ajG hF hb
abbrev lA(ls:ai)(i:Nat):Let:=ls.getD i lX
def afx{i:Nat}{l:Let}(h:ls[i]?=some l):lA ls i=l:=by rw[lA,dA,h];rfl
def wQ{i:Nat}(h:i<ls.length):ls[i]?=some (lA ls i):=by obtain⟨l,hl⟩:=aM h;rw[afx hl,hl]
def szL(l:ai):iI 6 (dG l)=true:=by simp[iI,Let.ps]
def ap8(a b:ai):dG (a++b)=dG a++dG b:=kZ
def aqa{L:ai}(h:L≠[]):dG L≠[]:=by simpa [dG] using h
def leq(a b:Let):Bool:=(a.kind==b.kind)&&((a.gate==b.gate)&&((a.aC==b.aC)&&((a.id==b.id)&&((a.sign==b.sign)&&(a.over==b.over)))))
def Mt(x y:Let):wy [true,true,true,true,true,false] [.p (.int .i64 x.kind),.p (.int .i64 x.gate),.p (.int .i64 x.aC),.p (.int .i64 x.id),.p (.int .i64 x.sign),.p (.bool x.over)] [.p (.int .i64 y.kind),.p (.int .i64 y.gate),.p (.int .i64 y.aC),.p (.int .i64 y.id),.p (.int .i64 y.sign),.p (.bool y.over)]=some (leq x y):=by
 have e:∀a b:Int,vl true (.int .i64 a) (.int .i64 b)=some (a==b):=fun a b=>by simp[vl]
 have e2:∀a b:Bool,vl false (.bool a) (.bool b)=some (a==b):=fun a b=>by simp[vl]
 simp only[wy,leq,e,e2];cases (x.kind==y.kind)<;>cases (x.gate==y.gate)<;>cases (x.aC==y.aC)<;>cases (x.id==y.id)<;>cases (x.sign==y.sign)<;>cases (x.over==y.over)<;>rfl
def FN(x:Let):leq x x=true:=by simp[leq]
def ahr(L:ai)(k:Nat)(hk:k<=L.length)(hl:L.length<=1000000):aK S 52 [.one (.p (cT L)),vi k] (.one (aU jL 6 (dG (L.drop k++L.take k)))):=by
 have hs6:=szL L;have An:List.take (L.length-k) (List.drop k (dG L))=dG (L.drop k):=by rw[iz af];simp[List.map_drop]
 have nA:List.take k (dG L)=dG (L.take k):=by simp[IG]
 rw[ap8];refine bk c52 ?_;simp only[go_sem,i52,hk,hs6,An];refine Bn (id:=3328064192) (bytes:=48) grown.nil (xs:=dG (L.drop k)) (rd:=[]) rfl (.inr (szL _)) (by simp;omega) fun c1 bU r w g1 dw hw=>?_;rw[fZ] at g1;simp only[go_sem,hk,hs6,nA];refine Bn (bytes:=48) g1 (xs:=dG (L.take k)) (rd:=[]) rfl (.inr (szL _)) (by simp;omega) fun c2 bh r2 w2 g2 bj hw2=>?_;simp only[go_sem];refine⟨?_,Ag g2⟩;rcases hw with ⟨rfl,rfl⟩|⟨rfl,rfl⟩|⟨rfl,rfl⟩<;>rcases hw2 with ⟨rfl,rfl⟩|⟨rfl,rfl⟩|⟨rfl,rfl⟩<;>kernel_rfl

def Et{S:Sys}{f:Nat}{fn:bd}{args:e_}{P:RV->Prop}(hp:S.prim f args=none)(hf:S.fns f=some fn)(hl:args.length<=fn.ntmps)
  (h:W S .all fn.body (nj .all fn.results fun v aj=>∃r,P r/\jd aj v=some r) (th args) AT):∃r,P r/\aK S f args r:=by
 obtain⟨n,v,ao,h1,r,h3,h2⟩:=SX h;refine⟨r,h3,n+1,?_⟩;rw[ij];simp only[hp,hf,hl,if_true];unfold F0;simp only[h1,h2]
def TE{l:ai}(aI:l≠[])(hl:l.length<=1000000):aK S 29 [.one (.p (cT l))] (.one (aU jL 6 (dG l))):=by
 have hs:((dG l).all fun e=>e.length==6)=true:=szL l;have hr:(0+(dG l).length)*48<=room:=by unfold room;rw[cM];omega
 show aK S _ [.one (.p (.sl (dG l)))] _;obtain⟨e0,es,hq⟩:∃e0 es,dG l=e0::es:=by cases l with
  |nil=>exact absurd rfl aI
  |cons a t=>exact⟨_,_,rfl⟩
 rw[hq] at hs hr |-;refine bk c29 ?_;have aI:e0::es≠[]:=af;have sX:aU jL 6 (e0::es)=.own jL 6 (e0::es):=ay aI;rw[sX];unfold room at hr;simp only[js,dC] at hr;simp only[mH] at hs;simp only[go_sem,i29,gI,iI];simp only[hs,hr,not_true_eq_false,if_true,if_false];simp only[go_sem];exact KU A7 rfl
abbrev mkE(M:u_):t_:=M.map fun e=>(PV.int .i64 e.1,[PV.int .i64 e.2])
def fiM:u_->Int->Nat->Option (Nat×Int)
 |[],_,_=>none
 |(a,v)::r,x,i=>if x==a then some (i,v) else fiM r x (i+1)
def acY(M:u_)(x:Int):∀i,qC (.int .i64 x) (mkE M) i=some ((fiM M x i).map fun p=>(p.1,[PV.int .i64 p.2])):=by
 induction M with
 |nil=>intro i;rfl
 |cons e M ih=>
  intro i;obtain⟨a,v⟩:=e;show qC (.int .i64 x) ((PV.int .i64 a,[PV.int .i64 v])::mkE M) i=_;unfold qC;have hs:sameKey (.int .i64 x) (.int .i64 a)=some (x==a):=by simp[sameKey]
  rw[hs];unfold fiM;cases (x==a) with
  |true=>rfl
  |false=>exact ih (i+1)
def af3(M:u_)(x v:Int):mkE M++[(PV.int .i64 x,[PV.int .i64 v])]=mkE (M++[(x,v)]):=af
def afJ(l:ai)(k:Nat)(p:Let):(dG l).set k p.ps=dG (l.set k p):=by simp[List.map_set]
def afG{e:b_}(h:e.length=6):∃x0 x1 x2 x3 x4 x5,e=[x0,x1,x2,x3,x4,x5]:=by
 match e,h with
 |[x0,x1,x2,x3,x4,x5],_=>exact⟨_,_,_,_,_,_,rfl⟩
def as5{al:Al}{aj:aB}{id:Nat}{es:s_}{c:C}(o:es=[]\/al.ok id=true)(hl:es.length<=1000000)(l6:∀e∈es,e.length=6/\ ∀v∈e,v.norm=v)(h:grown id ty 6 es (.one c) aj):
  ∃v ao,jm S 78 [.one c] al aj v ao/\Ik id ty 6 es c aj v ao:=by
 refine nT c78 (iA rfl) ?_;rcases h with ⟨rfl,h2⟩|⟨aI,g,h2,hC⟩
 .cases h2;have w0:IntKind.i64.wrap (((0:Nat):Int)-1)= -1:=ae;have hz:¬((0:Int)< -1):=ae;simp only[go_sem,i78,w0];refine dy (fun k ak ao=>k=0/\ak 2=vi 0/\ak 3=vi (-1)/\ao=aj) 0 0 (bR _) ?_ ?_
  .simp only[go_sem]
  rintro k ak ao _ ⟨rfl,h2,h3,rfl⟩
  simp only[go_sem,i78_l1,h2,h3,hz];exact⟨rfl,.inl ⟨rfl,rfl⟩,fun _ _=>rfl⟩
 cases h2;have o:=o.resolve_left aI;have w0:=zD (a:=es.length) aa;simp only[go_sem,i78,w0];refine dy (fun k ak ao=>ak 0=.one (.hsl id g 6 0 es.length)/\ak 2=vi k/\ak 3=vi ((es.length:Int)-1-(k:Int))/\ ∃fs,ao id=(g,some (.arr ty 6 fs))/\ya es fs k/\Kept (· =id) aj ao) 0 es.length (bG _) ?_ ?_
 .simp only[go_sem];refine⟨rfl,af,es,hC,ya.start es,Kept.refl _ _⟩
 rintro k ak ao hk ⟨h0,h2,h3,fs,hF,hI,dK⟩
 by_cases aw:k<es.length-1-k
 .have e1:((es.length:Int)-1-(k:Int))=((es.length-1-k:Nat):Int):=aa;rw[e1] at h3;have aL:((k:Int)<((es.length-1-k:Nat):Int)):=aa;have w1:=cS (n:=k) aa;have w2:IntKind.i64.wrap (((es.length-1-k:Nat):Int)-1)=((es.length:Int)-1-((k+1:Nat):Int)):=by
   rw[zD aa];omega
  obtain⟨a,ha⟩:=aM (show k<es.length by omega);obtain⟨b,hb⟩:=aM (show es.length-1-k<es.length by omega);obtain⟨fa,fb,xE⟩:=hI.step aw ha hb;obtain⟨la,na⟩:=l6 a (aV ha);obtain⟨lb,nb⟩:=l6 b (aV hb);obtain⟨x0,x1,x2,x3,x4,x5,rfl⟩:=afG la;obtain⟨y0,y1,y2,y3,y4,y5,rfl⟩:=afG lb;have NG:=na x0 af;have W1:=na x1 af;have aoH:=na x2 af;have aoI:=na x3 af;have aoJ:=na x4 af;have aoK:=na x5 af;have NH:=nb y0 af;have W2:=nb y1 af;have aoL:=nb y2 af;have aoM:=nb y3 af;have aoN:=nb y4 af;have aoO:=nb y5 af;have yV:=hI.len;have Hu:¬(k=es.length-1-k):=aa;have ad7:¬(es.length-1-k=k):=aa;have l1:k<fs.length:=aa;have l2:es.length-1-k<fs.length:=aa;have l3:k<es.length:=aa;have l4:es.length-1-k<es.length:=aa
  simp only[go_sem,i78_l1,h0,h2,h3,hF,aL,fa,fb,w1,w2,o,l1,l3,l4,Hu,NG,W1,aoH,aoI,aoJ,aoK,NH,W2,aoL,aoM,aoN,aoO,qT];refine⟨aJ,_,rfl,xE,?_⟩;exact(dK.dU rfl _).dU rfl _
 have aL:¬((k:Int)<(es.length:Int)-1-(k:Int)):=aa;simp only[go_sem,i78_l1,h2,h3,aL];refine⟨rfl,?_,dK⟩;rw[hI.done aw] at hF;exact .inr ⟨by simpa using aI,g,by rw[oL],hF⟩
def aqc(l:ai):∀e∈dG l,e.length=6/\ ∀v∈e,v.norm=v:=fun e he=>by obtain⟨x,_,rfl⟩:=dh.1 he;refine⟨rfl,fun v hv=>?_⟩;simp only[Let.ps,cD,fq,or_false] at hv;rcases hv with rfl|rfl|rfl|rfl|rfl|rfl<;>rfl
def aqb(l:ai):(dG l).reverse=dG l.reverse:=af
def XL{s:Nat}(h:s/64000000=27):S.lone s=true:=by show FO afN (s/64000000)=true;rw[h];kernel_rfl
def HT{aj:aB}{s:Nat}{L:ai}(aI:L≠[])(hs:S.lone s=true):land aj [] s ((RV.one (aU jL 6 (dG L))).gJ (S.lone s))=some (.one (.p (cT L)),[]):=by rw[hs,anK (aqa aI)];unfold land;rw[aD (.inl rfl)];rfl

abbrev ni:Prop:=aK S 29 [.one (.p (.sl []))] (.one (.p (.sl [])))
def revE{al:Al}{aj:aB}:∃v ao,jm S 78 [.one (.p (.sl []))] al aj v ao/\(v=.tup []/\ao=aj):=by
 refine nT c78 (iA rfl) ?_;have w0:IntKind.i64.wrap (((0:Nat):Int)-1)= -1:=ae;have hz:¬((0:Int)< -1):=ae;simp only[go_sem,i78,w0];refine dy (fun k ak ao=>k=0/\ak 2=vi 0/\ak 3=vi (-1)/\ao=aj) 0 0 (bR _) ?_ ?_
 .simp only[go_sem]
 rintro k ak ao _ ⟨rfl,h2,h3,rfl⟩
 simp only[go_sem,i78_l1,h2,h3,hz]
def XB{aj:aB}{s:Nat}{x:PV}{l:Bool}:land aj [] s ((RV.one (.p x)).gJ l)=some (.one (.p x),[]):=by cases l<;>rfl
def akb(bN:ni)(F:Int):aK S 50 [.one (.p (Aa F))] (.one (.p (.sl []))):=by
 refine bk c50 ?_;simp only[go_sem,i50,s29,de bN XB,s78];refine sR (P:=fun v ao=>v=.tup []/\ao=AT) Az revE ?_;rintro v ao ⟨rfl,rfl⟩
 simp only[go_sem];refine dy (fun k ak aj=>k=0/\ak 3=.one (.p (.sl []))/\ak 15=vi 0/\ak 16=vi 0) 0 0 (bR _) ?_ ?_
 .simp only[go_sem];rfl
 rintro k ak aj _ ⟨rfl,h3,mq,qE⟩
 have hz:¬((0:Int)<0):=ae;simp only[go_sem,i50_l1,i50_r2,h3,mq,qE,hz]
def arb(bN:ni)(F:Int):aK S 27 [.one (.p (Aa F))] (.agg [.p (.int .i64 F),.p .nils]):=by
 have pb:=akb bN F;refine bk c27 ?_;simp only[go_sem,i27,s50,EK pb XB];refine⟨aJ,?_⟩;refine dy (fun k ak aj=>ak 0=.one (.p (Aa F))/\ak 2=.one (.aZ 1728000000 1 0)/\ak 17=.one (.hsl 1728128448 1 1 0 2)/\ak 18=vi 2/\ak 19=vi k/\ak 3=.one (.p .nils)/\
  aj 1728000000=(1,some (.var [.p (.int .i64 0),.p .nils]))/\aj 1728128448=(1,some (.arr 22 1 [[.sl []],[.sl []]]))) 0 2 (bG _) ?_ ?_
 .simp only[go_sem];first|done|rfl|exact⟨rfl,rfl⟩
 rintro k ak aj hk ⟨h0,h2,jG,gG,iV,h3,b0,bB⟩
 by_cases aw:k<2
 .have WM:k=0\/k=1:=aa;have l02:((0:Nat):Int)<2:=ae;have l12:((1:Nat):Int)<2:=ae;have hz:¬((0:Int)<0):=ae;rcases WM with rfl|rfl
  .simp only[go_sem,i27_l3,jG,gG,iV,bB,l02];refine dy (fun i aF ao=>i=0/\ao=aj/\aF 0=ak 0/\aF 2=ak 2/\aF 17=ak 17/\aF 18=ak 18/\aF 19=ak 19/\aF 3=ak 3/\aF 24=vi 0/\aF 25=vi 0) 0 0 (bR _) ?_ ?_
   .simp only[go_sem];first|done|rfl|exact⟨rfl,rfl⟩
   rintro i aF ao _ ⟨rfl,rfl,e0,e2,Jw,Jx,e19,e3,e24,e25⟩
   simp only[go_sem,i27_l1,i27_r2,e0,e2,Jw,Jx,e19,e3,e24,e25,h0,h2,h3,jG,gG,iV,b0,bB,hz];first|done|rfl|exact⟨rfl,rfl⟩
  simp only[go_sem,i27_l3,jG,gG,iV,bB,l12];refine dy (fun i aF ao=>i=0/\ao=aj/\aF 0=ak 0/\aF 2=ak 2/\aF 17=ak 17/\aF 18=ak 18/\aF 19=ak 19/\aF 3=ak 3/\aF 24=vi 0/\aF 25=vi 0) 0 0 (bR _) ?_ ?_
  .simp only[go_sem];first|done|rfl|exact⟨rfl,rfl⟩
  rintro i aF ao _ ⟨rfl,rfl,e0,e2,Jw,Jx,e19,e3,e24,e25⟩
  simp only[go_sem,i27_l1,i27_r2,e0,e2,Jw,Jx,e19,e3,e24,e25,h0,h2,h3,jG,gG,iV,b0,bB,hz];first|done|rfl|exact⟨rfl,rfl⟩
 have:k=2:=aa;subst this;have l22:¬(((2:Nat):Int)<2):=ae;simp only[go_sem,i27_l3,i27_r4,h0,h2,h3,gG,iV,b0,l22];first|done|rfl|exact⟨rfl,rfl⟩
def ak3:ni:=⟨1,ah⟩
def apK{aj:aB}{s:Nat}{x c:PV}{l:Bool}:land aj [] s ((RV.agg [.p x,.p c]).gJ l)=some (.agg [.p x,.p c],[]):=by cases l<;>rfl
def ap4(x y:Let):leq x y=true↔x=y:=by
 constructor
 .intro h;unfold leq at h;simp only[cU,dk] at h;obtain⟨h1,h2,h3,h4,h5,h6⟩:=h;cases x;cases y;simp only at h1 h2 h3 h4 h5 h6;subst h1 h2 h3 h4 h5 h6;rfl
 rintro rfl;exact FN x
def aqj{A B:ai}(MS:A.length=B.length)(h:∀j,j<A.length->leq (lA A j) (lA B j)=true):A=B:=by
 apply Bb;intro j;by_cases hj:j<A.length
 .rw[wQ hj,wQ (ls:=B) (i:=j) aa,(ap4 _ _).1 (h j hj)]
 rw[qp aa,qp aa]
def amf(A B:ai)(hl:A.length<=1000000)(r8:B.length<=1000000):aK S 31 [.one (.p (cT A)),.one (.p (cT B))] (rb (decide (A=B))):=by
 by_cases MS:A.length=B.length
 .have Wr:((A.length:Int)==(B.length:Int))=true:=by rw[MS];simp
  generalize hr:decide (A=B)=r;refine bk c31 ?_;simp only[go_sem,i31,Wr,bne];refine dy (fun k ak aj=>ak 0=.one (.p (cT A))/\ak 1=.one (.p (cT B))/\ak 12=vi A.length/\ak 13=vi k/\ ∀j,j<k->leq (lA A j) (lA B j)=true) 0 A.length (bG _) ?_ ?_
  .simp only[go_sem];exact⟨rfl,fun j h=>absurd h (oN j)⟩
  rintro k ak aj hk ⟨h0,h1,jF,qD,hn⟩
  by_cases aw:k<A.length
  .have hx:=wQ aw;have hy:=wQ (ls:=B) (i:=k) aa;have jx:=iO hx;have FG:=iO hy;have aL:(k:Int)<(A.length:Int):=aa;have w1:=cS (n:=k) aa;have hlB:k<B.length:=aa;cases he:leq (lA A k) (lA B k) with
   |true=>
    have y7:∀j,j<k+1->leq (lA A j) (lA B j)=true:=fun j hj=>by
     rcases nN.1 hj with h|rfl
     .exact hn j h
     exact he
    simp only[go_sem,i31_l1,h0,h1,jF,qD,jx,FG,Let.ps,aL,aw,w1,Mt,he];exact⟨aJ,y7⟩
   |false=>
    have aI:A≠B:=fun e=>by subst e;rw[FN] at he;cases he
    rw[Eo aI] at hr;subst hr;simp only[go_sem,i31_l1,h0,h1,jF,qD,jx,FG,Let.ps,aL,Mt,he];exact aJ
  have:k=A.length:=aa;subst this;have he:A=B:=aqj MS hn;rw[Bg he] at hr;subst hr;simp only[go_sem,i31_l1,i31_r2,jF,qD,eI]
 have Wr:((A.length:Int)==(B.length:Int))=false:=by rw[lS];omega
 have aI:A≠B:=fun e=>MS (by rw[e]);rw[Eo aI];refine bk c31 ?_;simp only[go_sem,i31,Wr,bne]
def FM{aj:aB}{s:Nat}{x c e:PV}{l:Bool}:land aj [] s ((RV.tup [.agg [.p x,.p c],.one (.p e)]).gJ l)=some (.tup [.agg [.p x,.p c],.one (.p e)],[]):=by cases l<;>rfl

structure aP where
 k:Int
 a:Int
 b:Int
 c:Int
 l:Bool
 o:Bool
 s:Int
abbrev g_:=List aP
def aP.ps(m:aP):b_:=[.int .i64 m.k,.int .i64 m.a,.int .i64 m.b,.int .i64 m.c,.bool m.l,.bool m.o,.int .i64 m.s]
abbrev lW(ms:g_):PV:=.sl (ms.map aP.ps)
def HX{ms:g_}{k:Nat}{m:aP}(h:ms[k]?=some m):(ms.map aP.ps)[k]?=some m.ps:=by rw[fG,h];rfl
def EA(L:ai)(c:C)(aj:aB):Prop:=grown 512256128 jL 6 (dG L) (.one c) aj\/grown 512512129 jL 6 (dG L) (.one c) aj\/(L=[]/\c=.p (.sl []))
def EA.snap{L:ai}{c:C}{aj:aB}(h:EA L c aj):∃r,Go.Abs.snap aj fE c=some (cT L,r):=by
 rcases h with h|h|⟨rfl,rfl⟩
 .obtain⟨r,h1,_⟩:=h.fE;exact⟨r,h1⟩
 .obtain⟨r,h1,_⟩:=h.fE;exact⟨r,h1⟩
 exact⟨[],rfl⟩
def Wo{s1 t1 z1:Nat}{es:s_}{c:C}{x y z:PV}{aj:aB}(h:grown s1 t1 z1 es (.one c) aj):jd aj (.tup [.agg [.p x,c],.one (.p y),.one (.p z)])=some (.tup [.agg [.p x,aU t1 z1 es],.one (.p y),.one (.p z)]):=by obtain⟨c',o,hc,h2,h3⟩:=h.jM;cases hc;have e1:jM aj (.p x)=some (.p x,[],[]):=rfl;have e2:jM aj (.p y)=some (.p y,[],[]):=rfl;have e3:jM aj (.p z)=some (.p z,[],[]):=rfl;rcases h3 with rfl|rfl<;>simp[jd,tH,vn,oX,nG,h2,e1,e2,e3,apart,vN,tq,AZ]
def EA.of_eq{L:ai}{c:C}{aj ao:aB}(h:EA L c aj)(h1:ao 512256128=aj 512256128)(h2:ao 512512129=aj 512512129):EA L c ao:=by
 rcases h with h|h|h
 .exact .inl (h.of_eq h1)
 .exact .inr (.inl (h.of_eq h2))
 exact .inr (.inr h)
def afy{aj:aB}{rd:a_}{s:Nat}{e:Int}{l:Bool}:land aj rd s ((nJ e).gJ l)=some (.tup [.agg [.p (.int .i64 0),.p .nils],.one (.p (.int .i64 e))],[]):=by cases l<;>(unfold land;rw[aD (.inr rfl)];rfl)
def Yy(f:Int)(L:ai)(n:Int)(r:RV):Prop:=r=.tup [.agg [.p (.int .i64 f),aU jL 6 (dG L)],.one (.p (.int .i64 n)),.one (.p (.int .i64 0))]\/(L=[]/\r=.tup [.agg [.p (.int .i64 f),.p (.sl [])],.one (.p (.int .i64 n)),.one (.p (.int .i64 0))])
def ahl(r:RV):Prop:= ∃i e:Int,e≠0/\r=.tup [.agg [.p (.int .i64 0),.p .nils],.one (.p (.int .i64 i)),.one (.p (.int .i64 e))]
abbrev AS(m:aP):V:=lL m.k m.a m.b m.c m.l m.o m.s
section
variable {Q:dO} {ak:Env} {aj:aB} {os:h_} {d:w_}
end
def L9(s:Nat)(L:ai)(c:C)(aj:aB):Prop:=grown s jL 6 (dG L) (.one c) aj\/(L=[]/\c=.p (.sl []))
def L9.snap{s:Nat}{L:ai}{c:C}{aj:aB}(h:L9 s L c aj):∃r,Go.Abs.snap aj fE c=some (cT L,r):=by
 rcases h with h|⟨rfl,rfl⟩
 .obtain⟨r,h1,_⟩:=h.fE;exact⟨r,h1⟩
 exact⟨[],rfl⟩
def L9.of_eq{s:Nat}{L:ai}{c:C}{aj ao:aB}(h:L9 s L c aj)(h1:ao s=aj s):L9 s L c ao:=by
 rcases h with h|h
 .exact .inl (h.of_eq h1)
 exact .inr h
section
variable {Q:dO} {ak:Env} {aj:aB} {os:h_} {d:w_}
end
end
end Go.Abs
