/- A part. -/
import Derived.Test.YtonblbhhnelniaaGreatDoorWw
set_option linter.all false
set_option maxRecDepth 100000
set_option maxHeartbeats 16000000
namespace Go.Abs
section
variable{x:Int}{ls:List Let}{F ty:Nat}{ws:List Int}
section
attribute [local go_sem ↓] fm1 fm2
def bt(F:Nat)(ls:List Let)(k a b c:Int)(l o:Bool)(sg:Int):Bool:=
 if k=2 then !l&&(!o&&(sg==0&&((jo ls.length a||(ls.length==0&&a==0))&&(decide (0<=b)&&(decide (b<=(F:Int))&&(decide (0<=c)&&decide (c<=(cg ls b.toNat:Int))))))))
 else if k=3\/k=6 then !l&&(!o&&(sg==0&&(jo ls.length a&&(c==0&&(jo ls.length b&&decide (a<b))))))
 else if k=5 then !l&&((sg==1||sg== -1)&&(jo ls.length a&&(b==0&&c==0)))
 else if k=7 then sg==0&&(jo ls.length a&&(c==0&&(jo ls.length b&& !(a==b))))
 else if k=8 then !l&&(!o&&(sg==0&&(jo ls.length a&&(jo ls.length b&&(jo ls.length c&&(decide (a<b)&&decide (b<c)))))))
 else if k=1\/k=4\/k=9\/k=10 then !l&&(!o&&(sg==0&&(jo ls.length a&&(b==0&&c==0))))
 else false
theorem jK{i:Int}{x:Bool}(h:jo ls.length i=x):aI S 107 [vi i,.one (.p (.box [.int .i64 ls.length]))] (rb x):=h▸is_p i ls.length
theorem iY(h:¬x=0):(x==0)=false/\(x !=0)=true:=by simp[h]
theorem vX{y:Int}(h:¬x=y):(x==y)=false/\(x !=y)=true:=by simp[h]
section
variable {F:Nat} {ls:List Let} {a b c:Int} {l o:Bool} {sg:Int}
theorem ait:aI S 93 [.one (.p (eB F ls)),lL 1 a b c l o sg] (rb (bt F ls 1 a b c l o sg)):=by
 obtain⟨v,hv⟩:∃v,bt F ls 1 a b c l o sg=v:=⟨_,rfl⟩;rw[hv];refine aY c93 ?_;simp only[go_sem,i93,fi];refine eD [0,3,4,5,6,7,8,9,10,41] fun e1 eZ=>?_;simp only[go_sem] at eZ;cases l with
 |true=>
  obtain rfl:v=false:=by rw[<- hv];simp[bt]
  simp only[go_sem,eZ]
 |false=>
  simp only[go_sem,eZ];refine eD [0,3,4,5,6,7,8,9,10,53] fun e2 eJ=>?_;simp only[go_sem,eZ] at eJ;cases o with
  |true=>
   obtain rfl:v=false:=by rw[<- hv];simp[bt]
   simp only[go_sem,eJ]
  |false=>
   simp only[go_sem,eJ];refine eD [0,3,4,5,6,7,8,9,10,60] fun e3 eo=>?_;simp only[go_sem,eJ] at eo;by_cases hs:sg=0
   rotate_left
   .have gQ:=(iY hs).1;have eh:=(iY hs).2;obtain rfl:v=false:=by rw[<- hv];simp[bt,hs]
    simp only[go_sem,eo,eh]
   subst hs;cases hA:jo ls.length a with
   |false=>
    have pA:=jK hA;obtain rfl:v=false:=by rw[<- hv];simp[bt,hA]
    simp only[go_sem,s107,eo,cS pA]
   |true=>
    have pA:=jK hA;simp only[go_sem,s107,eo,cS pA];refine eD [3,4,6,7,9,133] fun e4 fK=>?_;simp only[go_sem,eo] at fK;by_cases hb:b=0
    rotate_left
    .have cU:=(iY hb).2;obtain rfl:v=false:=by rw[<- hv];simp[bt,hA,hb]
     simp only[go_sem,fK,cU]
    subst hb;simp only[go_sem,fK];refine eD [3,4,6,7,9,142] fun e5 jw=>?_;simp only[go_sem,fK] at jw;by_cases hc:c=0
    rotate_left
    .have fH:=(iY hc).2;obtain rfl:v=false:=by rw[<- hv];simp[bt,hA,hc]
     simp only[go_sem,jw,fH]
    subst hc;obtain rfl:v=true:=by rw[<- hv];simp[bt,hA]
    simp only[go_sem,jw]
theorem aiu:aI S 93 [.one (.p (eB F ls)),lL 2 a b c l o sg] (rb (bt F ls 2 a b c l o sg)):=by
 obtain⟨v,hv⟩:∃v,bt F ls 2 a b c l o sg=v:=⟨_,rfl⟩;rw[hv];refine aY c93 ?_;simp only[go_sem,i93,fi];refine eD [0,3,4,5,6,7,8,9,10,41] fun e1 eZ=>?_;simp only[go_sem] at eZ;cases l with
 |true=>
  obtain rfl:v=false:=by rw[<- hv];simp[bt]
  simp only[go_sem,eZ]
 |false=>
  simp only[go_sem,eZ];refine eD [0,3,4,5,6,7,8,9,10,53] fun e2 eJ=>?_;simp only[go_sem,eZ] at eJ;cases o with
  |true=>
   obtain rfl:v=false:=by rw[<- hv];simp[bt]
   simp only[go_sem,eJ]
  |false=>
   simp only[go_sem,eJ];refine eD [0,3,4,5,6,7,8,9,10,60] fun e3 eo=>?_;simp only[go_sem,eJ] at eo;by_cases hs:sg=0
   rotate_left
   .have gQ:=(iY hs).1;have eh:=(iY hs).2;obtain rfl:v=false:=by rw[<- hv];simp[bt,hs]
    simp only[go_sem,eo,eh]
   subst hs;cases hA:jo ls.length a with
   |true=>
    have pA:=jK hA;simp only[go_sem,s107,eo,tu pA];refine uU [0,3,4,6,7,9,92] fun e4 fK=>?_;simp only[go_sem,eo] at fK;by_cases sG:0<=b
    rotate_left
    .obtain rfl:v=false:=by rw[<- hv];simp[bt,hA,sG]
     simp only[go_sem,fK,sG];exact aH
    simp only[go_sem,fK,sG];refine uU [0,3,4,6,7,9,101] fun e5 jw=>?_;simp only[go_sem,fK] at jw;by_cases ux:b<=(F:Int)
    rotate_left
    .obtain rfl:v=false:=by rw[<- hv];simp[bt,hA,sG,ux]
     simp only[go_sem,jw,ux];exact aH
    obtain⟨B,rfl⟩:=r8 sG;have hBF:B<=F:=aa;have wv:=kQ (Oq (ls:=ls) hBF);have h5:B<F+1:=aa;have h6:(counts ls F).length=F+1:=by simp[counts]
    simp only[go_sem,jw,ux];refine uU [0,3,4,6,7,9,106] fun e6 El=>?_;simp only[go_sem,jw] at El;by_cases v8:0<=c
    rotate_left
    .obtain rfl:v=false:=by rw[<- hv];simp[bt,hA,sG,ux,v8]
     simp only[go_sem,El,v8];exact aH
    by_cases Cm:c<=(cg ls B:Int)
    rotate_left
    .obtain rfl:v=false:=by rw[<- hv];simp[bt,hA,sG,ux,v8,Cm]
     simp only[go_sem,wv,El,v8,Cm];exact aH
    obtain rfl:v=true:=by rw[<- hv];simp[bt,hA,sG,ux,v8,Cm]
    simp only[go_sem,wv,El,v8,Cm];exact aH
   |false=>
    have pA:=jK hA;by_cases hn:ls.length=0
    rotate_left
    .have vc:((ls.length:Int)==0)=false:=beq_false_of_ne aa;have Mt:ls≠[]:=fun h=>hn (by rw[h];rfl);obtain rfl:v=false:=by rw[<- hv];simp[bt,hA,hn]
     simp only[go_sem,s107,eo,tu pA,vc];exact aH
    have vc:((ls.length:Int)==0)=true:=by rw[hn];rfl
    have Mt:=uL.mp hn;by_cases ha:a=0
    rotate_left
    .have ha1:=(iY ha).1;obtain rfl:v=false:=by rw[<- hv];simp[bt,Mt,ha,show jo 0 a=false by rw[<- hn];exact hA]
     simp only[go_sem,s107,eo,tu pA,vc,ha1];exact aH
    subst ha;simp only[go_sem,s107,eo,tu pA,vc];refine uU [0,3,4,6,7,9,92] fun e7 hh7=>?_;simp only[go_sem,eo] at hh7;by_cases sG:0<=b
    rotate_left
    .obtain rfl:v=false:=by rw[<- hv];simp[bt,hn,sG]
     simp only[go_sem,hh7,sG];exact aH
    simp only[go_sem,hh7,sG];refine uU [0,3,4,6,7,9,101] fun e8 hh8=>?_;simp only[go_sem,hh7] at hh8;by_cases ux:b<=(F:Int)
    rotate_left
    .obtain rfl:v=false:=by rw[<- hv];simp[bt,hn,sG,ux]
     simp only[go_sem,hh8,ux];exact aH
    obtain⟨B,rfl⟩:=r8 sG;have hBF:B<=F:=aa;have wv:=kQ (Oq (ls:=ls) hBF);have h5:B<F+1:=aa;have h6:(counts ls F).length=F+1:=by simp[counts]
    simp only[go_sem,hh8,ux];refine uU [0,3,4,6,7,9,106] fun e9 hh9=>?_;simp only[go_sem,hh8] at hh9;by_cases v8:0<=c
    rotate_left
    .obtain rfl:v=false:=by rw[<- hv];simp[bt,hn,sG,ux,v8]
     simp only[go_sem,hh9,v8];exact aH
    by_cases Cm:c<=(cg ls B:Int)
    rotate_left
    .obtain rfl:v=false:=by rw[<- hv];simp[bt,hn,sG,ux,v8,Cm]
     simp only[go_sem,wv,hh9,v8,Cm];exact aH
    obtain rfl:v=true:=by rw[<- hv];simp[bt,hn,sG,ux,v8,Cm]
    simp only[go_sem,wv,hh9,v8,Cm];exact aH
theorem aiv:aI S 93 [.one (.p (eB F ls)),lL 3 a b c l o sg] (rb (bt F ls 3 a b c l o sg)):=by
 obtain⟨v,hv⟩:∃v,bt F ls 3 a b c l o sg=v:=⟨_,rfl⟩;rw[hv];refine aY c93 ?_;simp only[go_sem,i93,fi];refine eD [0,3,4,5,6,7,8,9,10,41] fun e1 eZ=>?_;simp only[go_sem] at eZ;cases l with
 |true=>
  obtain rfl:v=false:=by rw[<- hv];simp[bt]
  simp only[go_sem,eZ]
 |false=>
  simp only[go_sem,eZ];refine eD [0,3,4,5,6,7,8,9,10,53] fun e2 eJ=>?_;simp only[go_sem,eZ] at eJ;cases o with
  |true=>
   obtain rfl:v=false:=by rw[<- hv];simp[bt]
   simp only[go_sem,eJ]
  |false=>
   simp only[go_sem,eJ];refine eD [0,3,4,5,6,7,8,9,10,60] fun e3 eo=>?_;simp only[go_sem,eJ] at eo;by_cases hs:sg=0
   rotate_left
   .have gQ:=(iY hs).1;have eh:=(iY hs).2;obtain rfl:v=false:=by rw[<- hv];simp[bt,hs]
    simp only[go_sem,eo,eh]
   subst hs;cases hA:jo ls.length a with
   |false=>
    have pA:=jK hA;obtain rfl:v=false:=by rw[<- hv];simp[bt,hA]
    simp only[go_sem,s107,eo,cS pA]
   |true=>
    have pA:=jK hA;simp only[go_sem,s107,eo,cS pA];refine eD [3,4,6,7,9,142] fun e4 fK=>?_;simp only[go_sem,eo] at fK;by_cases hc:c=0
    rotate_left
    .have fH:=(iY hc).2;obtain rfl:v=false:=by rw[<- hv];simp[bt,hA,hc]
     simp only[go_sem,fK,fH]
    subst hc;cases hB:jo ls.length b with
    |false=>
     have pB:=jK hB;obtain rfl:v=false:=by rw[<- hv];simp[bt,hA,hB]
     simp only[go_sem,s107,fK,cS pB]
    |true=>
     have pB:=jK hB;simp only[go_sem,s107,fK,cS pB];refine eD [3,4,7,172,178] fun e5 jw=>?_;simp only[go_sem,fK] at jw;by_cases hl:a<b
     rotate_left
     .obtain rfl:v=false:=by rw[<- hv];simp[bt,hA,hB,hl]
      simp only[go_sem,jw,hl]
     obtain rfl:v=true:=by rw[<- hv];simp[bt,hA,hB,hl]
     simp only[go_sem,jw,hl]
theorem aiw:aI S 93 [.one (.p (eB F ls)),lL 4 a b c l o sg] (rb (bt F ls 4 a b c l o sg)):=by
 obtain⟨v,hv⟩:∃v,bt F ls 4 a b c l o sg=v:=⟨_,rfl⟩;rw[hv];refine aY c93 ?_;simp only[go_sem,i93,fi];refine eD [0,3,4,5,6,7,8,9,10,41] fun e1 eZ=>?_;simp only[go_sem] at eZ;cases l with
 |true=>
  obtain rfl:v=false:=by rw[<- hv];simp[bt]
  simp only[go_sem,eZ]
 |false=>
  simp only[go_sem,eZ];refine eD [0,3,4,5,6,7,8,9,10,53] fun e2 eJ=>?_;simp only[go_sem,eZ] at eJ;cases o with
  |true=>
   obtain rfl:v=false:=by rw[<- hv];simp[bt]
   simp only[go_sem,eJ]
  |false=>
   simp only[go_sem,eJ];refine eD [0,3,4,5,6,7,8,9,10,60] fun e3 eo=>?_;simp only[go_sem,eJ] at eo;by_cases hs:sg=0
   rotate_left
   .have gQ:=(iY hs).1;have eh:=(iY hs).2;obtain rfl:v=false:=by rw[<- hv];simp[bt,hs]
    simp only[go_sem,eo,eh]
   subst hs;cases hA:jo ls.length a with
   |false=>
    have pA:=jK hA;obtain rfl:v=false:=by rw[<- hv];simp[bt,hA]
    simp only[go_sem,s107,eo,cS pA]
   |true=>
    have pA:=jK hA;simp only[go_sem,s107,eo,cS pA];refine eD [3,4,6,7,9,133] fun e4 fK=>?_;simp only[go_sem,eo] at fK;by_cases hb:b=0
    rotate_left
    .have cU:=(iY hb).2;obtain rfl:v=false:=by rw[<- hv];simp[bt,hA,hb]
     simp only[go_sem,fK,cU]
    subst hb;simp only[go_sem,fK];refine eD [3,4,6,7,9,142] fun e5 jw=>?_;simp only[go_sem,fK] at jw;by_cases hc:c=0
    rotate_left
    .have fH:=(iY hc).2;obtain rfl:v=false:=by rw[<- hv];simp[bt,hA,hc]
     simp only[go_sem,jw,fH]
    subst hc;obtain rfl:v=true:=by rw[<- hv];simp[bt,hA]
    simp only[go_sem,jw]
theorem aix:aI S 93 [.one (.p (eB F ls)),lL 5 a b c l o sg] (rb (bt F ls 5 a b c l o sg)):=by
 obtain⟨v,hv⟩:∃v,bt F ls 5 a b c l o sg=v:=⟨_,rfl⟩;rw[hv];refine aY c93 ?_;simp only[go_sem,i93,fi];refine eD [0,3,4,5,6,7,8,9,10,41] fun e1 eZ=>?_;simp only[go_sem] at eZ;cases l with
 |true=>
  obtain rfl:v=false:=by rw[<- hv];simp[bt]
  simp only[go_sem,eZ]
 |false=>
  simp only[go_sem,eZ];refine eD [0,3,4,5,6,7,8,9,10,60] fun e2 eJ=>?_;simp only[go_sem,eZ] at eJ;by_cases q0:sg=0
  .subst q0;obtain rfl:v=false:=by rw[<- hv];simp[bt]
   simp only[go_sem,eJ]
  by_cases q1:sg=1
  rotate_left;by_cases q2:sg= -1
  rotate_left
  .have Lq:=(iY q0).2;have dK:=(vX q1).2;have kY:=(vX q2).2;obtain rfl:v=false:=by rw[<- hv];simp[bt,q1,q2]
   simp only[go_sem,eJ,Lq,dK,kY]
  .subst q1;cases hA:jo ls.length a with
   |false=>
    have pA:=jK hA;obtain rfl:v=false:=by rw[<- hv];simp[bt,hA]
    simp only[go_sem,s107,eJ,cS pA]
   |true=>
    have pA:=jK hA;simp only[go_sem,s107,eJ,cS pA];refine eD [3,4,6,7,9,133] fun e3 eo=>?_;simp only[go_sem,eJ] at eo;by_cases hb:b=0
    rotate_left
    .have cU:=(iY hb).2;obtain rfl:v=false:=by rw[<- hv];simp[bt,hA,hb]
     simp only[go_sem,eo,cU]
    subst hb;simp only[go_sem,eo];refine eD [3,4,6,7,9,142] fun e4 fK=>?_;simp only[go_sem,eo] at fK;by_cases hc:c=0
    rotate_left
    .have fH:=(iY hc).2;obtain rfl:v=false:=by rw[<- hv];simp[bt,hA,hc]
     simp only[go_sem,fK,fH]
    subst hc;obtain rfl:v=true:=by rw[<- hv];simp[bt,hA]
    simp only[go_sem,fK]
  subst q2;cases hA:jo ls.length a with
  |false=>
   have pA:=jK hA;obtain rfl:v=false:=by rw[<- hv];simp[bt,hA]
   simp only[go_sem,s107,eJ,cS pA]
  |true=>
   have pA:=jK hA;simp only[go_sem,s107,eJ,cS pA];refine eD [3,4,6,7,9,133] fun e5 jw=>?_;simp only[go_sem,eJ] at jw;by_cases hb:b=0
   rotate_left
   .have cU:=(iY hb).2;obtain rfl:v=false:=by rw[<- hv];simp[bt,hA,hb]
    simp only[go_sem,jw,cU]
   subst hb;simp only[go_sem,jw];refine eD [3,4,6,7,9,142] fun e6 El=>?_;simp only[go_sem,jw] at El;by_cases hc:c=0
   rotate_left
   .have fH:=(iY hc).2;obtain rfl:v=false:=by rw[<- hv];simp[bt,hA,hc]
    simp only[go_sem,El,fH]
   subst hc;obtain rfl:v=true:=by rw[<- hv];simp[bt,hA]
   simp only[go_sem,El]
end
end
section
attribute [local go_sem ↓] fm1 fm2
section
variable {F:Nat} {ls:List Let} {a b c:Int} {l o:Bool} {sg:Int}
theorem aiy:aI S 93 [.one (.p (eB F ls)),lL 6 a b c l o sg] (rb (bt F ls 6 a b c l o sg)):=by
 obtain⟨v,hv⟩:∃v,bt F ls 6 a b c l o sg=v:=⟨_,rfl⟩;rw[hv];refine aY c93 ?_;simp only[go_sem,i93,fi];refine eD [0,3,4,5,6,7,8,9,10,41] fun e1 eZ=>?_;simp only[go_sem] at eZ;cases l with
 |true=>
  obtain rfl:v=false:=by rw[<- hv];simp[bt]
  simp only[go_sem,eZ]
 |false=>
  simp only[go_sem,eZ];refine eD [0,3,4,5,6,7,8,9,10,53] fun e2 eJ=>?_;simp only[go_sem,eZ] at eJ;cases o with
  |true=>
   obtain rfl:v=false:=by rw[<- hv];simp[bt]
   simp only[go_sem,eJ]
  |false=>
   simp only[go_sem,eJ];refine eD [0,3,4,5,6,7,8,9,10,60] fun e3 eo=>?_;simp only[go_sem,eJ] at eo;by_cases hs:sg=0
   rotate_left
   .have gQ:=(iY hs).1;have eh:=(iY hs).2;obtain rfl:v=false:=by rw[<- hv];simp[bt,hs]
    simp only[go_sem,eo,eh]
   subst hs;cases hA:jo ls.length a with
   |false=>
    have pA:=jK hA;obtain rfl:v=false:=by rw[<- hv];simp[bt,hA]
    simp only[go_sem,s107,eo,cS pA]
   |true=>
    have pA:=jK hA;simp only[go_sem,s107,eo,cS pA];refine eD [3,4,6,7,9,142] fun e4 fK=>?_;simp only[go_sem,eo] at fK;by_cases hc:c=0
    rotate_left
    .have fH:=(iY hc).2;obtain rfl:v=false:=by rw[<- hv];simp[bt,hA,hc]
     simp only[go_sem,fK,fH]
    subst hc;cases hB:jo ls.length b with
    |false=>
     have pB:=jK hB;obtain rfl:v=false:=by rw[<- hv];simp[bt,hA,hB]
     simp only[go_sem,s107,fK,cS pB]
    |true=>
     have pB:=jK hB;simp only[go_sem,s107,fK,cS pB];refine eD [3,4,7,172,178] fun e5 jw=>?_;simp only[go_sem,fK] at jw;by_cases hl:a<b
     rotate_left
     .obtain rfl:v=false:=by rw[<- hv];simp[bt,hA,hB,hl]
      simp only[go_sem,jw,hl]
     obtain rfl:v=true:=by rw[<- hv];simp[bt,hA,hB,hl]
     simp only[go_sem,jw,hl]
theorem aiz:aI S 93 [.one (.p (eB F ls)),lL 7 a b c l o sg] (rb (bt F ls 7 a b c l o sg)):=by
 obtain⟨v,hv⟩:∃v,bt F ls 7 a b c l o sg=v:=⟨_,rfl⟩;rw[hv];refine aY c93 ?_;simp only[go_sem,i93,fi];refine eD [0,3,4,5,6,7,8,9,10,60] fun e1 eZ=>?_;simp only[go_sem] at eZ;by_cases hs:sg=0
 rotate_left
 .have gQ:=(iY hs).1;have eh:=(iY hs).2;obtain rfl:v=false:=by rw[<- hv];simp[bt,hs]
  simp only[go_sem,eZ,eh]
 subst hs;cases hA:jo ls.length a with
 |false=>
  have pA:=jK hA;obtain rfl:v=false:=by rw[<- hv];simp[bt,hA]
  simp only[go_sem,s107,eZ,cS pA]
 |true=>
  have pA:=jK hA;simp only[go_sem,s107,eZ,cS pA];refine eD [3,4,6,7,9,142] fun e2 eJ=>?_;simp only[go_sem,eZ] at eJ;by_cases hc:c=0
  rotate_left
  .have fH:=(iY hc).2;obtain rfl:v=false:=by rw[<- hv];simp[bt,hA,hc]
   simp only[go_sem,eJ,fH]
  subst hc;cases hB:jo ls.length b with
  |false=>
   have pB:=jK hB;obtain rfl:v=false:=by rw[<- hv];simp[bt,hA,hB]
   simp only[go_sem,s107,eJ,cS pB]
  |true=>
   have pB:=jK hB;simp only[go_sem,s107,eJ,cS pB];by_cases hn:a=b
   .subst hn;obtain rfl:v=false:=by rw[<- hv];simp[bt,hA]
    simp only[go_sem]
   have xV:=(vX hn).2;obtain rfl:v=true:=by rw[<- hv];simp[bt,hA,hB,hn]
   simp only[go_sem,xV]
theorem aiA:aI S 93 [.one (.p (eB F ls)),lL 8 a b c l o sg] (rb (bt F ls 8 a b c l o sg)):=by
 obtain⟨v,hv⟩:∃v,bt F ls 8 a b c l o sg=v:=⟨_,rfl⟩;rw[hv];refine aY c93 ?_;simp only[go_sem,i93,fi];refine eD [0,3,4,5,6,7,8,9,10,41] fun e1 eZ=>?_;simp only[go_sem] at eZ;cases l with
 |true=>
  obtain rfl:v=false:=by rw[<- hv];simp[bt]
  simp only[go_sem,eZ]
 |false=>
  simp only[go_sem,eZ];refine eD [0,3,4,5,6,7,8,9,10,53] fun e2 eJ=>?_;simp only[go_sem,eZ] at eJ;cases o with
  |true=>
   obtain rfl:v=false:=by rw[<- hv];simp[bt]
   simp only[go_sem,eJ]
  |false=>
   simp only[go_sem,eJ];refine eD [0,3,4,5,6,7,8,9,10,60] fun e3 eo=>?_;simp only[go_sem,eJ] at eo;by_cases hs:sg=0
   rotate_left
   .have gQ:=(iY hs).1;have eh:=(iY hs).2;obtain rfl:v=false:=by rw[<- hv];simp[bt,hs]
    simp only[go_sem,eo,eh]
   subst hs;cases hA:jo ls.length a with
   |false=>
    have pA:=jK hA;obtain rfl:v=false:=by rw[<- hv];simp[bt,hA]
    simp only[go_sem,s107,eo,cS pA]
   |true=>
    have pA:=jK hA;simp only[go_sem,s107,eo,cS pA];cases hB:jo ls.length b with
    |false=>
     have pB:=jK hB;obtain rfl:v=false:=by rw[<- hv];simp[bt,hA,hB]
     simp only[go_sem,eo,cS pB]
    |true=>
     have pB:=jK hB;cases hD:jo ls.length c with
     |false=>
      have pD:=jK hD;obtain rfl:v=false:=by rw[<- hv];simp[bt,hA,hB,hD]
      simp only[go_sem,s107,eo,cS pB,cS pD]
     |true=>
      have pD:=jK hD;simp only[go_sem,s107,eo,cS pB,cS pD];refine eD [3,4,7,172,178] fun e4 fK=>?_;simp only[go_sem,eo] at fK;by_cases hl:a<b
      rotate_left
      .obtain rfl:v=false:=by rw[<- hv];simp[bt,hA,hB,hD,hl]
       simp only[go_sem,fK,hl]
      by_cases hm:b<c
      rotate_left
      .obtain rfl:v=false:=by rw[<- hv];simp[bt,hA,hB,hD,hl,hm]
       simp only[go_sem,fK,hl,hm]
      obtain rfl:v=true:=by rw[<- hv];simp[bt,hA,hB,hD,hl,hm]
      simp only[go_sem,fK,hl,hm]
theorem aiB:aI S 93 [.one (.p (eB F ls)),lL 9 a b c l o sg] (rb (bt F ls 9 a b c l o sg)):=by
 obtain⟨v,hv⟩:∃v,bt F ls 9 a b c l o sg=v:=⟨_,rfl⟩;rw[hv];refine aY c93 ?_;simp only[go_sem,i93,fi];refine eD [0,3,4,5,6,7,8,9,10,41] fun e1 eZ=>?_;simp only[go_sem] at eZ;cases l with
 |true=>
  obtain rfl:v=false:=by rw[<- hv];simp[bt]
  simp only[go_sem,eZ]
 |false=>
  simp only[go_sem,eZ];refine eD [0,3,4,5,6,7,8,9,10,53] fun e2 eJ=>?_;simp only[go_sem,eZ] at eJ;cases o with
  |true=>
   obtain rfl:v=false:=by rw[<- hv];simp[bt]
   simp only[go_sem,eJ]
  |false=>
   simp only[go_sem,eJ];refine eD [0,3,4,5,6,7,8,9,10,60] fun e3 eo=>?_;simp only[go_sem,eJ] at eo;by_cases hs:sg=0
   rotate_left
   .have gQ:=(iY hs).1;have eh:=(iY hs).2;obtain rfl:v=false:=by rw[<- hv];simp[bt,hs]
    simp only[go_sem,eo,eh]
   subst hs;cases hA:jo ls.length a with
   |false=>
    have pA:=jK hA;obtain rfl:v=false:=by rw[<- hv];simp[bt,hA]
    simp only[go_sem,s107,eo,cS pA]
   |true=>
    have pA:=jK hA;simp only[go_sem,s107,eo,cS pA];refine eD [3,4,6,7,9,133] fun e4 fK=>?_;simp only[go_sem,eo] at fK;by_cases hb:b=0
    rotate_left
    .have cU:=(iY hb).2;obtain rfl:v=false:=by rw[<- hv];simp[bt,hA,hb]
     simp only[go_sem,fK,cU]
    subst hb;simp only[go_sem,fK];refine eD [3,4,6,7,9,142] fun e5 jw=>?_;simp only[go_sem,fK] at jw;by_cases hc:c=0
    rotate_left
    .have fH:=(iY hc).2;obtain rfl:v=false:=by rw[<- hv];simp[bt,hA,hc]
     simp only[go_sem,jw,fH]
    subst hc;obtain rfl:v=true:=by rw[<- hv];simp[bt,hA]
    simp only[go_sem,jw]
theorem ais:aI S 93 [.one (.p (eB F ls)),lL 10 a b c l o sg] (rb (bt F ls 10 a b c l o sg)):=by
 obtain⟨v,hv⟩:∃v,bt F ls 10 a b c l o sg=v:=⟨_,rfl⟩;rw[hv];refine aY c93 ?_;simp only[go_sem,i93,fi];refine eD [0,3,4,5,6,7,8,9,10,41] fun e1 eZ=>?_;simp only[go_sem] at eZ;cases l with
 |true=>
  obtain rfl:v=false:=by rw[<- hv];simp[bt]
  simp only[go_sem,eZ]
 |false=>
  simp only[go_sem,eZ];refine eD [0,3,4,5,6,7,8,9,10,53] fun e2 eJ=>?_;simp only[go_sem,eZ] at eJ;cases o with
  |true=>
   obtain rfl:v=false:=by rw[<- hv];simp[bt]
   simp only[go_sem,eJ]
  |false=>
   simp only[go_sem,eJ];refine eD [0,3,4,5,6,7,8,9,10,60] fun e3 eo=>?_;simp only[go_sem,eJ] at eo;by_cases hs:sg=0
   rotate_left
   .have gQ:=(iY hs).1;have eh:=(iY hs).2;obtain rfl:v=false:=by rw[<- hv];simp[bt,hs]
    simp only[go_sem,eo,eh]
   subst hs;cases hA:jo ls.length a with
   |false=>
    have pA:=jK hA;obtain rfl:v=false:=by rw[<- hv];simp[bt,hA]
    simp only[go_sem,s107,eo,cS pA]
   |true=>
    have pA:=jK hA;simp only[go_sem,s107,eo,cS pA];refine eD [3,4,6,7,9,133] fun e4 fK=>?_;simp only[go_sem,eo] at fK;by_cases hb:b=0
    rotate_left
    .have cU:=(iY hb).2;obtain rfl:v=false:=by rw[<- hv];simp[bt,hA,hb]
     simp only[go_sem,fK,cU]
    subst hb;simp only[go_sem,fK];refine eD [3,4,6,7,9,142] fun e5 jw=>?_;simp only[go_sem,fK] at jw;by_cases hc:c=0
    rotate_left
    .have fH:=(iY hc).2;obtain rfl:v=false:=by rw[<- hv];simp[bt,hA,hc]
     simp only[go_sem,jw,fH]
    subst hc;obtain rfl:v=true:=by rw[<- hv];simp[bt,hA]
    simp only[go_sem,jw]
theorem air(k:Int):aI S 93 [.one (.p (eB F ls)),lL k a b c l o sg] (rb (bt F ls k a b c l o sg)):=by
 by_cases h1:k=1
 .subst h1;exact ait
 by_cases h2:k=2
 .subst h2;exact aiu
 by_cases h3:k=3
 .subst h3;exact aiv
 by_cases h4:k=4
 .subst h4;exact aiw
 by_cases h5:k=5
 .subst h5;exact aix
 by_cases h6:k=6
 .subst h6;exact aiy
 by_cases h7:k=7
 .subst h7;exact aiz
 by_cases h8:k=8
 .subst h8;exact aiA
 by_cases h9:k=9
 .subst h9;exact aiB
 by_cases dF:k=10
 .subst dF;exact ais
 rw[show bt F ls k a b c l o sg=false by simp[bt,h1,h2,h3,h4,h5,h6,h7,h8,h9,dF]];have e1:=(vX h1).1;have e2:=(vX h2).1;have e3:=(vX h3).1;have e4:=(vX h4).1;have e5:=(vX h5).1;have e6:=(vX h6).1;have e7:=(vX h7).1;have e8:=(vX h8).1;have e9:=(vX h9).1;have qJ:=(vX dF).1;refine aY c93 ?_;simp only[go_sem,i93,fi,e1,e2,e3,e4,e5,e6,e7,e8,e9,qJ]
end
end
structure Swo {α:Type} (lt:α->α->Bool):Prop where
 asym:∀a b,lt a b=true->lt b a=false
 ntrans:∀a b c,lt b a=false->lt c b=false->lt c a=false
def vM{α:Type}(lt:α->α->Bool)(ws:List α)(a b:Nat):Prop:=∀p q x y,a<=p->p<q->q<b->ws[p]?=some x->ws[q]?=some y->lt y x=false
structure yI {α:Type} (lt:α->α->Bool) (zs ws:List α) (x:α) (a i j:Nat):Prop where
 perm:ws.Perm zs
 le:a<=j/\j<=i/\i<ws.length
 at':ws[j]?=some x
 up:∀p y,j<p->p<=i->ws[p]?=some y->lt x y=true
 so:∀p q y z,a<=p->p<q->q<=i->p≠j->q≠j->ws[p]?=some y->ws[q]?=some z->lt z y=false
 out:∀p,p<a\/i<p->ws[p]?=zs[p]?
theorem yI.start{α:Type}{lt:α->α->Bool}{zs:List α}{x:α}{a i:Nat}(ha:a<=i)(hi:zs[i]?=some x)(hs:vM lt zs a i):yI lt zs zs x a i i:=
 ⟨.refl _,⟨ha,aX _,(aS.1 hi).1⟩,hi,fun p y h1 h2=>aa,fun p q y z h0 h1 h2 h3 h4=>hs p q y z h0 h1 aa,fun _ _=>rfl⟩
theorem swap_perm{α:Type}{ws:List α}{i j:Nat}{x y:α}(hi:ws[i]?=some x)(hj:ws[j]?=some y):((ws.set i y).set j x).Perm ws:=by obtain⟨h1,e1⟩:=aS.1 hi;obtain⟨h2,e2⟩:=aS.1 hj;have:=List.set_set_perm h1 h2;rwa[e1,e2] at this
theorem yI.step{α:Type}{lt:α->α->Bool}{zs ws:List α}{x y:α}{a i j:Nat}(o:Swo lt)(h:yI lt zs ws x a i (j+1))(hj:a<=j)(hy:ws[j]?=some y)(aw:lt x y=true):
  yI lt zs ((ws.set (j+1) y).set j x) x a i j:=by
 obtain⟨hp,⟨_,hle,hl⟩,hJ,vj,CN,nk⟩:=h;have Gc:j<ws.length:=(aS.1 hy).1;have get:∀p,((ws.set (j+1) y).set j x)[p]?=if p=j then some x else if p=j+1 then some y else ws[p]? :=fun p=>by
  rw[oI,oI,th];by_cases e1:j=p
  .subst e1;simp[Gc]
  by_cases e2:j+1=p
  .subst e2;have:¬(j+1=j):=aa;rw[if_neg e1,if_pos rfl,if_pos aa,if_neg this,if_pos rfl]
  rw[if_neg e1,if_neg e2,if_neg (fun h=>e1 h.symm),if_neg (fun h=>e2 h.symm)]
 refine⟨(swap_perm hJ hy).trans hp,⟨hj,aa,by simp;omega⟩,by rw[get];simp,?_,?_,?_⟩
 .intro p z h1 h2 hz;rw[get,if_neg aa] at hz;by_cases e:p=j+1
  .rw[if_pos e] at hz;cases hz;exact aw
  rw[if_neg e] at hz;exact vj p z aa h2 hz
 .intro p q u v h0 h1 h2 h3 h4 hu hv;rw[get,if_neg h3] at hu;rw[get,if_neg h4] at hv;by_cases e:p=j+1
  .rw[if_pos e] at hu;cases hu;rw[if_neg aa] at hv;exact CN j q _ _ hj aa h2 aa aa hy hv
  rw[if_neg e] at hu;by_cases e2:q=j+1
  .rw[if_pos e2] at hv;cases hv;exact CN p j _ _ h0 aa aa e aa hu hy
  rw[if_neg e2] at hv;exact CN p q _ _ h0 h1 h2 e e2 hu hv
 intro p fJ;rw[get,if_neg aa,if_neg aa,nk p fJ]
theorem yI.stop{α:Type}{lt:α->α->Bool}{zs ws:List α}{x:α}{a i j:Nat}(o:Swo lt)(h:yI lt zs ws x a i j)(hj:j=a\/ ∃y,a<j/\ws[j-1]?=some y/\lt x y=false):vM lt ws a (i+1):=by
 obtain⟨hp,⟨hja,hle,hl⟩,hJ,vj,CN,nk⟩:=h;intro p q u v h0 h1 h2 hu hv;by_cases e:q=j
 .subst e;rw[hJ] at hv;cases hv;rcases hj with hj|⟨y,CP,hy,hU⟩
  .omega
  by_cases e3:p=q-1
  .subst e3;rw[hy] at hu;cases hu;exact hU
  exact o.ntrans _ _ _ (CN p (q-1) _ _ h0 aa aa aa aa hu hy) hU
 by_cases e2:p=j
 .subst e2;rw[hJ] at hu;cases hu;exact o.asym _ _ (vj q v h1 aa hv)
 exact CN p q u v h0 h1 aa e2 e hu hv
theorem vM.mono{α:Type}{lt:α->α->Bool}{ws:List α}{a b c:Nat}(h:vM lt ws a c)(hb:b<=c\/ws.length<=c):vM lt ws a b:=fun p q x y h0 h1 h2 hx hy=>h p q x y h0 h1 (by
 rcases hb with hb|hb
 .omega
 have:=(aS.1 hy).1;omega) hx hy
theorem vM.pair{α:Type}{lt:α->α->Bool}{ws:List α}(h:vM lt ws 0 ws.length):ws.Pairwise fun x y=>lt y x=false:=by rw[NX];intro i j hi hj fL;exact h i j _ _ (bd _) fL hj (nG hi) (nG hj)
abbrev tU(a b:Int):Bool:=decide (a<b)
theorem Xh:Swo tU:=⟨fun a b h=>by simp at*;omega,fun a b c h k=>by simp at*;omega⟩
theorem apF(a:Int):aI S 90 [vi a] (rb false):=by refine aY c90 ?_;have h:(a !=a)=false:=af;simp only[go_sem,i90,h]
theorem aoG(a b:Int):aI S 181 [vi a,vi b] (rb (tU a b)):=by have pn:=apF a;refine aY c181 ?_;simp only[go_sem,i181,s90,cS pn,tU]
theorem Sl(n:Nat)(h:n<=1000000):∃k:Int,aI S 148 [.one (.p (.int .u64 n))] (ri k):=by
 refine⟨((Lib.bitLen n:Nat):Int),⟨1,?_⟩⟩;have hp:S.prim 148 [.one (.p (.int .u64 (n:Int)))]=some (some (ri ((Lib.bitLen n:Nat):Int))):=by show some (Nu [.one (.p (.int .u64 (n:Int)))])=_;simp only[Nu];rw[if_pos ⟨aa,aa⟩];rfl
 rw[gh,hp]
theorem MX(o:List Int)(k:Nat)(v:Int):(iP o).set k [.int .i64 v]=iP (o.set k v):=by simp[List.map_set]
theorem wK(o:List Int):(iP o).length=o.length:=cF _
def EZ(lt:Int->Int->Bool)(id g ty:Nat)(es:List Int)(aj:aq)(v:V)(ao:aq):Prop:=v=.tup []/\(∃ws:List Int,ao id=(g,some (.arr ty 1 (iP ws)))/\ws.Perm es/\vM lt ws 0 ws.length)/\Kept (· =id) aj ao
theorem anU{al:Al}{aj:aq}{id g:Nat}{es:List Int}(o:al.ok id=true)(hl:es.length<=1000000)(hC:aj id=(g,some (.arr ty 1 (iP es)))):
  ∃v ao,iJ S 175 [.one (.hsl id g 1 0 es.length),vi 0,vi es.length] al aj v ao/\EZ tU id g ty es aj v ao:=by
 refine mr c175 (gY rfl) ?_;have w0:IntKind.i64.wrap (0+1)=((0+1:Nat):Int):=ae;simp only[go_sem,i175];refine cV (fun k ak ao=>ak 0=.one (.hsl id g 1 0 es.length)/\ak 1=vi 0/\ak 2=vi es.length/\ak 6=vi ((k+1:Nat):Int)/\ ∃zs:List Int,ao id=(g,some (.arr ty 1 (iP zs)))/\zs.Perm es/\vM tU zs 0 (k+1)/\Kept (· =id) aj ao) 0 es.length (bd _) ?_ ?_
 .simp only[go_sem];exact⟨rfl,es,hC,.refl _,fun p q x y _ h1 h2=>aa,Kept.refl _ _⟩
 rintro k ak bG hk ⟨h0,h1,h2,h6,zs,hZ,hp,hs,dd⟩
 have l8:=hp.length_eq;by_cases aw:k+1<es.length
 .have aL:((k+1:Nat):Int)<(es.length:Int):=aa;obtain⟨x,hx⟩:=aK (ls:=zs) (k:=k+1) aa;simp only[go_sem,i175_l3,h2,h6,aL];refine cV (fun q ak ao=>ak 0=.one (.hsl id g 1 0 es.length)/\ak 1=vi 0/\ak 2=vi es.length/\ak 6=vi ((k+1:Nat):Int)/\ak 7=vi ((k+1-q:Nat):Int)/\ ∃ws:List Int,ao id=(g,some (.arr ty 1 (iP ws)))/\yI tU zs ws x 0 (k+1) (k+1-q)/\Kept (· =id) aj ao) 0 (k+1) (bd _) ?_ ?_
  .simp only[go_sem,h0,h1,h2,h6];exact⟨zs,hZ,yI.start (bd _) hx hs,dd⟩
  rintro q cZ aZ hq ⟨k0,k1,k2,k6,k7,ws,hW,hI,Gf⟩
  have lI:ws.length=es.length:=hI.perm.length_eq.trans l8;have wk:IntKind.i64.wrap (((k+1:Nat):Int)+1)=((k+1+1:Nat):Int):=cK (n:=k+1) aa;by_cases hj0:k+1-q=0
  .have e7:¬((0:Int)<((k+1-q:Nat):Int)):=aa;simp only[go_sem,i175_l1,i175_r2,k0,k1,k2,k6,k7,e7,wk];refine⟨aH,aa,ws,hW,hI.perm.trans hp,hI.stop Xh (.inl hj0),Gf⟩
  obtain⟨j,hj⟩:∃j,k+1-q=j+1:=⟨k-q,aa⟩;have e7:((0:Int)<((j+1:Nat):Int)):=aa;obtain⟨y,hy⟩:=aK (ls:=ws) (k:=j) aa;rw[hj] at hI k7;have wj:IntKind.i64.wrap (((j+1:Nat):Int)-1)=(j:Int):=by rw[yE aa];omega
  have AX:=mK hI.at';have CP:=mK hy;have j1:j+1<es.length:=by have:=hI.le;omega
  have j2:j<es.length:=aa;have pl:=aoG x y;cases hU:tU x y with
  |false=>rw[hU] at pl;simp only[go_sem,i175_l1,i175_r2,k0,k1,k2,k6,k7,e7,wk,wj,hW,AX,CP,j1,j2,o,s181,Ot pl];refine⟨aH,aa,ws,rfl,hI.perm.trans hp,hI.stop Xh (.inr ⟨y,aa,hy,hU⟩),Gf⟩
  |true=>rw[hU] at pl;have we:=hI.step Xh (bd _) hy hU;have hjj:¬(j+1=j):=aa;have l1:j+1<ws.length:=aa;have l2:j<ws.length:=aa;simp only[go_sem,i175_l1,i175_r2,k0,k1,k2,k6,k7,e7,wj,hW,AX,CP,j1,j2,l1,hjj,o,s181,Ot pl,oI,wK];have CK:k+1-(q+1)=j:=aa;refine⟨aH,aH,aa,by rw[CK],(ws.set (j+1) y).set j x,by rw[MX,MX],by rw[CK];exact we,(Gf.dB rfl _).dB rfl _⟩
 have aL:¬(((k+1:Nat):Int)<(es.length:Int)):=aa;simp only[go_sem,i175_l3,h2,h6,aL];exact⟨rfl,⟨zs,hZ,hp,hs.mono (.inl aa)⟩,dd⟩
theorem Ao{Q:dy}{al:Al}{ak:Env}{aj:aq}{os:List bl}{d:Option Nat}{f id g ty z o n:Nat}{vs:List V}{es:List (List PV)}{P:V->aq->Prop}(hC:aj id=(g,some (.arr ty z es)))(qX:(vs.map (jd aj)).flatten=[])(hh:al=.all\/al.ok id=true/\(S.sites f).all al.fs.contains=true)
  (h:∀qH,qH.ok id=true->qH.fs=S.sites f->∃v ao,iJ S f (.one (.hsl id g z o n)::vs) qH aj v ao/\P v ao)
  (hK:∀v ao,P v ao->RN S al os Q (put ak d v) ao):gP S al (.sc f (.one (.hsl id g z o n)::vs)) d os Q ak aj:=by
 have hr:((V.one (.hsl id g z o n)::vs).map (jd aj)).flatten=[id]:=by rw[dG,lR,qX,WK hC];rfl
 refine rM (P:=P) ?_ (h _ (sB (by rw[hr];simp)) rfl) hK;rcases hh with rfl|⟨h1,h2⟩
 .rfl
 refine holds_of ?_ h2;show al.ff ((V.one (.hsl id g z o n)::vs).map (jd aj)).flatten=true;rw[hr];simp[Al.ff,h1]
theorem aqh{al:Al}{aj:aq}{id g:Nat}{es:List Int}(o:al.ok id=true)(f1:al.fs.contains 175=true)(hl:es.length<=12)(hC:aj id=(g,some (.arr ty 1 (iP es))))(lim:Int):
  ∃v ao,iJ S 157 [.one (.hsl id g 1 0 es.length),vi 0,vi es.length,vi lim] al aj v ao/\EZ tU id g ty es aj v ao:=by
 refine mr c157 (gY rfl) ?_;have w0:IntKind.i64.wrap ((es.length:Int)-0)=(es.length:Int):=by rw[Int.sub_zero];exact vC aa aa
 have gA:(es.length:Int)<=12:=aa;simp only[go_sem,i157];refine sA ?_;simp only[go_sem,i157_l1,w0,gA,s175];refine Ao hC (by rfl) (.inr ⟨o,by rw[show S.sites 175=[175] by kernel_rfl];simp only[lk,oG,f1,wY]⟩) (P:=EZ tU id g ty es aj) (fun qH h1 _=>anU h1 aa hC) fun v ao hP=>?_;obtain⟨rfl,h2⟩:=hP;simp only[go_sem];exact⟨rfl,h2⟩
theorem W8{al:Al}{aj:aq}{id g:Nat}{es:List Int}(o:al.ok id=true)(f1:(S.sites 157).all al.fs.contains=true)(hl:es.length<=12)(hC:aj id=(g,some (.arr ty 1 (iP es)))):
  ∃v ao,iJ S 140 [.one (.hsl id g 1 0 es.length)] al aj v ao/\EZ tU id g ty es aj v ao:=by
 obtain⟨k,pb⟩:=Sl es.length aa;have wu:IntKind.u64.wrap (es.length:Int)=(es.length:Int):=by
  have e:IntKind.u64.wrap (es.length:Int)=(es.length:Int)%18446744073709551616:=by unfold IntKind.wrap;rfl
  rw[e];omega
 refine mr c140 (gY rfl) ?_;have sbl:S.shared 148=false:=ah;simp only[go_sem,i140,wu,sbl,FX pb,s157];refine Ao hC (by rfl) (.inr ⟨o,f1⟩) (P:=EZ tU id g ty es aj) (fun qH h1 h2=>aqh h1 (by rw[h2];kernel_rfl) hl hC k) fun v ao hP=>?_;obtain⟨rfl,h2⟩:=hP;simp only[go_sem];exact⟨rfl,h2⟩
def lD(ws:List Int):Nat->List Int
 |0=>[]
 |k+1=>match ws[k]? with
  |some x=>if 0<k/\ws[k-1]?=some x then lD ws k else lD ws k++[x]
  |none=>lD ws k
theorem Zs(ws:List Int):∀k,(lD ws k).length<=k:=by
 intro k
 induction k with
 |zero=>exact aX _
 |succ k ih=>
  unfold lD;split
  .split
   .omega
   simp;omega
  omega
theorem SP{k:Nat}(h:ws[k+1]?=some x)(hp:ws[k]?=some x):lD ws (k+2)=lD ws (k+1):=by
 conv=>lhs;unfold lD
 rw[h];simp[hp]
theorem SN{k:Nat}{y:Int}(h:ws[k+1]?=some x)(hp:ws[k]?=some y)(hn:¬x=y):lD ws (k+2)=lD ws (k+1)++[x]:=by
 conv=>lhs;unfold lD
 rw[h];have:¬y=x:=fun e=>hn e.symm;simp[hp,this]
theorem aj0(h:ws[0]?=some x):lD ws 1=[x]:=by simp[lD,h]
def Qe(ws:List Int)(k:Nat):Prop:=∀i x y,i+1<k->ws[i]?=some x->ws[i+1]?=some y-> ¬y=x
theorem SO:∀k,k<=ws.length->Qe ws k->lD ws k=ws.take k:=by
 intro k
 induction k with
 |zero=>intro _ _;rfl
 |succ k ih=>
  intro hk h;obtain⟨x,hx⟩:=aK (ls:=ws) (k:=k) aa;have e:=ih aa fun i x y h1=>h i x y aa;have ht:ws.take (k+1)=ws.take k++[x]:=by rw[kn,hx];rfl
  rcases k with _|k
  .rw[aj0 hx,ht];rfl
  obtain⟨y,hy⟩:=aK (ls:=ws) (k:=k) aa;rw[SN hx hy (h k y x aa hy hx),e,ht]
structure yU (ws cs:List Int) (k q:Nat):Prop where
 len:cs.length=ws.length
 kl:k=(lD ws q).length
 pre:cs.take k=lD ws q
 out:∀p,q-1<=p->cs[p]?=ws[p]?
 kq:k<q
theorem yU.step{cs:List Int}{k q:Nat}{y:Int}(h:yU ws cs k (q+1))(hx:ws[q+1]?=some x)(hy:ws[q]?=some y)(hn:¬x=y):yU ws (cs.set k x) (k+1) (q+2):=by
 obtain⟨h1,h2,h3,h4,h5⟩:=h;have hl:=Zs ws (q+1);have hq:q+1<ws.length:=(aS.1 hx).1;refine⟨by simpa using h1,by rw[SN hx hy hn,dX,<- h2];rfl,?_,fun p hp=>?_,aa⟩
 .rw[SN hx hy hn,kn,oI];have:k<cs.length:=aa;rw[if_pos rfl,if_pos this,List.take_set_of_le (aX _),h3];rfl
 rw[oI,if_neg aa];exact h4 p aa
theorem yU.skip{cs:List Int}{k q:Nat}(h:yU ws cs k (q+1))(hx:ws[q+1]?=some x)(hy:ws[q]?=some x):yU ws cs k (q+2):=by obtain⟨h1,h2,h3,h4,h5⟩:=h;exact⟨h1,by rw[SP hx hy];exact h2,by rw[SP hx hy];exact h3,fun p hp=>h4 p aa,aa⟩
theorem yU.start{k:Nat}(hk:k+1<ws.length)(h:Qe ws (k+1))(hx:ws[k+1]?=some x)(hy:ws[k]?=some x):yU ws ws (k+1) (k+2):=by have e:=SO (k+1) aa h;have e2:lD ws (k+2)=ws.take (k+1):=(SP hx hy).trans e;exact⟨rfl,by rw[e2];simp;omega,by rw[e2],fun _ _=>rfl,aa⟩
def Sz(id g ty:Nat)(ws:List Int)(aj:aq)(v:V)(ao:aq):Prop:=v=.one (.hsl id g 1 0 (lD ws ws.length).length)/\(∃cs:List Int,ao id=(g,some (.arr ty 1 (iP cs)))/\cs.length=ws.length/\cs.take (lD ws ws.length).length=lD ws ws.length)/\Kept (· =id) aj ao
theorem anD{cs:List Int}{k:Nat}(hk:k<=cs.length):List.take k (iP cs)++List.replicate (cs.length-k) [PV.int .i64 0]++List.drop (k+(cs.length-k)) (iP cs)=iP (cs.take k++List.replicate (cs.length-k) 0):=by rw[NS (by simp;omega),jR];simp only[iP,km,List.map_replicate,Hj]
theorem Zi{al:Al}{aj:aq}{id g:Nat}(o:al.ok id=true)(hl:ws.length<=1000000)(hC:aj id=(g,some (.arr ty 1 (iP ws)))):
  ∃v ao,iJ S 141 [.one (.hsl id g 1 0 ws.length)] al aj v ao/\Sz id g ty ws aj v ao:=by
 refine mr c141 (gY rfl) ?_;by_cases h2:ws.length<2
 .have mz:((ws.length:Int)<2):=aa;have iS:Qe ws ws.length:=fun i x y h=>aa;have e:=SO ws.length (aX _) iS;rw[jh] at e;simp only[go_sem,i141,mz];exact⟨by rw[e],⟨ws,hC,rfl,by rw[e,jh]⟩,Kept.refl _ _⟩
 have mz:¬((ws.length:Int)<2):=aa;simp only[go_sem,i141,mz];refine cV (fun q ak ao=>ak 0=.one (.hsl id g 1 0 ws.length)/\ak 3=vi ((q+1:Nat):Int)/\Qe ws (q+1)/\ao=aj) 0 ws.length (bd _) ?_ ?_
 .simp only[go_sem];exact⟨rfl,fun i x y h=>aa⟩
 rintro q ak bG hq ⟨h0,h3,iS,rfl⟩
 by_cases aw:q+1<ws.length
 .have aL:(((q+1:Nat):Int)<(ws.length:Int)):=aa;obtain⟨x,hx⟩:=aK (ls:=ws) (k:=q+1) aw;obtain⟨y,hy⟩:=aK (ls:=ws) (k:=q) aa;have AX:=mK hx;have CP:=mK hy;have wj:IntKind.i64.wrap (((q+1:Nat):Int)-1)=(q:Int):=by rw[yE aa];omega
  have wk:=cK (n:=q+1) aa;have q1:q<ws.length:=aa;have q2:q+1<=ws.length:=aa;by_cases e:x=y
  .subst e;simp only[go_sem,i141_l4,h0,h3,aw,aL,AX,CP,wj,q1,q2,hC,o];refine⟨aH,?_⟩;refine cV (fun r ak ao=>ak 0=.one (.hsl id g 1 0 ws.length)/\ak 4=.one (.hsl id g 1 (q+1) (ws.length-(q+1)))/\ak 5=vi ((r+1:Nat):Int)/\ ∃(cs:List Int) (k:Nat),ak 3=vi (k:Nat)/\ao id=(g,some (.arr ty 1 (iP cs)))/\yU ws cs k (q+2+r)/\q+2+r<=ws.length/\Kept (· =id) bG ao) 0 ws.length (bd _) ?_ ?_
   .simp only[go_sem,h0];exact⟨rfl,ws,q+1,h3,hC,yU.start aw iS hx hy,aa,Kept.refl _ _⟩
   rintro r cZ aZ hr ⟨k0,k4,k5,cs,k,k3,hB,hI,hqr,dd⟩
   have bQ:=hI.len;have dO:=hI.kl;have hkle:=Zs ws (q+2+r);have hkq:=hI.kq;have Eb:yU ws cs k (q+1+r+1):=by rw[show q+1+r+1=q+2+r by omega];exact hI
   by_cases Pm:r+1<ws.length-(q+1)
   .have Pn:(((r+1:Nat):Int)<((ws.length-(q+1):Nat):Int)):=aa;obtain⟨u,hu⟩:=aK (ls:=ws) (k:=q+1+(r+1)) aa;obtain⟨v,hv⟩:=aK (ls:=ws) (k:=q+1+r) aa;have cu:=mK ((hI.out (q+1+(r+1)) aa).trans hu);have cv:=mK ((hI.out (q+1+r) aa).trans hv);have wr:IntKind.i64.wrap (((r+1:Nat):Int)-1)=(r:Int):=by rw[yE aa];omega
    have wr2:=cK (n:=r+1) aa;have wk2:=cK (n:=k) aa;have r1:r<ws.length-(q+1):=aa;have kk:k<ws.length:=aa;have kk2:k<cs.length:=aa;obtain⟨z,hz⟩:=aK kk2;have cz:=mK hz;by_cases e2:u=v
    .subst e2;have Gq:(u !=u)=false:=af;have we:=Eb.skip (by rw[show q+1+r+1=q+1+(r+1) by omega];exact hu) hv;simp only[go_sem,i141_l1,k0,k4,k5,k3,Pm,Pn,r1,hB,cu,cv,wr,wr2,Gq,o];refine⟨aH,aa,cs,k,rfl,rfl,by rw[show q+2+(r+1)=q+1+r+2 by omega];exact we,aa,dd⟩
    have Gq:=(show(u !=v)=true by simp[e2]);simp only[go_sem,i141_l1,k0,k4,k5,k3,Pm,Pn,r1,hB,cu,cv,wr,wr2,wk2,kk,cz,Gq,o];have we:=Eb.step (by rw[show q+1+r+1=q+1+(r+1) by omega];exact hu) hv e2;refine⟨aH,aa,cs.set k u,k+1,rfl,by rw[MX],by rw[show q+2+(r+1)=q+1+r+2 by omega];exact we,aa,dd.dB rfl _⟩
   have Pn:¬(((r+1:Nat):Int)<((ws.length-(q+1):Nat):Int)):=aa;have kk3:k<=ws.length:=aa;have kk4:k+(ws.length-k)<=cs.length:=aa;have aF:¬(ws.length-k=0):=aa;have Pd:q+2+r=ws.length:=aa;rw[Pd] at hI;have nT:=anD (cs:=cs) (k:=k) aa;rw[bQ] at nT;simp only[go_sem,i141_l1,i141_r2,k0,k4,k5,k3,Pn,hB,o,kk3,kk4,aF,List.length_replicate,wK,nT];obtain⟨i1,i2,i3,i4,i5⟩:=hI;refine⟨by rw[<- i2],⟨_,sZ,by simp;omega,?_⟩,dd.dB rfl _⟩;rw[<- i2,List.take_left' (by simp;omega),i3]
  have e1:=(show(x==y)=false by simp[e]);simp only[go_sem,i141_l4,i141_r3,h0,h3,aw,aL,AX,CP,wj,wk,q1,hC,o,e1];refine⟨aH,fun i u v h h4 h5=>?_⟩;by_cases e2:i=q
  .subst e2;rw[hy] at h4;rw[hx] at h5;cases h4;cases h5;exact e
  exact iS i u v aa h4 h5
 have aL:¬(((q+1:Nat):Int)<(ws.length:Int)):=aa;have e:=SO ws.length (aX _) (fun i x y h=>iS i x y aa);rw[jh] at e;simp only[go_sem,i141_l4,i141_r5,h0,h3,aL];exact⟨by rw[e],⟨ws,hC,rfl,by rw[e,jh]⟩,Kept.refl _ _⟩
def mW:List Int->List Int
 |[]=>[]
 |x::r=>if x∈r then mW r else x::mW r
theorem Ov:∀ {l:List Int},x∈mW l↔x∈l:=by
 intro l
 induction l with
 |nil=>simp[mW]
 |cons y r ih=>
  unfold mW;split
  .rename_i h;rw[ih,cM];constructor
   .exact .inr
   rintro (rfl|h2)
   .exact h
   exact h2
  rw[cM,cM,ih]
theorem akl:∀l:List Int,(mW l).Nodup:=by
 intro l
 induction l with
 |nil=>exact w7
 |cons y r ih=>
  unfold mW;split
  .exact ih
  rename_i h;exact sa.2 ⟨fun h2=>h (Ov.1 h2),ih⟩
theorem Zt:∀k,k<=ws.length->(x∈lD ws k↔x∈ws.take k):=by
 intro k
 induction k with
 |zero=>intro _;simp[lD]
 |succ k ih=>
  intro hk;obtain⟨y,hy⟩:=aK (ls:=ws) (k:=k) aa;have ht:ws.take (k+1)=ws.take k++[y]:=by rw[kn,hy];rfl
  have ih:=ih aa;unfold lD;rw[hy,ht];simp only;split
  .rename_i h;obtain⟨h1,h2⟩:=h;have hm:y∈ws.take k:=by
    rw[List.mem_take_iff_getElem];obtain⟨h3,h4⟩:=aS.1 h2;exact⟨k-1,aa,h4⟩
   rw[ih,eF];constructor
   .exact .inl
   rintro (h|h)
   .exact h
   simp at h;subst h;exact hm
  rw[eF,eF,ih]
theorem ajZ(hs:vM tU ws 0 ws.length):∀k,k<=ws.length->(lD ws k).Nodup:=by
 intro k
 induction k with
 |zero=>intro _;exact w7
 |succ k ih=>
  intro hk;obtain⟨y,hy⟩:=aK (ls:=ws) (k:=k) aa;have ih:=ih aa;unfold lD;rw[hy];simp only;split
  .exact ih
  rename_i h;rw[Hn];refine⟨ih,af,fun z hz w hw=>?_⟩;simp at hw;subst hw;rintro rfl
  rw[Zt k aa,List.mem_take_iff_getElem] at hz;obtain⟨p,hp,hpz⟩:=hz;have hpk:p<k:=aa;have qV:ws[p]?=some z:=by rw[nG aa,hpz]
  obtain⟨u,hu⟩:=aK (ls:=ws) (k:=k-1) aa;have s1:=hs (k-1) k u z (bd _) aa aa hu hy;have huz:u=z:=by
   by_cases e:p=k-1
   .rw[e,hu] at qV;cases qV;rfl
   have s2:=hs p (k-1) z u (bd _) aa aa qV hu;simp at s1 s2;omega
  rw[huz] at hu;exact h ⟨aa,hu⟩
theorem Zh{es:List Int}(hp:ws.Perm es)(hs:vM tU ws 0 ws.length):(lD ws ws.length).length=(mW es).length:=by refine List.Perm.length_eq ((List.perm_ext_iff_of_nodup (ajZ hs _ (aX _)) (akl es)).2 fun x=>?_);rw[Zt _ (aX _),jh,Ov,hp.mem_iff]
def yV(ls:List Let)(e:Nat):Bool:=((pA ls e).l.kind==2)&&((pA ls (nx ls e)).l.kind==2)
def vx(ls:List Let)(es:List Nat):List Int:=es.flatMap fun e:Nat=>[(e:Int),(nx ls e:Int)]
def wX(ls:List Let)(es:List Nat):List Int:=es.flatMap fun e:Nat=>[(pA ls e).l.id,(pA ls (nx ls e)).l.id]
def tgB(F:Nat)(ls:List Let)(a b c:Nat):Bool:=[a,b,c].all (yV ls)&&(((mW (vx ls [a,b,c])).length==6)&&(((mW (wX ls [a,b,c])).length==3)&&([a,b,c].any (kJ ls · true)&&([a,b,c].any (kJ ls · false)&&tq F ls 0 [a,b,c] a))))
def vz(F:Nat)(ls:List Let)(a b c:Nat):Option (List Pc):=if tgB F ls a b c then some (iN ls (pieces ls) [a,b,c]) else none
theorem Q7(f:Nat->List Int)(hf:∀e,(f e).length=2):∀l:List Nat,(l.flatMap f).length=2*l.length:=by
 intro l
 induction l with
 |nil=>rfl
 |cons a r ih=>rw[List.flatMap_cons,dX,ih,hf,cq];omega
theorem abn(f:Nat->List Int)(l:List Nat)(k e:Nat)(h:l[k]?=some e):(l.take (k+1)).flatMap f=(l.take k).flatMap f++f e:=by rw[kn,h];simp
theorem Yb(f:Nat->Bool)(l:List Nat)(k e:Nat)(h:l[k]?=some e):(l.take (k+1)).any f=((l.take k).any f||f e):=by rw[kn,h];simp
theorem ah8(f:Nat->Bool)(l:List Nat)(k e:Nat)(h:l[k]?=some e):(l.take (k+1)).all f=((l.take k).all f&&f e):=by rw[kn,h];simp
theorem ag5(f:Nat->List Int)(es:List Nat)(x y:Int):iP (es.flatMap f)++[[PV.int .i64 x],[PV.int .i64 y]]=iP (es.flatMap f++[x,y]):=af
theorem at5(g:dr F ls){av bv cv:Nat}(ha:av<ls.length)(hb:bv<ls.length)(hc:cv<ls.length){k:Int}{l o:Bool}{sg:Int}:
  aI S 115 [.one (.p (eB F ls)),lL k av bv cv l o sg] (kR (vz F ls av bv cv)):=by
 have hlen:=g.len;have bK:=fi ls;have mD:∀e∈[av,bv,cv],e<ls.length:=fun e h=>by simp at h;rcases h with rfl|rfl|rfl<;>assumption
 generalize hE:[av,bv,cv]=es at*;have dw:es.length=3:=by rw[<- hE];rfl
 have Mt:nP [av,bv,cv]=[[.int .i64 av],[.int .i64 bv],[.int .i64 cv]]:=rfl;rw[hE] at Mt;have w3:((3:Nat):Int)=3:=rfl;refine aY c115 ?_;simp only[go_sem,i115];refine cV (fun j ak aj=>ak 0=.one (.p (eB F ls))/\ak 6=.one (.hsl 7360064384 1 1 0 3)/\ak 22=.one (.hsl 7360064384 1 1 0 3)/\ak 23=vi 3/\ak 24=vi j/\aj 7360064384=(1,some (.arr 3 1 (nP es)))/\(es.take j).all (yV ls)=true/\
  ak 9=vb ((es.take j).any (kJ ls · true))/\ak 10=vb ((es.take j).any (kJ ls · false))/\ ∃c7 c8,ak 7=.one c7/\ak 8=.one c8/\grown 7360640256 3 1 (iP (vx ls (es.take j))) (.one c7) aj/\grown 7360705280 3 1 (iP (wX ls (es.take j))) (.one c8) aj) 0 3 (bd _) ?_ ?_
 .simp only[go_sem];exact⟨rfl,rfl,by rw[Mt],rfl,rfl,_,_,rfl,rfl,grown.nil,grown.nil⟩
 rintro j ak aj hj ⟨h0,h6,kY,jk,lZ,b6,dk,h9,dF,c7,c8,h7,h8,g7,g8⟩
 by_cases aw:j<3
 .have aL:((j:Int)<3):=aa;obtain⟨e,he⟩:=aK (ls:=es) (k:=j) aa;have Pb:=mD e (aU he);have hnp:=kQ he;have pe:=Ce g Pb;have hm:=dQ (e+1) (show 0<ls.length by omega);obtain⟨P,hP⟩:=aK (ls:=pieces ls) (k:=e) aa;obtain⟨Q,hQ⟩:=aK (ls:=pieces ls) (k:=(e+1)%ls.length) aa;have oY:=jN hP;have haq:=jN hQ;have w1:=cK (n:=j) aa;have po:=HG g Pb true;have pu:=HG g Pb false;have eV:yV ls e=((P.l.kind==2)&&(Q.l.kind==2)):=by unfold yV;rw[jA hP,jA hQ]
  have hl7:(iP (vx ls (es.take j))).length<=100:=by unfold vx;rw[wK,Q7 _ (fun _=>rfl),eQ];omega
  have hl8:(iP (wX ls (es.take j))).length<=100:=by unfold wX;rw[wK,Q7 _ (fun _=>rfl),eQ];omega
  have dz:yV ls e=false->vz F ls av bv cv=none:=fun h=>by
   have:es.all (yV ls)=false:=by
    cases hh:es.all (yV ls) with
    |false=>rfl
    |true=>rw[jf.1 hh e (aU he)] at h;cases h
   unfold vz tgB;rw[hE,this];rfl
  cases k1:(P.l.kind==2) with
  |false=>
   rw[k1] at eV;have k1':(P.l.kind !=2)=true:=by simp only[bne,k1];rfl
   rw[dz eV];simp only[go_sem,i115_l1,h0,kY,jk,lZ,b6,aw,aL,hnp,s127,cX pe ia,oY,Pc.ps,k1'];rfl
  |true=>
   have k1':(P.l.kind !=2)=false:=by simp only[bne,k1];rfl
   cases k2:(Q.l.kind==2) with
   |false=>
    rw[k1,k2] at eV;have k2':(Q.l.kind !=2)=true:=by simp only[bne,k2];rfl
    rw[dz eV];simp only[go_sem,i115_l1,h0,kY,jk,lZ,b6,aw,aL,hnp,s127,cX pe ia,oY,haq,Pc.ps,k1',k2'];rfl
   |true=>
    rw[k1,k2] at eV;have k2':(Q.l.kind !=2)=false:=by simp only[bne,k2];rfl
    simp only[go_sem,i115_l1,h0,h7,kY,jk,lZ,b6,aw,aL,hnp,s127,cX pe ia,oY,haq,Pc.ps,k1',k2'];refine qN (xs:=[[.int .i64 (e:Nat)],[.int .i64 ((e+1)%ls.length:Nat)]]) (g7.of_eq (aP ae)) (by simp only[ez,aM,if_true];rfl) (.inl rfl) (by simp only[cq,dN];omega) fun d7 bG gd7 cU=>?_;have q6:=cU 7360064384 ae ae;simp only[go_sem,b6] at q6;have g8':=g8.of_eq ((cU 7360705280 ae ae).trans (aP ae));simp only[go_sem,h0,h8,oY,haq,Pc.ps];refine xz (xs:=[[.int .i64 P.l.id],[.int .i64 Q.l.id]]) (g8'.of_eq (aP ae)) (by simp only[ez,aM,if_true];rfl) (.inl rfl) (by simp only[cq,dN];omega) fun d8 aZ r w gd8 aV hw=>?_
    have p6:=(aV 7360064384 ae ae).trans ((aP ae).trans q6);have al4:=gd7.of_eq ((aV 7360640256 ae ae).trans (aP ae));simp only[go_sem];refine⟨?_,?_⟩
    .rcases hw with ⟨rfl,rfl⟩|⟨rfl,rfl⟩|⟨rfl,rfl⟩<;>kernel_rfl
    generalize hx9:(es.take j).any (kJ ls · true)=x9 at h9;generalize anB:(es.take j).any (kJ ls · false)=Hb at dF;have e9:=Yb (kJ ls · true) es j e he;have qJ:=Yb (kJ ls · false) es j e he;have eA:=ah8 (yV ls) es j e he;rw[hx9] at e9;rw[anB] at qJ;rw[dk,eV] at eA;have G7:grown 7360640256 3 1 (iP (vx ls (es.take (j+1)))) (.one d7) aZ:=by have:=ag5 (fun e:Nat=>[(e:Int),(nx ls e:Int)]) (es.take j) e (nx ls e);have h2:=abn (fun e:Nat=>[(e:Int),(nx ls e:Int)]) es j e he;rw[show vx ls (es.take (j+1))=(es.take j).flatMap (fun e:Nat=>[(e:Int),(nx ls e:Int)])++[(e:Int),(nx ls e:Int)] from h2,<- this];exact al4
    have G8:grown 7360705280 3 1 (iP (wX ls (es.take (j+1)))) (.one d8) aZ:=by have:=ag5 (fun e:Nat=>[(pA ls e).l.id,(pA ls (nx ls e)).l.id]) (es.take j) (pA ls e).l.id (pA ls (nx ls e)).l.id;have h2:=abn (fun e:Nat=>[(pA ls e).l.id,(pA ls (nx ls e)).l.id]) es j e he;rw[show wX ls (es.take (j+1))=(es.take j).flatMap (fun e:Nat=>[(pA ls e).l.id,(pA ls (nx ls e)).l.id])++[(pA ls e).l.id,(pA ls (nx ls e)).l.id] from h2,<- this,jA hP,show pA ls (nx ls e)=Q from jA hQ];exact gd8
    cases x9<;>cases Hb<;>simp only[go_sem,h0,h9,dF,kY,jk,lZ,s138,cS po,cS pu,w1,aw]<;>exact⟨h6,p6,by rw[eA];rfl,by rw[e9];rfl,by rw[qJ];rfl,d7,d8,rfl,rfl,G7,G8⟩
 have:j=3:=aa;subst this;have ht:es.take 3=es:=by rw[<- hE];rfl
 rw[ht] at dk h9 dF g7 g8;have n7:(vx ls es).length=6:=by unfold vx;rw[Q7 _ (fun _=>rfl),dw]
 have n8:(wX ls es).length=6:=by unfold wX;rw[Q7 _ (fun _=>rfl),dw]
 rcases g7 with ⟨e,_⟩|⟨_,gg7,e,b7⟩
 .have:=congrArg List.length e;rw[wK,n7] at this;cases this
 cases e;rcases g8 with ⟨e,_⟩|⟨_,gg8,e,b8⟩
 .have:=congrArg List.length e;rw[wK,n8] at this;cases this
 cases e;have s506:S.shared 140=true:=ah;have s507:S.shared 141=true:=ah;have Ea:¬(((3:Nat):Int)<3):=ae;simp only[go_sem,i115_l1,i115_r2,h7,jk,lZ,Ea,s506,wK];refine Ao b7 (by rfl) (.inl rfl) (P:=EZ tU 7360640256 gg7 3 (vx ls es) aj) (fun qH h1 h2=>W8 h1 (by rw[h2];kernel_rfl) aa b7) fun v bG hP=>?_;obtain⟨rfl,⟨ws,bw,pw,sw⟩,kw⟩:=hP;have b8':=(kw 7360705280 ae).trans b8;have b6':=(kw 7360064384 ae).trans b6;simp only[go_sem,h8,s506,wK];refine Ao b8' (by rfl) (.inl rfl) (P:=EZ tU 7360705280 gg8 3 (wX ls es) bG) (fun qH h1 h2=>W8 h1 (by rw[h2];kernel_rfl) aa b8') fun v aZ hP=>?_
 obtain⟨rfl,⟨us,bu,pu,su⟩,ku⟩:=hP;have bw':=(ku 7360640256 ae).trans bw;have aiQ:=(ku 7360064384 ae).trans b6';have wl:=pw.length_eq;have ul:=pu.length_eq;have cw:=Zh pw sw;have cu:=Zh pu su;have pcn:=SI g es aa (e0:=av) (by rw[<- hE];rfl) ha 0;have c00:((0:Nat):Int)=0:=rfl;rw[c00] at pcn;have psw:=atO g es mD aa;have ht3:List.take 3 (nP es)=nP es:=fS (by rw[Wn];omega);have hB:tgB F ls av bv cv=((((mW (vx ls es)).length:Int)==6)&&((((mW (wX ls es)).length:Int)==3)&&(es.any (kJ ls · true)&&(es.any (kJ ls · false)&&tq F ls 0 es av)))):=by unfold tgB;rw[hE,dk,PI,PI];rfl
 unfold vz;rw[hB];clear hB;simp only[go_sem,h7,s507,wK,<- wl];refine Ao bw' (by rfl) (.inl rfl) (P:=Sz 7360640256 gg7 3 ws aZ) (fun qH h1 h2=>Zi h1 aa bw') fun v fG hP=>?_;obtain⟨rfl,_,kc⟩:=hP;have bu':=(kc 7360705280 ae).trans bu;have b63:=(kc 7360064384 ae).trans aiQ;rw[cw];have lo:S.lone 7361152128=false:=ah;cases q1:(((mW (vx ls es)).length:Int)==6) with
 |false=>
  have q1':(((mW (vx ls es)).length:Int)!=6)=true:=by simp only[bne,q1];rfl
  simp only[go_sem,q1'];rfl
 |true=>
  have q1':(((mW (vx ls es)).length:Int)!=6)=false:=by simp only[bne,q1];rfl
  simp only[go_sem,h8,q1',s507,wK,<- ul];refine Ao bu' (by rfl) (.inl rfl) (P:=Sz 7360705280 gg8 3 us fG) (fun qH h1 h2=>Zi h1 aa bu') fun v iE hP=>?_;obtain⟨rfl,_,kd⟩:=hP;have xr:=(kd 7360064384 ae).trans b63;rw[cu];cases q2:(((mW (wX ls es)).length:Int)==3) with
  |false=>
   have JE:(((mW (wX ls es)).length:Int)!=3)=true:=by simp only[bne,q2];rfl
   simp only[go_sem,JE];rfl
  |true=>
   have JE:(((mW (wX ls es)).length:Int)!=3)=false:=by simp only[bne,q2];rfl
   cases q3:es.any (kJ ls · true) with
   |false=>rw[q3] at h9;simp only[go_sem,h9,JE];rfl
   |true=>
    rw[q3] at h9;cases q4:es.any (kJ ls · false) with
    |false=>rw[q4] at dF;simp only[go_sem,h9,dF,JE];rfl
    |true=>
     rw[q4] at dF;cases q5:tq F ls 0 es av with
     |false=>rw[q5] at pcn;simp only[go_sem,h0,h6,h9,dF,JE,xr,s135,cS pcn,dw,Wn,ht3];rfl
     |true=>rw[q5] at pcn;simp only[go_sem,h0,h6,h9,dF,JE,xr,s135,cS pcn,s142,dw,Wn,ht3];refine lW psw lo (.inr (nI (Dg _))) fun cc Ae gc zj=>?_;simp only[go_sem];rw[<- hE] at gc;exact xD gc
abbrev VX:List C:=[.p .yn,.p (.fn 108 [] []),.p (.fn 109 [] []),.p (.fn 110 [] []),.p (.fn 111 [] []),.p (.fn 112 [] []),.p (.fn 113 [] []),.p (.fn 114 [] []),.p (.fn 115 [] []),.p (.fn 116 [] []),.p (.fn 116 [] [])]
theorem ami(k:Int):0<=(mZ k).1/\(mZ k).1<=4/\0<=(mZ k).2/\(mZ k).2<=2:=by
 unfold mZ;split
 .simp
 split
 .simp
 split<;>simp
theorem KX(hlen:ls.length<=400)(eV:ay Let.aC ls<=200){k f:Nat}{rest:List C}(hk:VX.drop k=.p (.fn f [] [])::rest)(jH:k<11)(IY:S.shared f=false){a b c:Int}{l o:Bool}{sg:Int}{res:Option (List Pc)}(ha:aI S 93 [.one (.p (eB F ls)),lL k a b c l o sg] (rb true))(hm:aI S f [.one (.p (eB F ls)),lL k a b c l o sg] (kR res))(hL:∀L,res=some L->L.length<=1000000):
  aI S 75 [.one (.p (eB F ls)),lL k a b c l o sg] (y9 F ls k res):=by
 have zu:=alp F;have pg:=amh k;have kA:S.lone 4800192384=false:=ah;have pG:S.lone 4800576128=false:=ah;have hlk:∀(aj:aq),land aj [] 4800192000 ((RV.agg [.p .yn,.p (.fn 108 [] []),.p (.fn 109 [] []),.p (.fn 110 [] []),.p (.fn 111 [] []),.p (.fn 112 [] []),.p (.fn 113 [] []),.p (.fn 114 [] []),.p (.fn 115 [] []),.p (.fn 116 [] []),.p (.fn 116 [] [])]).ig (S.lone 4800192000))=some (.agg VX,[]):=fun aj=>by cases S.lone 4800192000<;>rfl
 have bK:=fi ls;obtain⟨g1,g2,g3,g4⟩:=ami k;have lg:∀aj:aq,land aj [] 4800384128 ((RV.tup [.one (.p (.int .i64 (mZ k).1)),.one (.p (.int .i64 (mZ k).2))]).ig (S.lone 4800384128))=some (.tup [.one (.p (.int .i64 (mZ k).1)),.one (.p (.int .i64 (mZ k).2))],[]):=fun aj=>ia;obtain⟨Lo,Lp,qj⟩:∃x y,mZ k=(x,y):=⟨_,_,rfl⟩;have d4:y9 F ls k none=sX 4:=rfl;have d7:∀L,((400:Int)<(ls.length:Int)+Lo\/(100:Int)<((ay Let.aC ls/2:Nat):Int)+Lp)->y9 F ls k (some L)=sX 7:=fun L h=>by unfold y9;rw[qj];exact if_pos h
 have d0:∀L,¬((400:Int)<(ls.length:Int)+Lo\/(100:Int)<((ay Let.aC ls/2:Nat):Int)+Lp)->y9 F ls k (some L)=pN F (mw L):=fun L h=>by unfold y9;rw[qj];exact if_neg h
 rw[qj] at g1 g2 g3 g4 pg;simp only[qj] at lg;simp only at g1 g2 g3 g4 lg pg;have w1:IntKind.i64.wrap (((pieces ls).length:Int)+Lo)=(ls.length:Int)+Lo:=by rw[bK];exact vC aa aa
 have w2:IntKind.i64.wrap (((ay Let.aC ls/2:Nat):Int)+Lp)=((ay Let.aC ls/2:Nat):Int)+Lp:=vC aa aa;unfold kR at hm;generalize VX=kg at hk hlk;refine aY c75 ?_;simp only[go_sem,i75,s93,cS ha,s94,KT aog (hlk _),hk,jH,IY];refine ake hm kA fun cc bG w gc hb hw=>?_;have b0:=hb 4800000000 ae;have b1:=hb 4800000064 ae;simp only[go_sem] at b0 b1;cases res with
 |none=>rw[d4];simp only[go_sem,b1];refine⟨?_,rfl⟩;rcases hw with rfl|rfl<;>kernel_rfl
 |some L=>
  simp only[mS] at gc;have pfin:=zu L (hL L rfl) (.sl (dJ (pieces ls))) (.sl (tB (eI F ls))) (.sl (nP (nX F ls))) (.int .i64 (ay Let.aA ls:Nat)) (.int .i64 ((ay Let.aC ls/2:Nat):Int)) (.sl (nP (counts ls F)));obtain⟨rs,l6,_⟩:=gc.eL;by_cases h1:(400:Int)<(ls.length:Int)+Lo
  .rw[d7 L (.inl h1)];simp only[go_sem,b0,b1,s95,cX pg (lg _),w1,h1];refine⟨?_,rfl⟩;rcases hw with rfl|rfl<;>kernel_rfl
  by_cases h2:(100:Int)<((ay Let.aC ls/2:Nat):Int)+Lp
  .rw[d7 L (.inr h2)];simp only[go_sem,b0,b1,s95,cX pg (lg _),w1,w2,h1,h2];refine⟨?_,rfl⟩;rcases hw with rfl|rfl<;>kernel_rfl
  rw[d0 L (by rintro (h|h);exact h1 h;exact h2 h)];simp only[go_sem,b0,s95,cX pg (lg _),w1,w2,h1,h2,l6,s96];refine⟨?_,?_⟩
  .rcases hw with rfl|rfl<;>kernel_rfl
  refine alW pfin pG rfl (JM _) fun c2 aZ rO aV=>?_;have b02:=(aV 4800000064 ae).trans b1;simp only[go_sem,b02];exact abV (rO.of_eq (aP ae))
theorem ako{k a b c:Int}{l o:Bool}{sg:Int}(ha:aI S 93 [.one (.p (eB F ls)),lL k a b c l o sg] (rb false)):aI S 75 [.one (.p (eB F ls)),lL k a b c l o sg] (sX 2):=by refine aY c75 ?_;simp only[go_sem,i75,s93,cS ha];try rfl
def qZ(F:Nat)(ls:List Let)(k:Int)(a b c:Nat)(l o:Bool)(sg:Int):Option (List Pc):=if k=1 then xj ls a else if k=2 then amR F ls a b c else if k=3 then xn F ls a b else if k=4 then yg ls a else if k=5 then some (lmR ls a sg o) else if k=6 then yt F ls a b else if k=7 then pmR F ls a b l o else if k=8 then vz F ls a b c else if k=9 then trR F ls a else tlR ls a
def uR(F:Nat)(ls:List Let)(k a b c:Int)(l o:Bool)(sg:Int):RV:=if bt F ls k a b c l o sg then y9 F ls k (qZ F ls k a.toNat b.toNat c.toNat l o sg) else sX 2
theorem aii{k a b c:Int}{l o:Bool}{sg:Int}:(∃e,uR F ls k a b c l o sg=sX e)\/ ∃L,uR F ls k a b c l o sg=pN F L:=by
 unfold uR;split
 .cases qZ F ls k a.toNat b.toNat c.toNat l o sg with
  |none=>exact .inl ⟨4,rfl⟩
  |some L=>
   by_cases h:(400:Int)<(ls.length:Int)+(mZ k).1\/(100:Int)<((ay Let.aC ls/2:Nat):Int)+(mZ k).2
   .exact .inl ⟨7,if_pos h⟩
   exact .inr ⟨mw L,if_neg h⟩
 exact .inl ⟨2,rfl⟩
theorem aim{k a b c:Int}{l o:Bool}{sg:Int}{res:RV}(po:aI S 74 [eY F ls] (vu (eB F ls) (.int .i64 0)))(hd:aI S 75 [.one (.p (eB F ls)),lL k a b c l o sg] res)(fin:(∃e,res=sX e)\/ ∃L,res=pN F L):
  aI S 46 [eY F ls,lL k a b c l o sg] res:=by
 have lo:S.lone 2944256128=false:=ah;refine aY c46 ?_;rcases fin with ⟨e,rfl⟩|⟨L,rfl⟩
 .simp only[go_sem,i46,s74,cX po ia,s75,cX hd aoj];rfl
 simp only[go_sem,i46,s74,cX po ia,s75];refine abG hd lo fun cc bG gc hb=>?_;have b4:=hb 2944000128 ae;simp only[go_sem] at b4;simp only[go_sem,b4];exact abV (gc.of_eq (aP ae))
theorem k8{n:Nat}{i:Int}(h:jo n i=true):∃k:Nat,i=(k:Int)/\k<n:=by unfold jo at h;simp at h;exact⟨i.toNat,aa,aa⟩
theorem VZ(l:List Pc)(drop:Nat->Pc->Bool):(k9 l drop).length<=l.length:=GA l drop l.length
theorem agf(l:List Pc)(i:Nat)(g r:Int):(QR l i g r).length=l.length:=by simp[QR]
theorem apD{k:Int}{a b c:Nat}{l o:Bool}{sg:Int}{L:List Pc}(h:qZ F ls k a b c l o sg=some L):L.length<=ls.length+4:=by
 have hp:=fi ls;unfold qZ at h;repeat' split at h
 .unfold xj at h;simp only at h;split at h
  .cases h;have:=VZ (pieces ls) (fun k _=>decide (k=a)||decide (k=(a+1)%ls.length));simp only[jP,cF];omega
  cases h
 .unfold amR at h;split at h
  .cases h;simp only[Oa,PD,jP,cF,cq,dN];omega
  split at h
  .cases h;simp only[Oa,PD,jP,cF,cq,dN];omega
  cases h
 .unfold xn at h;split at h
  .cases h;simp only[Bo,yy];omega
  cases h
 .unfold yg at h;simp only at h;split at h
  .cases h;have:=VZ (pieces ls) (sD [((pieces ls).getD a ⟨j9,false⟩).l.id]);simp only[FK,cF];omega
  cases h
 .cases h;simp only[lmR,PD,cq,dN];omega
 .unfold yt at h;split at h
  .cases h;have:=VZ (pieces ls) (sD [(pA ls a).l.id,(pA ls (nx ls a)).l.id]);simp only[FK,cF];omega
  cases h
 .have key:∀s t,pmV ls a b l o s t=some L->L.length<=ls.length+4:=fun s t h=>by
   unfold pmV at h;split at h
   .cases h
   simp only[fq] at h;subst h;have h2:∀x sg o s,(pmS x sg o s).length=2:=fun x sg o s=>by unfold pmS;split<;>rfl
   split<;>simp only[PD,h2,cq,dN]<;>omega
  unfold pmR at h;split at h
  .exact key _ _ h
  exact key _ _ h
 .unfold vz at h;split at h
  .cases h;simp only[Bo];omega
  cases h
 .unfold trR at h;split at h
  .cases h;simp only[agf,jP,cF];omega
  cases h
 unfold tlR at h;split at h
 .cases h;simp only[agf,jP,cF];omega
 cases h
theorem ain{k a b c:Int}{l o:Bool}{sg:Int}(h:bt F [] k a b c l o sg=true):∃bv:Nat,k=2/\a=0/\b=(bv:Int)/\bv<=F/\c=0/\l=false/\o=false/\sg=0:=by
 have hi:∀i:Int,jo 0 i=false:=fun i=>by unfold jo;simp
 unfold bt at h;by_cases h2:k=2
 .subst h2;simp only[if_true,dN,hi,Bw,cH,kV,beq_iff_eq,decide_eq_true_eq] at h;obtain⟨rfl,rfl,rfl,⟨_,rfl⟩,mA,hbF,hc0,tH⟩:=h;obtain⟨bv,rfl⟩:=r8 mA;have:cg [] ((bv:Int).toNat)=0:=rfl;rw[this] at tH;exact⟨bv,rfl,rfl,rfl,aa,aa,rfl,rfl,rfl⟩
 simp[h2,hi] at h
abbrev lA(ls:List Let)(i:Nat):Let:=ls.getD i j9
theorem adQ{i:Nat}{l:Let}(h:ls[i]?=some l):lA ls i=l:=by rw[lA,de,h];rfl
theorem A0{i:Nat}(h:i<ls.length):ls[i]?=some (lA ls i):=by obtain⟨l,hl⟩:=aK h;rw[adQ hl,hl]
theorem szL(l:List Let):gC 6 (dA l)=true:=by simp[gC,Let.ps]
theorem aoJ(a b:List Let):dA (a++b)=dA a++dA b:=km
theorem aoL{L:List Let}(h:L≠[]):dA L≠[]:=by simpa [dA] using h
def leq(a b:Let):Bool:=(a.kind==b.kind)&&((a.gate==b.gate)&&((a.aB==b.aB)&&((a.id==b.id)&&((a.sign==b.sign)&&(a.over==b.over)))))
theorem ZZ(x y:Let):uX [true,true,true,true,true,false] [.p (.int .i64 x.kind),.p (.int .i64 x.gate),.p (.int .i64 x.aB),.p (.int .i64 x.id),.p (.int .i64 x.sign),.p (.bool x.over)] [.p (.int .i64 y.kind),.p (.int .i64 y.gate),.p (.int .i64 y.aB),.p (.int .i64 y.id),.p (.int .i64 y.sign),.p (.bool y.over)]=some (leq x y):=by
 have e:∀a b:Int,uv true (.int .i64 a) (.int .i64 b)=some (a==b):=fun a b=>by simp[uv]
 have e2:∀a b:Bool,uv false (.bool a) (.bool b)=some (a==b):=fun a b=>by simp[uv]
 simp only[uX,leq,e,e2];cases (x.kind==y.kind)<;>cases (x.gate==y.gate)<;>cases (x.aB==y.aB)<;>cases (x.id==y.id)<;>cases (x.sign==y.sign)<;>cases (x.over==y.over)<;>rfl
theorem M6(x:Let):leq x x=true:=by simp[leq]
theorem afY(L:List Let)(k:Nat)(hk:k<=L.length)(hl:L.length<=1000000):aI S 78 [.one (.p (cP L)),vi k] (.one (aR lK 6 (dA (L.drop k++L.take k)))):=by
 have hs6:=szL L;have zq:List.take (L.length-k) (List.drop k (dA L))=dA (L.drop k):=by rw[fS af];simp[List.map_drop]
 have lH:List.take k (dA L)=dA (L.take k):=by simp[Hj]
 rw[aoJ];refine aY c78 ?_;simp only[go_sem,i78,hk,hs6,zq];refine xz (id:=4992064192) (bytes:=48) grown.nil (xs:=dA (L.drop k)) (rd:=[]) rfl (.inr (szL _)) (by simp;omega) fun c1 bG r w g1 cU hw=>?_;rw[fp] at g1;simp only[go_sem,hk,hs6,lH];refine xz (bytes:=48) g1 (xs:=dA (L.take k)) (rd:=[]) rfl (.inr (szL _)) (by simp;omega) fun c2 aZ r2 w2 g2 aV hw2=>?_;simp only[go_sem];refine⟨?_,tE g2⟩;rcases hw with ⟨rfl,rfl⟩|⟨rfl,rfl⟩|⟨rfl,rfl⟩<;>rcases hw2 with ⟨rfl,rfl⟩|⟨rfl,rfl⟩|⟨rfl,rfl⟩<;>kernel_rfl

theorem Fp{S:Sys}{f:Nat}{fn:aW}{args:List V}{P:RV->Prop}(hp:S.prim f args=none)(hf:S.fns f=some fn)(hl:args.length<=fn.ntmps)
  (h:W S .all fn.body (lE .all fn.results fun v aj=>∃r,P r/\iA aj v=some r) (rX args) zO):∃r,P r/\aI S f args r:=by
 obtain⟨n,v,ao,h1,r,h3,h2⟩:=RO h;refine⟨r,h3,n+1,?_⟩;rw[gh];simp only[hp,hf,hl,if_true];unfold EU;simp only[h1,h2]
theorem YS{l:List Let}(aF:l≠[])(hl:l.length<=1000000):aI S 47 [.one (.p (cP l))] (.one (aR lK 6 (dA l))):=by
 have hs:((dA l).all fun e=>e.length==6)=true:=szL l;have hr:(0+(dA l).length)*48<=room:=by unfold room;rw[cF];omega
 show aI S _ [.one (.p (.sl (dA l)))] _;obtain⟨e0,es,hq⟩:∃e0 es,dA l=e0::es:=by cases l with
  |nil=>exact absurd rfl aF
  |cons a t=>exact⟨_,_,rfl⟩
 rw[hq] at hs hr ⊢;refine aY c47 ?_;have aF:e0::es≠[]:=af;have qj:aR lK 6 (e0::es)=.own lK 6 (e0::es):=if_neg aF;rw[qj];unfold room at hr;simp only[iD,cq] at hr;simp only[lk] at hs;simp only[go_sem,i47,fj,gC];simp only[hs,hr,not_true_eq_false,if_true,if_false];simp only[go_sem];exact Nl sZ rfl
abbrev mkE(M:List (Int×Int)):List (PV×List PV):=M.map fun e=>(PV.int .i64 e.1,[PV.int .i64 e.2])
def fiM:List (Int×Int)->Int->Nat->Option (Nat×Int)
 |[],_,_=>none
 |(a,v)::r,x,i=>if x==a then some (i,v) else fiM r x (i+1)
theorem abe(M:List (Int×Int))(x:Int):∀i,oU (.int .i64 x) (mkE M) i=some ((fiM M x i).map fun p=>(p.1,[PV.int .i64 p.2])):=by
 induction M with
 |nil=>intro i;rfl
 |cons e M ih=>
  intro i;obtain⟨a,v⟩:=e;show oU (.int .i64 x) ((PV.int .i64 a,[PV.int .i64 v])::mkE M) i=_;unfold oU;have hs:sameKey (.int .i64 x) (.int .i64 a)=some (x==a):=by simp[sameKey]
  rw[hs];unfold fiM;cases (x==a) with
  |true=>rfl
  |false=>exact ih (i+1)
theorem aew(M:List (Int×Int))(x v:Int):mkE M++[(PV.int .i64 x,[PV.int .i64 v])]=mkE (M++[(x,v)]):=af
theorem ad6(l:List Let)(k:Nat)(p:Let):(dA l).set k p.ps=dA (l.set k p):=by simp[List.map_set]
theorem ad3{e:List PV}(h:e.length=6):∃x0 x1 x2 x3 x4 x5,e=[x0,x1,x2,x3,x4,x5]:=by
 match e,h with
 |[x0,x1,x2,x3,x4,x5],_=>exact⟨_,_,_,_,_,_,rfl⟩
theorem arK{al:Al}{aj:aq}{id:Nat}{es:List (List PV)}{c:C}(o:es=[]\/al.ok id=true)(hl:es.length<=1000000)(mD:∀e∈es,e.length=6/\ ∀v∈e,v.norm=v)(h:grown id ty 6 es (.one c) aj):
  ∃v ao,iJ S 97 [.one c] al aj v ao/\GW id ty 6 es c aj v ao:=by
 refine mr c97 (gY rfl) ?_;rcases h with ⟨rfl,h2⟩|⟨aF,g,h2,hC⟩
 .cases h2;have w0:IntKind.i64.wrap (((0:Nat):Int)-1)= -1:=ae;have hz:¬((0:Int)< -1):=ae;simp only[go_sem,i97,w0];refine cV (fun k ak ao=>k=0/\ak 2=vi 0/\ak 3=vi (-1)/\ao=aj) 0 0 (aX _) ?_ ?_
  .simp only[go_sem]
  rintro k ak ao _ ⟨rfl,h2,h3,rfl⟩
  simp only[go_sem,i97_l1,h2,h3,hz];exact⟨rfl,.inl ⟨rfl,rfl⟩,fun _ _=>rfl⟩
 cases h2;have o:=o.resolve_left aF;have w0:=yE (a:=es.length) aa;simp only[go_sem,i97,w0];refine cV (fun k ak ao=>ak 0=.one (.hsl id g 6 0 es.length)/\ak 2=vi k/\ak 3=vi ((es.length:Int)-1-(k:Int))/\ ∃fs,ao id=(g,some (.arr ty 6 fs))/\wU es fs k/\Kept (· =id) aj ao) 0 es.length (bd _) ?_ ?_
 .simp only[go_sem];refine⟨rfl,af,es,hC,wU.start es,Kept.refl _ _⟩
 rintro k ak ao hk ⟨h0,h2,h3,fs,hF,hI,dd⟩
 by_cases aw:k<es.length-1-k
 .have e1:((es.length:Int)-1-(k:Int))=((es.length-1-k:Nat):Int):=aa;rw[e1] at h3;have aL:((k:Int)<((es.length-1-k:Nat):Int)):=aa;have w1:=cK (n:=k) aa;have w2:IntKind.i64.wrap (((es.length-1-k:Nat):Int)-1)=((es.length:Int)-1-((k+1:Nat):Int)):=by
   rw[yE aa];omega
  obtain⟨a,ha⟩:=aK (show k<es.length by omega);obtain⟨b,hb⟩:=aK (show es.length-1-k<es.length by omega);obtain⟨fa,fb,we⟩:=hI.step aw ha hb;obtain⟨la,na⟩:=mD a (aU ha);obtain⟨lb,nb⟩:=mD b (aU hb);obtain⟨x0,x1,x2,x3,x4,x5,rfl⟩:=ad3 la;obtain⟨y0,y1,y2,y3,y4,y5,rfl⟩:=ad3 lb;have Mx:=na x0 af;have VB:=na x1 af;have anb:=na x2 af;have ane:=na x3 af;have anf:=na x4 af;have ang:=na x5 af;have My:=nb y0 af;have VC:=nb y1 af;have anh:=nb y2 af;have ani:=nb y3 af;have anj:=nb y4 af;have ank:=nb y5 af;have rR:=hI.len;have Ge:¬(k=es.length-1-k):=aa;have ack:¬(es.length-1-k=k):=aa;have l1:k<fs.length:=aa;have l2:es.length-1-k<fs.length:=aa;have l3:k<es.length:=aa;have l4:es.length-1-k<es.length:=aa
  simp only[go_sem,i97_l1,h0,h2,h3,hF,aL,fa,fb,w1,w2,o,l1,l3,l4,Ge,Mx,VB,anb,ane,anf,ang,My,VC,anh,ani,anj,ank,oI];refine⟨aH,_,rfl,we,?_⟩;exact(dd.dB rfl _).dB rfl _
 have aL:¬((k:Int)<(es.length:Int)-1-(k:Int)):=aa;simp only[go_sem,i97_l1,h2,h3,aL];refine⟨rfl,?_,dd⟩;rw[hI.done aw] at hF;exact .inr ⟨by simpa using aF,g,by rw[qD],hF⟩
theorem aoN(l:List Let):∀e∈dA l,e.length=6/\ ∀v∈e,v.norm=v:=fun e he=>by obtain⟨x,_,rfl⟩:=dq.1 he;refine⟨rfl,fun v hv=>?_⟩;simp only[Let.ps,cM,iO,or_false] at hv;rcases hv with rfl|rfl|rfl|rfl|rfl|rfl<;>rfl
theorem aoM(l:List Let):(dA l).reverse=dA l.reverse:=af
theorem We{s:Nat}(h:s/64000000=48):S.lone s=true:=by show EN aec (s/64000000)=true;rw[h];kernel_rfl
theorem GC{aj:aq}{s:Nat}{L:List Let}(aF:L≠[])(hs:S.lone s=true):land aj [] s ((RV.one (aR lK 6 (dA L))).ig (S.lone s))=some (.one (.p (cP L)),[]):=by rw[hs,amf (aoL aF)];unfold land;rw[if_pos (.inl rfl)];rfl

abbrev nK:Prop:=aI S 47 [.one (.p (.sl []))] (.one (.p (.sl [])))
theorem revE{al:Al}{aj:aq}:∃v ao,iJ S 97 [.one (.p (.sl []))] al aj v ao/\(v=.tup []/\ao=aj):=by
 refine mr c97 (gY rfl) ?_;have w0:IntKind.i64.wrap (((0:Nat):Int)-1)= -1:=ae;have hz:¬((0:Int)< -1):=ae;simp only[go_sem,i97,w0];refine cV (fun k ak ao=>k=0/\ak 2=vi 0/\ak 3=vi (-1)/\ao=aj) 0 0 (aX _) ?_ ?_
 .simp only[go_sem]
 rintro k ak ao _ ⟨rfl,h2,h3,rfl⟩
 simp only[go_sem,i97_l1,h2,h3,hz]
theorem adT{aj:aq}{s:Nat}{x:PV}{l:Bool}:land aj [] s ((RV.one (.p x)).ig l)=some (.one (.p x),[]):=by cases l<;>rfl
theorem aiS(bQ:nK)(F:Int):aI S 76 [.one (.p (y8 F))] (.one (.p (.sl []))):=by
 refine aY c76 ?_;simp only[go_sem,i76,s47,cX bQ adT,s97];refine rM (P:=fun v ao=>v=.tup []/\ao=zO) zH revE ?_;rintro v ao ⟨rfl,rfl⟩
 simp only[go_sem];refine cV (fun k ak aj=>k=0/\ak 3=.one (.p (.sl []))/\ak 15=vi 0/\ak 16=vi 0) 0 0 (aX _) ?_ ?_
 .simp only[go_sem];rfl
 rintro k ak aj _ ⟨rfl,h3,jG,oX⟩
 have hz:¬((0:Int)<0):=ae;simp only[go_sem,i76_l1,i76_r2,h3,jG,oX,hz]
theorem apK(bQ:nK)(F:Int):aI S 48 [.one (.p (y8 F))] (.agg [.p (.int .i64 F),.p .nils]):=by
 have pb:=aiS bQ F;refine aY c48 ?_;simp only[go_sem,i48,s76,KT pb adT];refine⟨aH,?_⟩;refine cV (fun k ak aj=>ak 0=.one (.p (y8 F))/\ak 2=.one (.bk 3072000000 1 0)/\ak 17=.one (.hsl 3072128448 1 1 0 2)/\ak 18=vi 2/\ak 19=vi k/\ak 3=.one (.p .nils)/\
  aj 3072000000=(1,some (.var [.p (.int .i64 0),.p .nils]))/\aj 3072128448=(1,some (.arr 22 1 [[.sl []],[.sl []]]))) 0 2 (bd _) ?_ ?_
 .simp only[go_sem];first|done|rfl|exact⟨rfl,rfl⟩
 rintro k ak aj hk ⟨h0,h2,gJ,gK,gG,h3,b0,bB⟩
 by_cases aw:k<2
 .have Vp:k=0\/k=1:=aa;have l02:((0:Nat):Int)<2:=ae;have l12:((1:Nat):Int)<2:=ae;have hz:¬((0:Int)<0):=ae;rcases Vp with rfl|rfl
  .simp only[go_sem,i48_l3,gJ,gK,gG,bB,l02];refine cV (fun i aD ao=>i=0/\ao=aj/\aD 0=ak 0/\aD 2=ak 2/\aD 17=ak 17/\aD 18=ak 18/\aD 19=ak 19/\aD 3=ak 3/\aD 24=vi 0/\aD 25=vi 0) 0 0 (aX _) ?_ ?_
   .simp only[go_sem];first|done|rfl|exact⟨rfl,rfl⟩
   rintro i aD ao _ ⟨rfl,rfl,e0,e2,H0,Ia,e19,e3,e24,e25⟩
   simp only[go_sem,i48_l1,i48_r2,e0,e2,H0,Ia,e19,e3,e24,e25,h0,h2,h3,gJ,gK,gG,b0,bB,hz];first|done|rfl|exact⟨rfl,rfl⟩
  simp only[go_sem,i48_l3,gJ,gK,gG,bB,l12];refine cV (fun i aD ao=>i=0/\ao=aj/\aD 0=ak 0/\aD 2=ak 2/\aD 17=ak 17/\aD 18=ak 18/\aD 19=ak 19/\aD 3=ak 3/\aD 24=vi 0/\aD 25=vi 0) 0 0 (aX _) ?_ ?_
  .simp only[go_sem];first|done|rfl|exact⟨rfl,rfl⟩
  rintro i aD ao _ ⟨rfl,rfl,e0,e2,H0,Ia,e19,e3,e24,e25⟩
  simp only[go_sem,i48_l1,i48_r2,e0,e2,H0,Ia,e19,e3,e24,e25,h0,h2,h3,gJ,gK,gG,b0,bB,hz];first|done|rfl|exact⟨rfl,rfl⟩
 have:k=2:=aa;subst this;have l22:¬(((2:Nat):Int)<2):=ae;simp only[go_sem,i48_l3,i48_r4,h0,h2,h3,gK,gG,b0,l22];first|done|rfl|exact⟨rfl,rfl⟩
theorem ajA:nK:=⟨1,ah⟩
theorem aoi{aj:aq}{s:Nat}{x c:PV}{l:Bool}:land aj [] s ((RV.agg [.p x,.p c]).ig l)=some (.agg [.p x,.p c],[]):=by cases l<;>rfl

theorem adS{aj:aq}{s:Nat}{x c e:PV}{l:Bool}:land aj [] s ((RV.tup [.agg [.p x,.p c],.one (.p e)]).ig l)=some (.tup [.agg [.p x,.p c],.one (.p e)],[]):=by cases l<;>rfl

structure a7 where
 k:Int
 a:Int
 b:Int
 c:Int
 l:Bool
 o:Bool
 s:Int
def a7.ps(m:a7):List PV:=[.int .i64 m.k,.int .i64 m.a,.int .i64 m.b,.int .i64 m.c,.bool m.l,.bool m.o,.int .i64 m.s]
abbrev nZ(ms:List a7):PV:=.sl (ms.map a7.ps)
theorem Nd{ms:List a7}{k:Nat}{m:a7}(h:ms[k]?=some m):(ms.map a7.ps)[k]?=some m.ps:=by rw[fR,h];rfl
def KM(L:List Let)(c:C)(aj:aq):Prop:=grown 3776256128 lK 6 (dA L) (.one c) aj\/grown 3776512129 lK 6 (dA L) (.one c) aj\/(L=[]/\c=.p (.sl []))
theorem KM.snap{L:List Let}{c:C}{aj:aq}(h:KM L c aj):∃r,Go.Abs.snap aj eL c=some (cP L,r):=by
 rcases h with h|h|⟨rfl,rfl⟩
 .obtain⟨r,h1,_⟩:=h.eL;exact⟨r,h1⟩
 .obtain⟨r,h1,_⟩:=h.eL;exact⟨r,h1⟩
 exact⟨[],rfl⟩
theorem KM.of_eq{L:List Let}{c:C}{aj ao:aq}(h:KM L c aj)(h1:ao 3776256128=aj 3776256128)(h2:ao 3776512129=aj 3776512129):KM L c ao:=by
 rcases h with h|h|h
 .exact .inl (h.of_eq h1)
 .exact .inr (.inl (h.of_eq h2))
 exact .inr (.inr h)
theorem aok{aj:aq}{rd:List Nat}{s:Nat}{e:Int}{l:Bool}:land aj rd s ((sX e).ig l)=some (.tup [.agg [.p (.int .i64 0),.p .nils],.one (.p (.int .i64 e))],[]):=by cases l<;>(unfold land;rw[if_pos (.inr rfl)];rfl)
def isN(r:RV):Prop:= ∃i:Int,r=ri i
abbrev GG(m:a7):V:=lL m.k m.a m.b m.c m.l m.o m.s
section
variable {Q:dy} {ak:Env} {aj:aq} {os:List bl} {d:Option Nat}
end
def KL(s:Nat)(L:List Let)(c:C)(aj:aq):Prop:=grown s lK 6 (dA L) (.one c) aj\/(L=[]/\c=.p (.sl []))
theorem KL.snap{s:Nat}{L:List Let}{c:C}{aj:aq}(h:KL s L c aj):∃r,Go.Abs.snap aj eL c=some (cP L,r):=by
 rcases h with h|⟨rfl,rfl⟩
 .obtain⟨r,h1,_⟩:=h.eL;exact⟨r,h1⟩
 exact⟨[],rfl⟩
theorem KL.of_eq{s:Nat}{L:List Let}{c:C}{aj ao:aq}(h:KL s L c aj)(h1:ao s=aj s):KL s L c ao:=by
 rcases h with h|h
 .exact .inl (h.of_eq h1)
 exact .inr h
section
variable {Q:dy} {ak:Env} {aj:aq} {os:List bl} {d:Option Nat}
end
end
end Go.Abs
