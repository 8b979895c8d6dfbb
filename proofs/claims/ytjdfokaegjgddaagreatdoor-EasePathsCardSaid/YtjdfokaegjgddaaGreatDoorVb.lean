/- A part. -/
import Derived.Test.YtjdfokaegjgddaaGreatDoorWw
set_option linter.all false
set_option maxRecDepth 100000
set_option maxHeartbeats 16000000
namespace Go.Abs
section
variable{ls:List Let}{x:Int}{F ty:Nat}{ws:List Int}
section
attribute [local go_sem ↓] fm1 fm2
def aV(F:Nat)(ls:List Let)(k a b c:Int)(l o:Bool)(sg:Int):Bool:=
 if k=2 then !l&&(!o&&(sg==0&&((rJ ls.length a||(ls.length==0&&a==0))&&(decide (0<=b)&&(decide (b<=(F:Int))&&(decide (0<=c)&&decide (c<=(cg ls b.toNat:Int))))))))
 else if k=3\/k=6 then !l&&(!o&&(sg==0&&(rJ ls.length a&&(c==0&&(rJ ls.length b&&decide (a<b))))))
 else if k=5 then !l&&((sg==1||sg== -1)&&(rJ ls.length a&&(b==0&&c==0)))
 else if k=7 then sg==0&&(rJ ls.length a&&(c==0&&(rJ ls.length b&& !(a==b))))
 else if k=8 then !l&&(!o&&(sg==0&&(rJ ls.length a&&(rJ ls.length b&&(rJ ls.length c&&(decide (a<b)&&decide (b<c)))))))
 else if k=1\/k=4\/k=9\/k=10 then !l&&(!o&&(sg==0&&(rJ ls.length a&&(b==0&&c==0))))
 else false
theorem iI{i:Int}{x:Bool}(h:rJ ls.length i=x):bz S 93 [vi i,.one (.p (.box [.int .i64 ls.length]))] (rb x):=h▸Xx i ls.length
theorem qK(h:¬x=0):(x==0)=false/\(x !=0)=true:=by simp[h]
theorem My{y:Int}(h:¬x=y):(x==y)=false/\(x !=y)=true:=by simp[h]
section
variable {F:Nat} {ls:List Let} {a b c:Int} {l o:Bool} {sg:Int}
theorem TI:bz S 75 [.one (.p (fp F ls)),oG 1 a b c l o sg] (rb (aV F ls 1 a b c l o sg)):=by
 obtain⟨v,hv⟩:∃v,aV F ls 1 a b c l o sg=v:=⟨_,rfl⟩;rw[hv];refine aP c75 ?_;simp only[go_sem,i75,aB];refine bd [0,3,4,5,6,7,8,9,10,41] fun e1 YS=>?_;simp only[go_sem] at YS;cases l with
 |true=>
  obtain rfl:v=false:=by rw[<- hv];simp[aV]
  simp only[go_sem,YS]
 |false=>
  simp only[go_sem,YS];refine bd [0,3,4,5,6,7,8,9,10,53] fun e2 YM=>?_;simp only[go_sem,YS] at YM;cases o with
  |true=>
   obtain rfl:v=false:=by rw[<- hv];simp[aV]
   simp only[go_sem,YM]
  |false=>
   simp only[go_sem,YM];refine bd [0,3,4,5,6,7,8,9,10,60] fun e3 YI=>?_;simp only[go_sem,YM] at YI;by_cases hs:sg=0
   rotate_left
   .have ZF:=(qK hs).1;have Zd:=(qK hs).2;obtain rfl:v=false:=by rw[<- hv];simp[aV,hs]
    simp only[go_sem,YI,Zd]
   subst hs;cases hA:rJ ls.length a with
   |false=>
    have pA:=iI hA;obtain rfl:v=false:=by rw[<- hv];simp[aV,hA]
    simp only[go_sem,s93,YI,az pA]
   |true=>
    have pA:=iI hA;simp only[go_sem,s93,YI,az pA];refine bd [3,4,6,7,9,133] fun e4 YX=>?_;simp only[go_sem,YI] at YX;by_cases hb:b=0
    rotate_left
    .have Yo:=(qK hb).2;obtain rfl:v=false:=by rw[<- hv];simp[aV,hA,hb]
     simp only[go_sem,YX,Yo]
    subst hb;simp only[go_sem,YX];refine bd [3,4,6,7,9,142] fun e5 Z2=>?_;simp only[go_sem,YX] at Z2;by_cases hc:c=0
    rotate_left
    .have Zz:=(qK hc).2;obtain rfl:v=false:=by rw[<- hv];simp[aV,hA,hc]
     simp only[go_sem,Z2,Zz]
    subst hc;obtain rfl:v=true:=by rw[<- hv];simp[aV,hA]
    simp only[go_sem,Z2]
theorem TH:bz S 75 [.one (.p (fp F ls)),oG 2 a b c l o sg] (rb (aV F ls 2 a b c l o sg)):=by
 obtain⟨v,hv⟩:∃v,aV F ls 2 a b c l o sg=v:=⟨_,rfl⟩;rw[hv];refine aP c75 ?_;simp only[go_sem,i75,aB];refine bd [0,3,4,5,6,7,8,9,10,41] fun e1 YS=>?_;simp only[go_sem] at YS;cases l with
 |true=>
  obtain rfl:v=false:=by rw[<- hv];simp[aV]
  simp only[go_sem,YS]
 |false=>
  simp only[go_sem,YS];refine bd [0,3,4,5,6,7,8,9,10,53] fun e2 YM=>?_;simp only[go_sem,YS] at YM;cases o with
  |true=>
   obtain rfl:v=false:=by rw[<- hv];simp[aV]
   simp only[go_sem,YM]
  |false=>
   simp only[go_sem,YM];refine bd [0,3,4,5,6,7,8,9,10,60] fun e3 YI=>?_;simp only[go_sem,YM] at YI;by_cases hs:sg=0
   rotate_left
   .have ZF:=(qK hs).1;have Zd:=(qK hs).2;obtain rfl:v=false:=by rw[<- hv];simp[aV,hs]
    simp only[go_sem,YI,Zd]
   subst hs;cases hA:rJ ls.length a with
   |true=>
    have pA:=iI hA;simp only[go_sem,s93,YI,dF pA];refine gi [0,3,4,6,7,9,92] fun e4 YX=>?_;simp only[go_sem,YI] at YX;by_cases hB1:0<=b
    rotate_left
    .obtain rfl:v=false:=by rw[<- hv];simp[aV,hA,hB1]
     simp only[go_sem,YX,hB1];exact aH
    simp only[go_sem,YX,hB1];refine gi [0,3,4,6,7,9,101] fun e5 Z2=>?_;simp only[go_sem,YX] at Z2;by_cases hB2:b<=(F:Int)
    rotate_left
    .obtain rfl:v=false:=by rw[<- hv];simp[aV,hA,hB1,hB2]
     simp only[go_sem,Z2,hB2];exact aH
    obtain⟨B,rfl⟩:=abs hB1;have hBF:B<=F:=by omega
    have hca:=dQ (jI (ls:=ls) hBF);have h5:B<F+1:=by omega
    have h6:(counts ls F).length=F+1:=by simp[counts]
    simp only[go_sem,Z2,hB2];refine gi [0,3,4,6,7,9,106] fun e6 hh6=>?_;simp only[go_sem,Z2] at hh6;by_cases hC1:0<=c
    rotate_left
    .obtain rfl:v=false:=by rw[<- hv];simp[aV,hA,hB1,hB2,hC1]
     simp only[go_sem,hh6,hC1];exact aH
    by_cases hC2:c<=(cg ls B:Int)
    rotate_left
    .obtain rfl:v=false:=by rw[<- hv];simp[aV,hA,hB1,hB2,hC1,hC2]
     simp only[go_sem,hca,hh6,hC1,hC2];exact aH
    obtain rfl:v=true:=by rw[<- hv];simp[aV,hA,hB1,hB2,hC1,hC2]
    simp only[go_sem,hca,hh6,hC1,hC2];exact aH
   |false=>
    have pA:=iI hA;by_cases hn:ls.length=0
    rotate_left
    .have hn2:((ls.length:Int)==0)=false:=beq_false_of_ne (by omega);have hn3:ls≠[]:=fun h=>hn (by rw[h];rfl);obtain rfl:v=false:=by rw[<- hv];simp[aV,hA,hn]
     simp only[go_sem,s93,YI,dF pA,hn2];exact aH
    have hn2:((ls.length:Int)==0)=true:=by rw[hn];rfl
    have hn3:=ad2.mp hn;by_cases ha:a=0
    rotate_left
    .have ha1:=(qK ha).1;obtain rfl:v=false:=by rw[<- hv];simp[aV,hn3,ha,show rJ 0 a=false by rw[<- hn];exact hA]
     simp only[go_sem,s93,YI,dF pA,hn2,ha1];exact aH
    subst ha;simp only[go_sem,s93,YI,dF pA,hn2];refine gi [0,3,4,6,7,9,92] fun e7 hh7=>?_;simp only[go_sem,YI] at hh7;by_cases hB1:0<=b
    rotate_left
    .obtain rfl:v=false:=by rw[<- hv];simp[aV,hn,hB1]
     simp only[go_sem,hh7,hB1];exact aH
    simp only[go_sem,hh7,hB1];refine gi [0,3,4,6,7,9,101] fun e8 hh8=>?_;simp only[go_sem,hh7] at hh8;by_cases hB2:b<=(F:Int)
    rotate_left
    .obtain rfl:v=false:=by rw[<- hv];simp[aV,hn,hB1,hB2]
     simp only[go_sem,hh8,hB2];exact aH
    obtain⟨B,rfl⟩:=abs hB1;have hBF:B<=F:=by omega
    have hca:=dQ (jI (ls:=ls) hBF);have h5:B<F+1:=by omega
    have h6:(counts ls F).length=F+1:=by simp[counts]
    simp only[go_sem,hh8,hB2];refine gi [0,3,4,6,7,9,106] fun e9 hh9=>?_;simp only[go_sem,hh8] at hh9;by_cases hC1:0<=c
    rotate_left
    .obtain rfl:v=false:=by rw[<- hv];simp[aV,hn,hB1,hB2,hC1]
     simp only[go_sem,hh9,hC1];exact aH
    by_cases hC2:c<=(cg ls B:Int)
    rotate_left
    .obtain rfl:v=false:=by rw[<- hv];simp[aV,hn,hB1,hB2,hC1,hC2]
     simp only[go_sem,hca,hh9,hC1,hC2];exact aH
    obtain rfl:v=true:=by rw[<- hv];simp[aV,hn,hB1,hB2,hC1,hC2]
    simp only[go_sem,hca,hh9,hC1,hC2];exact aH
theorem TG:bz S 75 [.one (.p (fp F ls)),oG 3 a b c l o sg] (rb (aV F ls 3 a b c l o sg)):=by
 obtain⟨v,hv⟩:∃v,aV F ls 3 a b c l o sg=v:=⟨_,rfl⟩;rw[hv];refine aP c75 ?_;simp only[go_sem,i75,aB];refine bd [0,3,4,5,6,7,8,9,10,41] fun e1 YS=>?_;simp only[go_sem] at YS;cases l with
 |true=>
  obtain rfl:v=false:=by rw[<- hv];simp[aV]
  simp only[go_sem,YS]
 |false=>
  simp only[go_sem,YS];refine bd [0,3,4,5,6,7,8,9,10,53] fun e2 YM=>?_;simp only[go_sem,YS] at YM;cases o with
  |true=>
   obtain rfl:v=false:=by rw[<- hv];simp[aV]
   simp only[go_sem,YM]
  |false=>
   simp only[go_sem,YM];refine bd [0,3,4,5,6,7,8,9,10,60] fun e3 YI=>?_;simp only[go_sem,YM] at YI;by_cases hs:sg=0
   rotate_left
   .have ZF:=(qK hs).1;have Zd:=(qK hs).2;obtain rfl:v=false:=by rw[<- hv];simp[aV,hs]
    simp only[go_sem,YI,Zd]
   subst hs;cases hA:rJ ls.length a with
   |false=>
    have pA:=iI hA;obtain rfl:v=false:=by rw[<- hv];simp[aV,hA]
    simp only[go_sem,s93,YI,az pA]
   |true=>
    have pA:=iI hA;simp only[go_sem,s93,YI,az pA];refine bd [3,4,6,7,9,142] fun e4 YX=>?_;simp only[go_sem,YI] at YX;by_cases hc:c=0
    rotate_left
    .have Zz:=(qK hc).2;obtain rfl:v=false:=by rw[<- hv];simp[aV,hA,hc]
     simp only[go_sem,YX,Zz]
    subst hc;cases hB:rJ ls.length b with
    |false=>
     have pB:=iI hB;obtain rfl:v=false:=by rw[<- hv];simp[aV,hA,hB]
     simp only[go_sem,s93,YX,az pB]
    |true=>
     have pB:=iI hB;simp only[go_sem,s93,YX,az pB];refine bd [3,4,7,172,178] fun e5 Z2=>?_;simp only[go_sem,YX] at Z2;by_cases hl:a<b
     rotate_left
     .obtain rfl:v=false:=by rw[<- hv];simp[aV,hA,hB,hl]
      simp only[go_sem,Z2,hl]
     obtain rfl:v=true:=by rw[<- hv];simp[aV,hA,hB,hl]
     simp only[go_sem,Z2,hl]
theorem TE:bz S 75 [.one (.p (fp F ls)),oG 4 a b c l o sg] (rb (aV F ls 4 a b c l o sg)):=by
 obtain⟨v,hv⟩:∃v,aV F ls 4 a b c l o sg=v:=⟨_,rfl⟩;rw[hv];refine aP c75 ?_;simp only[go_sem,i75,aB];refine bd [0,3,4,5,6,7,8,9,10,41] fun e1 YS=>?_;simp only[go_sem] at YS;cases l with
 |true=>
  obtain rfl:v=false:=by rw[<- hv];simp[aV]
  simp only[go_sem,YS]
 |false=>
  simp only[go_sem,YS];refine bd [0,3,4,5,6,7,8,9,10,53] fun e2 YM=>?_;simp only[go_sem,YS] at YM;cases o with
  |true=>
   obtain rfl:v=false:=by rw[<- hv];simp[aV]
   simp only[go_sem,YM]
  |false=>
   simp only[go_sem,YM];refine bd [0,3,4,5,6,7,8,9,10,60] fun e3 YI=>?_;simp only[go_sem,YM] at YI;by_cases hs:sg=0
   rotate_left
   .have ZF:=(qK hs).1;have Zd:=(qK hs).2;obtain rfl:v=false:=by rw[<- hv];simp[aV,hs]
    simp only[go_sem,YI,Zd]
   subst hs;cases hA:rJ ls.length a with
   |false=>
    have pA:=iI hA;obtain rfl:v=false:=by rw[<- hv];simp[aV,hA]
    simp only[go_sem,s93,YI,az pA]
   |true=>
    have pA:=iI hA;simp only[go_sem,s93,YI,az pA];refine bd [3,4,6,7,9,133] fun e4 YX=>?_;simp only[go_sem,YI] at YX;by_cases hb:b=0
    rotate_left
    .have Yo:=(qK hb).2;obtain rfl:v=false:=by rw[<- hv];simp[aV,hA,hb]
     simp only[go_sem,YX,Yo]
    subst hb;simp only[go_sem,YX];refine bd [3,4,6,7,9,142] fun e5 Z2=>?_;simp only[go_sem,YX] at Z2;by_cases hc:c=0
    rotate_left
    .have Zz:=(qK hc).2;obtain rfl:v=false:=by rw[<- hv];simp[aV,hA,hc]
     simp only[go_sem,Z2,Zz]
    subst hc;obtain rfl:v=true:=by rw[<- hv];simp[aV,hA]
    simp only[go_sem,Z2]
theorem TD:bz S 75 [.one (.p (fp F ls)),oG 5 a b c l o sg] (rb (aV F ls 5 a b c l o sg)):=by
 obtain⟨v,hv⟩:∃v,aV F ls 5 a b c l o sg=v:=⟨_,rfl⟩;rw[hv];refine aP c75 ?_;simp only[go_sem,i75,aB];refine bd [0,3,4,5,6,7,8,9,10,41] fun e1 YS=>?_;simp only[go_sem] at YS;cases l with
 |true=>
  obtain rfl:v=false:=by rw[<- hv];simp[aV]
  simp only[go_sem,YS]
 |false=>
  simp only[go_sem,YS];refine bd [0,3,4,5,6,7,8,9,10,60] fun e2 YM=>?_;simp only[go_sem,YS] at YM;by_cases q0:sg=0
  .subst q0;obtain rfl:v=false:=by rw[<- hv];simp[aV]
   simp only[go_sem,YM]
  by_cases q1:sg=1
  rotate_left;by_cases q2:sg= -1
  rotate_left
  .have h00:=(qK q0).2;have Zn:=(My q1).2;have h22:=(My q2).2;obtain rfl:v=false:=by rw[<- hv];simp[aV,q1,q2]
   simp only[go_sem,YM,h00,Zn,h22]
  .subst q1;cases hA:rJ ls.length a with
   |false=>
    have pA:=iI hA;obtain rfl:v=false:=by rw[<- hv];simp[aV,hA]
    simp only[go_sem,s93,YM,az pA]
   |true=>
    have pA:=iI hA;simp only[go_sem,s93,YM,az pA];refine bd [3,4,6,7,9,133] fun e3 YI=>?_;simp only[go_sem,YM] at YI;by_cases hb:b=0
    rotate_left
    .have Yo:=(qK hb).2;obtain rfl:v=false:=by rw[<- hv];simp[aV,hA,hb]
     simp only[go_sem,YI,Yo]
    subst hb;simp only[go_sem,YI];refine bd [3,4,6,7,9,142] fun e4 YX=>?_;simp only[go_sem,YI] at YX;by_cases hc:c=0
    rotate_left
    .have Zz:=(qK hc).2;obtain rfl:v=false:=by rw[<- hv];simp[aV,hA,hc]
     simp only[go_sem,YX,Zz]
    subst hc;obtain rfl:v=true:=by rw[<- hv];simp[aV,hA]
    simp only[go_sem,YX]
  subst q2;cases hA:rJ ls.length a with
  |false=>
   have pA:=iI hA;obtain rfl:v=false:=by rw[<- hv];simp[aV,hA]
   simp only[go_sem,s93,YM,az pA]
  |true=>
   have pA:=iI hA;simp only[go_sem,s93,YM,az pA];refine bd [3,4,6,7,9,133] fun e5 Z2=>?_;simp only[go_sem,YM] at Z2;by_cases hb:b=0
   rotate_left
   .have Yo:=(qK hb).2;obtain rfl:v=false:=by rw[<- hv];simp[aV,hA,hb]
    simp only[go_sem,Z2,Yo]
   subst hb;simp only[go_sem,Z2];refine bd [3,4,6,7,9,142] fun e6 hh6=>?_;simp only[go_sem,Z2] at hh6;by_cases hc:c=0
   rotate_left
   .have Zz:=(qK hc).2;obtain rfl:v=false:=by rw[<- hv];simp[aV,hA,hc]
    simp only[go_sem,hh6,Zz]
   subst hc;obtain rfl:v=true:=by rw[<- hv];simp[aV,hA]
   simp only[go_sem,hh6]
end
end
section
attribute [local go_sem ↓] fm1 fm2
section
variable {F:Nat} {ls:List Let} {a b c:Int} {l o:Bool} {sg:Int}
theorem TC:bz S 75 [.one (.p (fp F ls)),oG 6 a b c l o sg] (rb (aV F ls 6 a b c l o sg)):=by
 obtain⟨v,hv⟩:∃v,aV F ls 6 a b c l o sg=v:=⟨_,rfl⟩;rw[hv];refine aP c75 ?_;simp only[go_sem,i75,aB];refine bd [0,3,4,5,6,7,8,9,10,41] fun e1 YS=>?_;simp only[go_sem] at YS;cases l with
 |true=>
  obtain rfl:v=false:=by rw[<- hv];simp[aV]
  simp only[go_sem,YS]
 |false=>
  simp only[go_sem,YS];refine bd [0,3,4,5,6,7,8,9,10,53] fun e2 YM=>?_;simp only[go_sem,YS] at YM;cases o with
  |true=>
   obtain rfl:v=false:=by rw[<- hv];simp[aV]
   simp only[go_sem,YM]
  |false=>
   simp only[go_sem,YM];refine bd [0,3,4,5,6,7,8,9,10,60] fun e3 YI=>?_;simp only[go_sem,YM] at YI;by_cases hs:sg=0
   rotate_left
   .have ZF:=(qK hs).1;have Zd:=(qK hs).2;obtain rfl:v=false:=by rw[<- hv];simp[aV,hs]
    simp only[go_sem,YI,Zd]
   subst hs;cases hA:rJ ls.length a with
   |false=>
    have pA:=iI hA;obtain rfl:v=false:=by rw[<- hv];simp[aV,hA]
    simp only[go_sem,s93,YI,az pA]
   |true=>
    have pA:=iI hA;simp only[go_sem,s93,YI,az pA];refine bd [3,4,6,7,9,142] fun e4 YX=>?_;simp only[go_sem,YI] at YX;by_cases hc:c=0
    rotate_left
    .have Zz:=(qK hc).2;obtain rfl:v=false:=by rw[<- hv];simp[aV,hA,hc]
     simp only[go_sem,YX,Zz]
    subst hc;cases hB:rJ ls.length b with
    |false=>
     have pB:=iI hB;obtain rfl:v=false:=by rw[<- hv];simp[aV,hA,hB]
     simp only[go_sem,s93,YX,az pB]
    |true=>
     have pB:=iI hB;simp only[go_sem,s93,YX,az pB];refine bd [3,4,7,172,178] fun e5 Z2=>?_;simp only[go_sem,YX] at Z2;by_cases hl:a<b
     rotate_left
     .obtain rfl:v=false:=by rw[<- hv];simp[aV,hA,hB,hl]
      simp only[go_sem,Z2,hl]
     obtain rfl:v=true:=by rw[<- hv];simp[aV,hA,hB,hl]
     simp only[go_sem,Z2,hl]
theorem TB:bz S 75 [.one (.p (fp F ls)),oG 7 a b c l o sg] (rb (aV F ls 7 a b c l o sg)):=by
 obtain⟨v,hv⟩:∃v,aV F ls 7 a b c l o sg=v:=⟨_,rfl⟩;rw[hv];refine aP c75 ?_;simp only[go_sem,i75,aB];refine bd [0,3,4,5,6,7,8,9,10,60] fun e1 YS=>?_;simp only[go_sem] at YS;by_cases hs:sg=0
 rotate_left
 .have ZF:=(qK hs).1;have Zd:=(qK hs).2;obtain rfl:v=false:=by rw[<- hv];simp[aV,hs]
  simp only[go_sem,YS,Zd]
 subst hs;cases hA:rJ ls.length a with
 |false=>
  have pA:=iI hA;obtain rfl:v=false:=by rw[<- hv];simp[aV,hA]
  simp only[go_sem,s93,YS,az pA]
 |true=>
  have pA:=iI hA;simp only[go_sem,s93,YS,az pA];refine bd [3,4,6,7,9,142] fun e2 YM=>?_;simp only[go_sem,YS] at YM;by_cases hc:c=0
  rotate_left
  .have Zz:=(qK hc).2;obtain rfl:v=false:=by rw[<- hv];simp[aV,hA,hc]
   simp only[go_sem,YM,Zz]
  subst hc;cases hB:rJ ls.length b with
  |false=>
   have pB:=iI hB;obtain rfl:v=false:=by rw[<- hv];simp[aV,hA,hB]
   simp only[go_sem,s93,YM,az pB]
  |true=>
   have pB:=iI hB;simp only[go_sem,s93,YM,az pB];by_cases hn:a=b
   .subst hn;obtain rfl:v=false:=by rw[<- hv];simp[aV,hA]
    simp only[go_sem]
   have ZG:=(My hn).2;obtain rfl:v=true:=by rw[<- hv];simp[aV,hA,hB,hn]
   simp only[go_sem,ZG]
theorem TA:bz S 75 [.one (.p (fp F ls)),oG 8 a b c l o sg] (rb (aV F ls 8 a b c l o sg)):=by
 obtain⟨v,hv⟩:∃v,aV F ls 8 a b c l o sg=v:=⟨_,rfl⟩;rw[hv];refine aP c75 ?_;simp only[go_sem,i75,aB];refine bd [0,3,4,5,6,7,8,9,10,41] fun e1 YS=>?_;simp only[go_sem] at YS;cases l with
 |true=>
  obtain rfl:v=false:=by rw[<- hv];simp[aV]
  simp only[go_sem,YS]
 |false=>
  simp only[go_sem,YS];refine bd [0,3,4,5,6,7,8,9,10,53] fun e2 YM=>?_;simp only[go_sem,YS] at YM;cases o with
  |true=>
   obtain rfl:v=false:=by rw[<- hv];simp[aV]
   simp only[go_sem,YM]
  |false=>
   simp only[go_sem,YM];refine bd [0,3,4,5,6,7,8,9,10,60] fun e3 YI=>?_;simp only[go_sem,YM] at YI;by_cases hs:sg=0
   rotate_left
   .have ZF:=(qK hs).1;have Zd:=(qK hs).2;obtain rfl:v=false:=by rw[<- hv];simp[aV,hs]
    simp only[go_sem,YI,Zd]
   subst hs;cases hA:rJ ls.length a with
   |false=>
    have pA:=iI hA;obtain rfl:v=false:=by rw[<- hv];simp[aV,hA]
    simp only[go_sem,s93,YI,az pA]
   |true=>
    have pA:=iI hA;simp only[go_sem,s93,YI,az pA];cases hB:rJ ls.length b with
    |false=>
     have pB:=iI hB;obtain rfl:v=false:=by rw[<- hv];simp[aV,hA,hB]
     simp only[go_sem,YI,az pB]
    |true=>
     have pB:=iI hB;cases hD:rJ ls.length c with
     |false=>
      have pD:=iI hD;obtain rfl:v=false:=by rw[<- hv];simp[aV,hA,hB,hD]
      simp only[go_sem,s93,YI,az pB,az pD]
     |true=>
      have pD:=iI hD;simp only[go_sem,s93,YI,az pB,az pD];refine bd [3,4,7,172,178] fun e4 YX=>?_;simp only[go_sem,YI] at YX;by_cases hl:a<b
      rotate_left
      .obtain rfl:v=false:=by rw[<- hv];simp[aV,hA,hB,hD,hl]
       simp only[go_sem,YX,hl]
      by_cases hm:b<c
      rotate_left
      .obtain rfl:v=false:=by rw[<- hv];simp[aV,hA,hB,hD,hl,hm]
       simp only[go_sem,YX,hl,hm]
      obtain rfl:v=true:=by rw[<- hv];simp[aV,hA,hB,hD,hl,hm]
      simp only[go_sem,YX,hl,hm]
theorem Tz:bz S 75 [.one (.p (fp F ls)),oG 9 a b c l o sg] (rb (aV F ls 9 a b c l o sg)):=by
 obtain⟨v,hv⟩:∃v,aV F ls 9 a b c l o sg=v:=⟨_,rfl⟩;rw[hv];refine aP c75 ?_;simp only[go_sem,i75,aB];refine bd [0,3,4,5,6,7,8,9,10,41] fun e1 YS=>?_;simp only[go_sem] at YS;cases l with
 |true=>
  obtain rfl:v=false:=by rw[<- hv];simp[aV]
  simp only[go_sem,YS]
 |false=>
  simp only[go_sem,YS];refine bd [0,3,4,5,6,7,8,9,10,53] fun e2 YM=>?_;simp only[go_sem,YS] at YM;cases o with
  |true=>
   obtain rfl:v=false:=by rw[<- hv];simp[aV]
   simp only[go_sem,YM]
  |false=>
   simp only[go_sem,YM];refine bd [0,3,4,5,6,7,8,9,10,60] fun e3 YI=>?_;simp only[go_sem,YM] at YI;by_cases hs:sg=0
   rotate_left
   .have ZF:=(qK hs).1;have Zd:=(qK hs).2;obtain rfl:v=false:=by rw[<- hv];simp[aV,hs]
    simp only[go_sem,YI,Zd]
   subst hs;cases hA:rJ ls.length a with
   |false=>
    have pA:=iI hA;obtain rfl:v=false:=by rw[<- hv];simp[aV,hA]
    simp only[go_sem,s93,YI,az pA]
   |true=>
    have pA:=iI hA;simp only[go_sem,s93,YI,az pA];refine bd [3,4,6,7,9,133] fun e4 YX=>?_;simp only[go_sem,YI] at YX;by_cases hb:b=0
    rotate_left
    .have Yo:=(qK hb).2;obtain rfl:v=false:=by rw[<- hv];simp[aV,hA,hb]
     simp only[go_sem,YX,Yo]
    subst hb;simp only[go_sem,YX];refine bd [3,4,6,7,9,142] fun e5 Z2=>?_;simp only[go_sem,YX] at Z2;by_cases hc:c=0
    rotate_left
    .have Zz:=(qK hc).2;obtain rfl:v=false:=by rw[<- hv];simp[aV,hA,hc]
     simp only[go_sem,Z2,Zz]
    subst hc;obtain rfl:v=true:=by rw[<- hv];simp[aV,hA]
    simp only[go_sem,Z2]
theorem Qz:bz S 75 [.one (.p (fp F ls)),oG 10 a b c l o sg] (rb (aV F ls 10 a b c l o sg)):=by
 obtain⟨v,hv⟩:∃v,aV F ls 10 a b c l o sg=v:=⟨_,rfl⟩;rw[hv];refine aP c75 ?_;simp only[go_sem,i75,aB];refine bd [0,3,4,5,6,7,8,9,10,41] fun e1 YS=>?_;simp only[go_sem] at YS;cases l with
 |true=>
  obtain rfl:v=false:=by rw[<- hv];simp[aV]
  simp only[go_sem,YS]
 |false=>
  simp only[go_sem,YS];refine bd [0,3,4,5,6,7,8,9,10,53] fun e2 YM=>?_;simp only[go_sem,YS] at YM;cases o with
  |true=>
   obtain rfl:v=false:=by rw[<- hv];simp[aV]
   simp only[go_sem,YM]
  |false=>
   simp only[go_sem,YM];refine bd [0,3,4,5,6,7,8,9,10,60] fun e3 YI=>?_;simp only[go_sem,YM] at YI;by_cases hs:sg=0
   rotate_left
   .have ZF:=(qK hs).1;have Zd:=(qK hs).2;obtain rfl:v=false:=by rw[<- hv];simp[aV,hs]
    simp only[go_sem,YI,Zd]
   subst hs;cases hA:rJ ls.length a with
   |false=>
    have pA:=iI hA;obtain rfl:v=false:=by rw[<- hv];simp[aV,hA]
    simp only[go_sem,s93,YI,az pA]
   |true=>
    have pA:=iI hA;simp only[go_sem,s93,YI,az pA];refine bd [3,4,6,7,9,133] fun e4 YX=>?_;simp only[go_sem,YI] at YX;by_cases hb:b=0
    rotate_left
    .have Yo:=(qK hb).2;obtain rfl:v=false:=by rw[<- hv];simp[aV,hA,hb]
     simp only[go_sem,YX,Yo]
    subst hb;simp only[go_sem,YX];refine bd [3,4,6,7,9,142] fun e5 Z2=>?_;simp only[go_sem,YX] at Z2;by_cases hc:c=0
    rotate_left
    .have Zz:=(qK hc).2;obtain rfl:v=false:=by rw[<- hv];simp[aV,hA,hc]
     simp only[go_sem,Z2,Zz]
    subst hc;obtain rfl:v=true:=by rw[<- hv];simp[aV,hA]
    simp only[go_sem,Z2]
theorem UL(k:Int):bz S 75 [.one (.p (fp F ls)),oG k a b c l o sg] (rb (aV F ls k a b c l o sg)):=by
 by_cases h1:k=1
 .subst h1;exact TI
 by_cases h2:k=2
 .subst h2;exact TH
 by_cases h3:k=3
 .subst h3;exact TG
 by_cases h4:k=4
 .subst h4;exact TE
 by_cases h5:k=5
 .subst h5;exact TD
 by_cases h6:k=6
 .subst h6;exact TC
 by_cases h7:k=7
 .subst h7;exact TB
 by_cases h8:k=8
 .subst h8;exact TA
 by_cases h9:k=9
 .subst h9;exact Tz
 by_cases YN:k=10
 .subst YN;exact Qz
 rw[show aV F ls k a b c l o sg=false by simp[aV,h1,h2,h3,h4,h5,h6,h7,h8,h9,YN]];have e1:=(My h1).1;have e2:=(My h2).1;have e3:=(My h3).1;have e4:=(My h4).1;have e5:=(My h5).1;have e6:=(My h6).1;have e7:=(My h7).1;have e8:=(My h8).1;have e9:=(My h9).1;have e10:=(My YN).1;refine aP c75 ?_;simp only[go_sem,i75,aB,e1,e2,e3,e4,e5,e6,e7,e8,e9,e10]
end
end
structure Swo {α:Type} (lt:α->α->Bool):Prop where
 asym:∀a b,lt a b=true->lt b a=false
 ntrans:∀a b c,lt b a=false->lt c b=false->lt c a=false
def TQ{α:Type}(lt:α->α->Bool)(ws:List α)(a b:Nat):Prop:=∀p q x y,a<=p->p<q->q<b->ws[p]?=some x->ws[q]?=some y->lt y x=false
structure Ef {α:Type} (lt:α->α->Bool) (zs ws:List α) (x:α) (a i j:Nat):Prop where
 perm:ws.Perm zs
 le:a<=j/\j<=i/\i<ws.length
 at':ws[j]?=some x
 up:∀p y,j<p->p<=i->ws[p]?=some y->lt x y=true
 so:∀p q y z,a<=p->p<q->q<=i->p≠j->q≠j->ws[p]?=some y->ws[q]?=some z->lt z y=false
 out:∀p,p<a\/i<p->ws[p]?=zs[p]?
theorem Ef.start{α:Type}{lt:α->α->Bool}{zs:List α}{x:α}{a i:Nat}(ha:a<=i)(hi:zs[i]?=some x)(hs:TQ lt zs a i):Ef lt zs zs x a i i:=
 ⟨.refl _,⟨ha,aad _,(aac.1 hi).1⟩,hi,fun p y h1 h2=>by omega,fun p q y z h0 h1 h2 h3 h4=>hs p q y z h0 h1 (by omega),fun _ _=>rfl⟩
theorem swap_perm{α:Type}{ws:List α}{i j:Nat}{x y:α}(hi:ws[i]?=some x)(hj:ws[j]?=some y):((ws.set i y).set j x).Perm ws:=by obtain⟨h1,e1⟩:=aac.1 hi;obtain⟨h2,e2⟩:=aac.1 hj;have:=List.set_set_perm h1 h2;rwa[e1,e2] at this
theorem Ef.step{α:Type}{lt:α->α->Bool}{zs ws:List α}{x y:α}{a i j:Nat}(o:Swo lt)(h:Ef lt zs ws x a i (j+1))(hj:a<=j)(hy:ws[j]?=some y)(Ye:lt x y=true):
  Ef lt zs ((ws.set (j+1) y).set j x) x a i j:=by
 obtain⟨hp,⟨_,hle,hl⟩,hat,hup,hso,Zj⟩:=h;have hj1:j<ws.length:=(aac.1 hy).1;have get:∀p,((ws.set (j+1) y).set j x)[p]?=if p=j then some x else if p=j+1 then some y else ws[p]? :=fun p=>by
  rw[abj,abj,abi];by_cases e1:j=p
  .subst e1;simp[hj1]
  by_cases e2:j+1=p
  .subst e2;have:¬(j+1=j):=by omega
   rw[if_neg e1,if_pos rfl,if_pos (by omega),if_neg this,if_pos rfl]
  rw[if_neg e1,if_neg e2,if_neg (fun h=>e1 h.symm),if_neg (fun h=>e2 h.symm)]
 refine⟨(swap_perm hat hy).trans hp,⟨hj,by omega,by simp;omega⟩,by rw[get];simp,?_,?_,?_⟩
 .intro p z h1 h2 hz;rw[get,if_neg (by omega)] at hz;by_cases e:p=j+1
  .rw[if_pos e] at hz;cases hz;exact Ye
  rw[if_neg e] at hz;exact hup p z (by omega) h2 hz
 .intro p q u v h0 h1 h2 h3 h4 hu hv;rw[get,if_neg h3] at hu;rw[get,if_neg h4] at hv;by_cases e:p=j+1
  .rw[if_pos e] at hu;cases hu;rw[if_neg (by omega)] at hv;exact hso j q _ _ hj (by omega) h2 (by omega) (by omega) hy hv
  rw[if_neg e] at hu;by_cases e2:q=j+1
  .rw[if_pos e2] at hv;cases hv;exact hso p j _ _ h0 (by omega) (by omega) e (by omega) hu hy
  rw[if_neg e2] at hv;exact hso p q _ _ h0 h1 h2 e e2 hu hv
 intro p Zi;rw[get,if_neg (by omega),if_neg (by omega),Zj p Zi]
theorem Ef.stop{α:Type}{lt:α->α->Bool}{zs ws:List α}{x:α}{a i j:Nat}(o:Swo lt)(h:Ef lt zs ws x a i j)(hj:j=a\/ ∃y,a<j/\ws[j-1]?=some y/\lt x y=false):TQ lt ws a (i+1):=by
 obtain⟨hp,⟨hja,hle,hl⟩,hat,hup,hso,Zj⟩:=h;intro p q u v h0 h1 h2 hu hv;by_cases e:q=j
 .subst e;rw[hat] at hv;cases hv;rcases hj with hj|⟨y,hya,hy,hxy⟩
  .omega
  by_cases e3:p=q-1
  .subst e3;rw[hy] at hu;cases hu;exact hxy
  exact o.ntrans _ _ _ (hso p (q-1) _ _ h0 (by omega) (by omega) (by omega) (by omega) hu hy) hxy
 by_cases e2:p=j
 .subst e2;rw[hat] at hu;cases hu;exact o.asym _ _ (hup q v h1 (by omega) hv)
 exact hso p q u v h0 h1 (by omega) e2 e hu hv
theorem TQ.mono{α:Type}{lt:α->α->Bool}{ws:List α}{a b c:Nat}(h:TQ lt ws a c)(hb:b<=c\/ws.length<=c):TQ lt ws a b:=fun p q x y h0 h1 h2 hx hy=>h p q x y h0 h1 (by
 rcases hb with hb|hb
 .omega
 have:=(aac.1 hy).1;omega) hx hy
abbrev HX(a b:Int):Bool:=decide (a<b)
theorem Va:Swo HX:=⟨fun a b h=>by simp at*;omega,fun a b c h k=>by simp at*;omega⟩
theorem WU(a:Int):bz S 184 [vi a] (rb false):=by
 refine aP c184 ?_;have h:(a !=a)=false:=by simp
 simp only[go_sem,i184,h]
theorem VA(a b:Int):bz S 160 [vi a,vi b] (rb (HX a b)):=by have pn:=WU a;refine aP c160 ?_;simp only[go_sem,i160,s184,az pn,HX]
theorem V5(n:Nat)(h:n<=1000000):∃k:Int,bz S 143 [.one (.p (.int .u64 n))] (ri k):=by
 refine⟨((Lib.bitLen n:Nat):Int),⟨1,?_⟩⟩;have hp:S.prim 143 [.one (.p (.int .u64 (n:Int)))]=some (some (ri ((Lib.bitLen n:Nat):Int))):=by show some (qx [.one (.p (.int .u64 (n:Int)))])=_;simp only[qx];rw[if_pos ⟨by omega,by omega⟩];rfl
 rw[dC,hp]
theorem Il(o:List Int)(k:Nat)(v:Int):(iP o).set k [.int .i64 v]=iP (o.set k v):=by simp[List.map_set]
theorem mS(o:List Int):(iP o).length=o.length:=aah _
def sO(lt:Int->Int->Bool)(id g ty:Nat)(es:List Int)(X9:aE)(v:V)(Ya:aE):Prop:=v=.tup []/\(∃ws:List Int,Ya id=(g,some (.arr ty 1 (iP ws)))/\ws.Perm es/\TQ lt ws 0 ws.length)/\Kept (· =id) X9 Ya
theorem VI{al:Al}{X9:aE}{id g:Nat}{es:List Int}(o:al.ok id=true)(hl:es.length<=1000000)(hC:X9 id=(g,some (.arr ty 1 (iP es)))):
  ∃v Ya,vN S 154 [.one (.hsl id g 1 0 es.length),vi 0,vi es.length] al X9 v Ya/\sO HX id g ty es X9 v Ya:=by
 refine iS c154 (aaU rfl) ?_;have w0:IntKind.i64.wrap (0+1)=((0+1:Nat):Int):=by decide
 simp only[go_sem,i154];refine bm (fun k env Ya=>env 0=.one (.hsl id g 1 0 es.length)/\env 1=vi 0/\env 2=vi es.length/\env 6=vi ((k+1:Nat):Int)/\ ∃zs:List Int,Ya id=(g,some (.arr ty 1 (iP zs)))/\zs.Perm es/\TQ HX zs 0 (k+1)/\Kept (· =id) X9 Ya) 0 es.length (aae _) ?_ ?_
 .simp only[go_sem];exact⟨rfl,es,hC,.refl _,fun p q x y _ h1 h2=>by omega,Kept.refl _ _⟩
 rintro k env Yi hk ⟨h0,h1,h2,h6,zs,hZ,hp,hs,YB⟩
 have hzl:=hp.length_eq;by_cases Ye:k+1<es.length
 .have Yf:((k+1:Nat):Int)<(es.length:Int):=by omega
  obtain⟨x,hx⟩:=ai (ls:=zs) (k:=k+1) (by omega);simp only[go_sem,i154_l3,h2,h6,Yf];refine bm (fun q env Ya=>env 0=.one (.hsl id g 1 0 es.length)/\env 1=vi 0/\env 2=vi es.length/\env 6=vi ((k+1:Nat):Int)/\env 7=vi ((k+1-q:Nat):Int)/\ ∃ws:List Int,Ya id=(g,some (.arr ty 1 (iP ws)))/\Ef HX zs ws x 0 (k+1) (k+1-q)/\Kept (· =id) X9 Ya) 0 (k+1) (aae _) ?_ ?_
  .simp only[go_sem,h0,h1,h2,h6];exact⟨zs,hZ,Ef.start (aae _) hx hs,YB⟩
  rintro q Yn Yg hq ⟨k0,k1,k2,k6,k7,ws,hW,hI,ai1⟩
  have hwl:ws.length=es.length:=hI.perm.length_eq.trans hzl;have wk:IntKind.i64.wrap (((k+1:Nat):Int)+1)=((k+1+1:Nat):Int):=ah (n:=k+1) (by omega);by_cases hj0:k+1-q=0
  .have e7:¬((0:Int)<((k+1-q:Nat):Int)):=by omega
   simp only[go_sem,i154_l1,i154_r2,k0,k1,k2,k6,k7,e7,wk];refine⟨aH,by omega,ws,hW,hI.perm.trans hp,hI.stop Va (.inl hj0),ai1⟩
  obtain⟨j,hj⟩:∃j,k+1-q=j+1:=⟨k-q,by omega⟩;have e7:((0:Int)<((j+1:Nat):Int)):=by omega
  obtain⟨y,hy⟩:=ai (ls:=ws) (k:=j) (by omega);rw[hj] at hI k7;have wj:IntKind.i64.wrap (((j+1:Nat):Int)-1)=(j:Int):=by rw[gV (by omega)];omega
  have hxa:=uv hI.at';have hya:=uv hy;have j1:j+1<es.length:=by have:=hI.le;omega
  have j2:j<es.length:=by omega
  have pl:=VA x y;cases hxy:HX x y with
  |false=>rw[hxy] at pl;simp only[go_sem,i154_l1,i154_r2,k0,k1,k2,k6,k7,e7,wk,wj,hW,hxa,hya,j1,j2,o,s160,UI pl];refine⟨aH,by omega,ws,rfl,hI.perm.trans hp,hI.stop Va (.inr ⟨y,by omega,hy,hxy⟩),ai1⟩
  |true=>
   rw[hxy] at pl;have hI2:=hI.step Va (aae _) hy hxy;have hjj:¬(j+1=j):=by omega
   have l1:j+1<ws.length:=by omega
   have l2:j<ws.length:=by omega
   simp only[go_sem,i154_l1,i154_r2,k0,k1,k2,k6,k7,e7,wj,hW,hxa,hya,j1,j2,l1,hjj,o,s160,UI pl,abj,mS];have hq2:k+1-(q+1)=j:=by omega
   refine⟨aH,aH,by omega,by rw[hq2],(ws.set (j+1) y).set j x,by rw[Il,Il],by rw[hq2];exact hI2,(ai1.ij rfl _).ij rfl _⟩
 have Yf:¬(((k+1:Nat):Int)<(es.length:Int)):=by omega
 simp only[go_sem,i154_l3,h2,h6,Yf];exact⟨rfl,⟨zs,hZ,hp,hs.mono (.inl (by omega))⟩,YB⟩
theorem vk{Q:dO}{al:Al}{env:Env}{X9:aE}{os:List aj}{d:Option Nat}{f id g ty z o n:Nat}{vs:List V}{es:List (List PV)}{P:V->aE->Prop}(hC:X9 id=(g,some (.arr ty z es)))(hvs:(vs.map (eQ X9)).flatten=[])(hh:al=.all\/al.ok id=true/\(S.sites f).all al.fs.contains=true)
  (h:∀al',al'.ok id=true->al'.fs=S.sites f->∃v Ya,vN S f (.one (.hsl id g z o n)::vs) al' X9 v Ya/\P v Ya)
  (hK:∀v Ya,P v Ya->RN S al os Q (put env d v) Ya):gP S al (.sc f (.one (.hsl id g z o n)::vs)) d os Q env X9:=by
 have hr:((V.one (.hsl id g z o n)::vs).map (eQ X9)).flatten=[id]:=by rw[aar,abl,hvs,uZ hC];rfl
 refine jF (P:=P) ?_ (h _ (ie (by rw[hr];simp)) rfl) hK;rcases hh with rfl|⟨h1,h2⟩
 .rfl
 refine holds_of ?_ h2;show al.mX ((V.one (.hsl id g z o n)::vs).map (eQ X9)).flatten=true;rw[hr];simp[Al.mX,h1]
theorem Vr{al:Al}{X9:aE}{id g:Nat}{es:List Int}(o:al.ok id=true)(f1:al.fs.contains 154=true)(hl:es.length<=12)(hC:X9 id=(g,some (.arr ty 1 (iP es))))(lim:Int):
  ∃v Ya,vN S 142 [.one (.hsl id g 1 0 es.length),vi 0,vi es.length,vi lim] al X9 v Ya/\sO HX id g ty es X9 v Ya:=by
 refine iS c142 (aaU rfl) ?_;have w0:IntKind.i64.wrap ((es.length:Int)-0)=(es.length:Int):=by rw[Int.sub_zero];exact jT (by omega) (by omega)
 have h12:(es.length:Int)<=12:=by omega
 simp only[go_sem,i142];refine fT ?_;simp only[go_sem,i142_l1,w0,h12,s154];refine vk hC (by rfl) (.inr ⟨o,by rw[show S.sites 154=[154] by kernel_rfl];simp only[ab9,acH,f1,Bool.and_self]⟩) (P:=sO HX id g ty es X9) (fun al' h1 _=>VI h1 (by omega) hC) fun v Ya hP=>?_;obtain⟨rfl,h2⟩:=hP;simp only[go_sem];exact⟨rfl,h2⟩
theorem Js{al:Al}{X9:aE}{id g:Nat}{es:List Int}(o:al.ok id=true)(f1:(S.sites 142).all al.fs.contains=true)(hl:es.length<=12)(hC:X9 id=(g,some (.arr ty 1 (iP es)))):
  ∃v Ya,vN S 127 [.one (.hsl id g 1 0 es.length)] al X9 v Ya/\sO HX id g ty es X9 v Ya:=by
 obtain⟨k,pb⟩:=V5 es.length (by omega);have wu:IntKind.u64.wrap (es.length:Int)=(es.length:Int):=by
  have e:IntKind.u64.wrap (es.length:Int)=(es.length:Int)%18446744073709551616:=by unfold IntKind.wrap;rfl
  rw[e];omega
 refine iS c127 (aaU rfl) ?_;have sbl:S.shared 143=false:=by kernel_rfl
 simp only[go_sem,i127,wu,sbl,XC pb,s142];refine vk hC (by rfl) (.inr ⟨o,f1⟩) (P:=sO HX id g ty es X9) (fun al' h1 h2=>Vr h1 (by rw[h2];kernel_rfl) hl hC k) fun v Ya hP=>?_;obtain⟨rfl,h2⟩:=hP;simp only[go_sem];exact⟨rfl,h2⟩
def wI(ws:List Int):Nat->List Int
 |0=>[]
 |k+1=>match ws[k]? with
  |some x=>if 0<k/\ws[k-1]?=some x then wI ws k else wI ws k++[x]
  |none=>wI ws k
theorem KD(ws:List Int):∀k,(wI ws k).length<=k:=by
 intro k
 induction k with
 |zero=>exact aad _
 |succ k ih=>
  unfold wI;split
  .split
   .omega
   simp;omega
  omega
theorem zT{k:Nat}(h:ws[k+1]?=some x)(hp:ws[k]?=some x):wI ws (k+2)=wI ws (k+1):=by
 conv=>lhs;unfold wI
 rw[h];simp[hp]
theorem DM{k:Nat}{y:Int}(h:ws[k+1]?=some x)(hp:ws[k]?=some y)(hn:¬x=y):wI ws (k+2)=wI ws (k+1)++[x]:=by
 conv=>lhs;unfold wI
 rw[h];have:¬y=x:=fun e=>hn e.symm;simp[hp,this]
theorem Tm(h:ws[0]?=some x):wI ws 1=[x]:=by simp[wI,h]
def JN(ws:List Int)(k:Nat):Prop:=∀i x y,i+1<k->ws[i]?=some x->ws[i+1]?=some y-> ¬y=x
theorem vz:∀k,k<=ws.length->JN ws k->wI ws k=ws.take k:=by
 intro k
 induction k with
 |zero=>intro _ _;rfl
 |succ k ih=>
  intro hk h;obtain⟨x,hx⟩:=ai (ls:=ws) (k:=k) (by omega);have e:=ih (by omega) fun i x y h1=>h i x y (by omega);have ht:ws.take (k+1)=ws.take k++[x]:=by rw[abn,hx];rfl
  rcases k with _|k
  .rw[Tm hx,ht];rfl
  obtain⟨y,hy⟩:=ai (ls:=ws) (k:=k) (by omega);rw[DM hx hy (h k y x (by omega) hy hx),e,ht]
structure Qe (ws cs:List Int) (k q:Nat):Prop where
 len:cs.length=ws.length
 kl:k=(wI ws q).length
 pre:cs.take k=wI ws q
 out:∀p,q-1<=p->cs[p]?=ws[p]?
 kq:k<q
theorem Qe.step{cs:List Int}{k q:Nat}{y:Int}(h:Qe ws cs k (q+1))(hx:ws[q+1]?=some x)(hy:ws[q]?=some y)(hn:¬x=y):Qe ws (cs.set k x) (k+1) (q+2):=by
 obtain⟨h1,h2,h3,h4,h5⟩:=h;have hl:=KD ws (q+1);have hq:q+1<ws.length:=(aac.1 hx).1;refine⟨by simpa using h1,by rw[DM hx hy hn,aaF,<- h2];rfl,?_,fun p hp=>?_,by omega⟩
 .rw[DM hx hy hn,abn,abj];have:k<cs.length:=by omega
  rw[if_pos rfl,if_pos this,List.take_set_of_le (aad _),h3];rfl
 rw[abj,if_neg (by omega)];exact h4 p (by omega)
theorem Qe.skip{cs:List Int}{k q:Nat}(h:Qe ws cs k (q+1))(hx:ws[q+1]?=some x)(hy:ws[q]?=some x):Qe ws cs k (q+2):=by obtain⟨h1,h2,h3,h4,h5⟩:=h;exact⟨h1,by rw[zT hx hy];exact h2,by rw[zT hx hy];exact h3,fun p hp=>h4 p (by omega),by omega⟩
theorem Qe.start{k:Nat}(hk:k+1<ws.length)(h:JN ws (k+1))(hx:ws[k+1]?=some x)(hy:ws[k]?=some x):Qe ws ws (k+1) (k+2):=by have e:=vz (k+1) (by omega) h;have e2:wI ws (k+2)=ws.take (k+1):=(zT hx hy).trans e;exact⟨rfl,by rw[e2];simp;omega,by rw[e2],fun _ _=>rfl,by omega⟩
def IS(id g ty:Nat)(ws:List Int)(X9:aE)(v:V)(Ya:aE):Prop:=v=.one (.hsl id g 1 0 (wI ws ws.length).length)/\(∃cs:List Int,Ya id=(g,some (.arr ty 1 (iP cs)))/\cs.length=ws.length/\cs.take (wI ws ws.length).length=wI ws ws.length)/\Kept (· =id) X9 Ya
theorem Mh{cs:List Int}{k:Nat}(hk:k<=cs.length):List.take k (iP cs)++List.replicate (cs.length-k) [PV.int .i64 0]++List.drop (k+(cs.length-k)) (iP cs)=iP (cs.take k++List.replicate (cs.length-k) 0):=by rw[List.drop_of_length_le (by simp;omega),abo];simp only[iP,aaN,List.map_replicate,acy]
theorem Cj{al:Al}{X9:aE}{id g:Nat}(o:al.ok id=true)(hl:ws.length<=1000000)(hC:X9 id=(g,some (.arr ty 1 (iP ws)))):
  ∃v Ya,vN S 128 [.one (.hsl id g 1 0 ws.length)] al X9 v Ya/\IS id g ty ws X9 v Ya:=by
 refine iS c128 (aaU rfl) ?_;by_cases h2:ws.length<2
 .have ZQ:((ws.length:Int)<2):=by omega
  have Zx:JN ws ws.length:=fun i x y h=>by omega
  have e:=vz ws.length (aad _) Zx;rw[aaV] at e;simp only[go_sem,i128,ZQ];exact⟨by rw[e],⟨ws,hC,rfl,by rw[e,aaV]⟩,Kept.refl _ _⟩
 have ZQ:¬((ws.length:Int)<2):=by omega
 simp only[go_sem,i128,ZQ];refine bm (fun q env Ya=>env 0=.one (.hsl id g 1 0 ws.length)/\env 3=vi ((q+1:Nat):Int)/\JN ws (q+1)/\Ya=X9) 0 ws.length (aae _) ?_ ?_
 .simp only[go_sem];exact⟨rfl,fun i x y h=>by omega⟩
 rintro q env Yi hq ⟨h0,h3,Zx,rfl⟩
 by_cases Ye:q+1<ws.length
 .have Yf:(((q+1:Nat):Int)<(ws.length:Int)):=by omega
  obtain⟨x,hx⟩:=ai (ls:=ws) (k:=q+1) Ye;obtain⟨y,hy⟩:=ai (ls:=ws) (k:=q) (by omega);have hxa:=uv hx;have hya:=uv hy;have wj:IntKind.i64.wrap (((q+1:Nat):Int)-1)=(q:Int):=by rw[gV (by omega)];omega
  have wk:=ah (n:=q+1) (by omega);have q1:q<ws.length:=by omega
  have q2:q+1<=ws.length:=by omega
  by_cases e:x=y
  .subst e;simp only[go_sem,i128_l4,h0,h3,Ye,Yf,hxa,hya,wj,q1,q2,hC,o];refine⟨aH,?_⟩;refine bm (fun r env Ya=>env 0=.one (.hsl id g 1 0 ws.length)/\env 4=.one (.hsl id g 1 (q+1) (ws.length-(q+1)))/\env 5=vi ((r+1:Nat):Int)/\ ∃(cs:List Int) (k:Nat),env 3=vi (k:Nat)/\Ya id=(g,some (.arr ty 1 (iP cs)))/\Qe ws cs k (q+2+r)/\q+2+r<=ws.length/\Kept (· =id) Yi Ya) 0 ws.length (aae _) ?_ ?_
   .simp only[go_sem,h0];exact⟨rfl,ws,q+1,h3,hC,Qe.start Ye Zx hx hy,by omega,Kept.refl _ _⟩
   rintro r Yn Yg hr ⟨k0,k4,k5,cs,k,k3,hB,hI,hqr,YB⟩
   have YL:=hI.len;have YY:=hI.kl;have hkle:=KD ws (q+2+r);have hkq:=hI.kq;have hI':Qe ws cs k (q+1+r+1):=by rw[show q+1+r+1=q+2+r by omega];exact hI
   by_cases agR:r+1<ws.length-(q+1)
   .have adf:(((r+1:Nat):Int)<((ws.length-(q+1):Nat):Int)):=by omega
    obtain⟨u,hu⟩:=ai (ls:=ws) (k:=q+1+(r+1)) (by omega);obtain⟨v,hv⟩:=ai (ls:=ws) (k:=q+1+r) (by omega);have cu:=uv ((hI.out (q+1+(r+1)) (by omega)).trans hu);have cv:=uv ((hI.out (q+1+r) (by omega)).trans hv);have wr:IntKind.i64.wrap (((r+1:Nat):Int)-1)=(r:Int):=by rw[gV (by omega)];omega
    have wr2:=ah (n:=r+1) (by omega);have wk2:=ah (n:=k) (by omega);have r1:r<ws.length-(q+1):=by omega
    have kk:k<ws.length:=by omega
    have kk2:k<cs.length:=by omega
    obtain⟨z,hz⟩:=ai kk2;have cz:=uv hz;by_cases e2:u=v
    .subst e2;have hun:(u !=u)=false:=by simp
     have hI2:=hI'.skip (by rw[show q+1+r+1=q+1+(r+1) by omega];exact hu) hv;simp only[go_sem,i128_l1,k0,k4,k5,k3,agR,adf,r1,hB,cu,cv,wr,wr2,hun,o];refine⟨aH,by omega,cs,k,rfl,rfl,by rw[show q+2+(r+1)=q+1+r+2 by omega];exact hI2,by omega,YB⟩
    have hun:=(show(u !=v)=true by simp[e2]);simp only[go_sem,i128_l1,k0,k4,k5,k3,agR,adf,r1,hB,cu,cv,wr,wr2,wk2,kk,cz,hun,o];have hI2:=hI'.step (by rw[show q+1+r+1=q+1+(r+1) by omega];exact hu) hv e2;refine⟨aH,by omega,cs.set k u,k+1,rfl,by rw[Il],by rw[show q+2+(r+1)=q+1+r+2 by omega];exact hI2,by omega,YB.ij rfl _⟩
   have adf:¬(((r+1:Nat):Int)<((ws.length-(q+1):Nat):Int)):=by omega
   have kk3:k<=ws.length:=by omega
   have kk4:k+(ws.length-k)<=cs.length:=by omega
   have Yk:¬(ws.length-k=0):=by omega
   have ag3:q+2+r=ws.length:=by omega
   rw[ag3] at hI;have hsp:=Mh (cs:=cs) (k:=k) (by omega);rw[YL] at hsp;simp only[go_sem,i128_l1,i128_r2,k0,k4,k5,k3,adf,hB,o,kk3,kk4,Yk,List.length_replicate,mS,hsp];obtain⟨i1,i2,i3,i4,i5⟩:=hI;refine⟨by rw[<- i2],⟨_,lz,by simp;omega,?_⟩,YB.ij rfl _⟩;rw[<- i2,List.take_left' (by simp;omega),i3]
  have e1:=(show(x==y)=false by simp[e]);simp only[go_sem,i128_l4,i128_r3,h0,h3,Ye,Yf,hxa,hya,wj,wk,q1,hC,o,e1];refine⟨aH,fun i u v h h4 h5=>?_⟩;by_cases e2:i=q
  .subst e2;rw[hy] at h4;rw[hx] at h5;cases h4;cases h5;exact e
  exact Zx i u v (by omega) h4 h5
 have Yf:¬(((q+1:Nat):Int)<(ws.length:Int)):=by omega
 have e:=vz ws.length (aad _) (fun i x y h=>Zx i x y (by omega));rw[aaV] at e;simp only[go_sem,i128_l4,i128_r5,h0,h3,Yf];exact⟨by rw[e],⟨ws,hC,rfl,by rw[e,aaV]⟩,Kept.refl _ _⟩
def zP:List Int->List Int
 |[]=>[]
 |x::r=>if x∈r then zP r else x::zP r
theorem xD:∀ {l:List Int},x∈zP l↔x∈l:=by
 intro l
 induction l with
 |nil=>simp[zP]
 |cons y r ih=>
  unfold zP;split
  .rename_i h;rw[ih,aag];constructor
   .exact .inr
   rintro (rfl|h2)
   .exact h
   exact h2
  rw[aag,aag,ih]
theorem ME:∀l:List Int,(zP l).Nodup:=by
 intro l
 induction l with
 |nil=>exact abr
 |cons y r ih=>
  unfold zP;split
  .exact ih
  rename_i h;exact abk.2 ⟨fun h2=>h (xD.1 h2),ih⟩
theorem KC:∀k,k<=ws.length->(x∈wI ws k↔x∈ws.take k):=by
 intro k
 induction k with
 |zero=>intro _;simp[wI]
 |succ k ih=>
  intro hk;obtain⟨y,hy⟩:=ai (ls:=ws) (k:=k) (by omega);have ht:ws.take (k+1)=ws.take k++[y]:=by rw[abn,hy];rfl
  have ih:=ih (by omega);unfold wI;rw[hy,ht];simp only;split
  .rename_i h;obtain⟨h1,h2⟩:=h;have hm:y∈ws.take k:=by
    rw[List.mem_take_iff_getElem];obtain⟨h3,h4⟩:=aac.1 h2;exact⟨k-1,by omega,h4⟩
   rw[ih,aaw];constructor
   .exact .inl
   rintro (h|h)
   .exact h
   simp at h;subst h;exact hm
  rw[aaw,aaw,ih]
theorem MI(hs:TQ HX ws 0 ws.length):∀k,k<=ws.length->(wI ws k).Nodup:=by
 intro k
 induction k with
 |zero=>intro _;exact abr
 |succ k ih=>
  intro hk;obtain⟨y,hy⟩:=ai (ls:=ws) (k:=k) (by omega);have ih:=ih (by omega);unfold wI;rw[hy];simp only;split
  .exact ih
  rename_i h;rw[adc];refine⟨ih,by simp,fun z hz w hw=>?_⟩;simp at hw;subst hw;rintro rfl
  rw[KC k (by omega),List.mem_take_iff_getElem] at hz;obtain⟨p,hp,hpz⟩:=hz;have hpk:p<k:=by omega
  have hp2:ws[p]?=some z:=by rw[abC (by omega),hpz]
  obtain⟨u,hu⟩:=ai (ls:=ws) (k:=k-1) (by omega);have s1:=hs (k-1) k u z (aae _) (by omega) (by omega) hu hy;have huz:u=z:=by
   by_cases e:p=k-1
   .rw[e,hu] at hp2;cases hp2;rfl
   have s2:=hs p (k-1) z u (aae _) (by omega) (by omega) hp2 hu;simp at s1 s2;omega
  rw[huz] at hu;exact h ⟨by omega,hu⟩
theorem sG{es:List Int}(hp:ws.Perm es)(hs:TQ HX ws 0 ws.length):(wI ws ws.length).length=(zP es).length:=by refine List.Perm.length_eq ((List.perm_ext_iff_of_nodup (MI hs _ (aad _)) (ME es)).2 fun x=>?_);rw[KC _ (aad _),aaV,xD,hp.mem_iff]
def Tl(ls:List Let)(e:Nat):Bool:=((pA ls e).l.kind==2)&&((pA ls (nx ls e)).l.kind==2)
def Jn(ls:List Let)(es:List Nat):List Int:=es.flatMap fun e:Nat=>[(e:Int),(nx ls e:Int)]
def K0(ls:List Let)(es:List Nat):List Int:=es.flatMap fun e:Nat=>[(pA ls e).l.id,(pA ls (nx ls e)).l.id]
def WH(F:Nat)(ls:List Let)(a b c:Nat):Bool:=[a,b,c].all (Tl ls)&&(((zP (Jn ls [a,b,c])).length==6)&&(((zP (K0 ls [a,b,c])).length==3)&&([a,b,c].any (vE ls · true)&&([a,b,c].any (vE ls · false)&&kQ F ls 0 [a,b,c] a))))
def Rj(F:Nat)(ls:List Let)(a b c:Nat):Option (List Pc):=if WH F ls a b c then some (pZ ls (pieces ls) [a,b,c]) else none
theorem CG(f:Nat->List Int)(hf:∀e,(f e).length=2):∀l:List Nat,(l.flatMap f).length=2*l.length:=by
 intro l
 induction l with
 |nil=>rfl
 |cons a r ih=>rw[List.flatMap_cons,aaF,ih,hf,aas];omega
theorem B8(f:Nat->List Int)(l:List Nat)(k e:Nat)(h:l[k]?=some e):(l.take (k+1)).flatMap f=(l.take k).flatMap f++f e:=by rw[abn,h];simp
theorem GR(f:Nat->Bool)(l:List Nat)(k e:Nat)(h:l[k]?=some e):(l.take (k+1)).any f=((l.take k).any f||f e):=by rw[abn,h];simp
theorem QF(f:Nat->Bool)(l:List Nat)(k e:Nat)(h:l[k]?=some e):(l.take (k+1)).all f=((l.take k).all f&&f e):=by rw[abn,h];simp
theorem Nn(f:Nat->List Int)(es:List Nat)(x y:Int):iP (es.flatMap f)++[[PV.int .i64 x],[PV.int .i64 y]]=iP (es.flatMap f++[x,y]):=by simp
theorem Hk(g:cD F ls){av bv cv:Nat}(ha:av<ls.length)(hb:bv<ls.length)(hc:cv<ls.length){k:Int}{l o:Bool}{sg:Int}:
  bz S 101 [.one (.p (fp F ls)),oG k av bv cv l o sg] (kR (Rj F ls av bv cv)):=by
 have hlen:=g.len;have Yu:=aB ls;have hes:∀e∈[av,bv,cv],e<ls.length:=fun e h=>by simp at h;rcases h with rfl|rfl|rfl<;>assumption
 generalize hE:[av,bv,cv]=es at*;have YJ:es.length=3:=by rw[<- hE];rfl
 have hn3:nP [av,bv,cv]=[[.int .i64 av],[.int .i64 bv],[.int .i64 cv]]:=rfl;rw[hE] at hn3;have w3:((3:Nat):Int)=3:=rfl;refine aP c101 ?_;simp only[go_sem,i101];refine bm (fun j env X9=>env 0=.one (.p (fp F ls))/\env 6=.one (.hsl 6464064384 1 1 0 3)/\env 22=.one (.hsl 6464064384 1 1 0 3)/\env 23=vi 3/\env 24=vi j/\X9 6464064384=(1,some (.arr 3 1 (nP es)))/\(es.take j).all (Tl ls)=true/\
  env 9=vb ((es.take j).any (vE ls · true))/\env 10=vb ((es.take j).any (vE ls · false))/\ ∃c7 c8,env 7=.one c7/\env 8=.one c8/\grown 6464640256 3 1 (iP (Jn ls (es.take j))) (.one c7) X9/\grown 6464705280 3 1 (iP (K0 ls (es.take j))) (.one c8) X9) 0 3 (aae _) ?_ ?_
 .simp only[go_sem];exact⟨rfl,rfl,by rw[hn3],rfl,rfl,_,_,rfl,rfl,grown.nil,grown.nil⟩
 rintro j env X9 hj ⟨h0,h6,h22,h23,Z6,b6,Yt,h9,YN,c7,c8,h7,h8,g7,g8⟩
 by_cases Ye:j<3
 .have Yf:((j:Int)<3):=by omega
  obtain⟨e,he⟩:=ai (ls:=es) (k:=j) (by omega);have ag4:=hes e (aab he);have hnp:=dQ he;have pe:=o0 g ag4;have hm:=aat (e+1) (show 0<ls.length by omega);obtain⟨P,hP⟩:=ai (ls:=pieces ls) (k:=e) (by omega);obtain⟨Q,hQ⟩:=ai (ls:=pieces ls) (k:=(e+1)%ls.length) (by omega);have hap:=cN hP;have haq:=cN hQ;have w1:=ah (n:=j) (by omega);have po:=vD g ag4 true;have pu:=vD g ag4 false;have YV:Tl ls e=((P.l.kind==2)&&(Q.l.kind==2)):=by unfold Tl;rw[eO hP,eO hQ]
  have hl7:(iP (Jn ls (es.take j))).length<=100:=by unfold Jn;rw[mS,CG _ (fun _=>rfl),aay];omega
  have hl8:(iP (K0 ls (es.take j))).length<=100:=by unfold K0;rw[mS,CG _ (fun _=>rfl),aay];omega
  have YH:Tl ls e=false->Rj F ls av bv cv=none:=fun h=>by
   have:es.all (Tl ls)=false:=by
    cases hh:es.all (Tl ls) with
    |false=>rfl
    |true=>rw[aaP.1 hh e (aab he)] at h;cases h
   unfold Rj WH;rw[hE,this];rfl
  cases k1:(P.l.kind==2) with
  |false=>
   rw[k1] at YV;have k1':(P.l.kind !=2)=true:=by simp only[bne,k1];rfl
   rw[YH YV];simp only[go_sem,i101_l1,h0,h22,h23,Z6,b6,Ye,Yf,hnp,s114,au pe aU,hap,Pc.ps,k1'];rfl
  |true=>
   have k1':(P.l.kind !=2)=false:=by simp only[bne,k1];rfl
   cases k2:(Q.l.kind==2) with
   |false=>
    rw[k1,k2] at YV;have k2':(Q.l.kind !=2)=true:=by simp only[bne,k2];rfl
    rw[YH YV];simp only[go_sem,i101_l1,h0,h22,h23,Z6,b6,Ye,Yf,hnp,s114,au pe aU,hap,haq,Pc.ps,k1',k2'];rfl
   |true=>
    rw[k1,k2] at YV;have k2':(Q.l.kind !=2)=false:=by simp only[bne,k2];rfl
    simp only[go_sem,i101_l1,h0,h7,h22,h23,Z6,b6,Ye,Yf,hnp,s114,au pe aU,hap,haq,Pc.ps,k1',k2'];refine vl (xs:=[[.int .i64 (e:Nat)],[.int .i64 ((e+1)%ls.length:Nat)]]) (g7.of_eq (af (by decide))) (by simp only[cM,ae,if_true];rfl) (.inl rfl) (by simp only[aas,aaA];omega) fun d7 Yi gd7 Yo=>?_;have q6:=Yo 6464064384 (by decide) (by decide);simp only[go_sem,b6] at q6;have g8':=g8.of_eq ((Yo 6464705280 (by decide) (by decide)).trans (af (by decide)));simp only[go_sem,h0,h8,hap,haq,Pc.ps];refine vu (xs:=[[.int .i64 P.l.id],[.int .i64 Q.l.id]]) (g8'.of_eq (af (by decide))) (by simp only[cM,ae,if_true];rfl) (.inl rfl) (by simp only[aas,aaA];omega) fun d8 Yg r w gd8 Yp hw=>?_
    have p6:=(Yp 6464064384 (by decide) (by decide)).trans ((af (by decide)).trans q6);have apg:=gd7.of_eq ((Yp 6464640256 (by decide) (by decide)).trans (af (by decide)));simp only[go_sem];refine⟨?_,?_⟩
    .rcases hw with ⟨rfl,rfl⟩|⟨rfl,rfl⟩|⟨rfl,rfl⟩<;>kernel_rfl
    generalize hx9:(es.take j).any (vE ls · true)=x9 at h9;generalize anV:(es.take j).any (vE ls · false)=x10 at YN;have e9:=GR (vE ls · true) es j e he;have e10:=GR (vE ls · false) es j e he;have eA:=QF (Tl ls) es j e he;rw[hx9] at e9;rw[anV] at e10;rw[Yt,YV] at eA;have G7:grown 6464640256 3 1 (iP (Jn ls (es.take (j+1)))) (.one d7) Yg:=by have:=Nn (fun e:Nat=>[(e:Int),(nx ls e:Int)]) (es.take j) e (nx ls e);have h2:=B8 (fun e:Nat=>[(e:Int),(nx ls e:Int)]) es j e he;rw[show Jn ls (es.take (j+1))=(es.take j).flatMap (fun e:Nat=>[(e:Int),(nx ls e:Int)])++[(e:Int),(nx ls e:Int)] from h2,<- this];exact apg
    have G8:grown 6464705280 3 1 (iP (K0 ls (es.take (j+1)))) (.one d8) Yg:=by have:=Nn (fun e:Nat=>[(pA ls e).l.id,(pA ls (nx ls e)).l.id]) (es.take j) (pA ls e).l.id (pA ls (nx ls e)).l.id;have h2:=B8 (fun e:Nat=>[(pA ls e).l.id,(pA ls (nx ls e)).l.id]) es j e he;rw[show K0 ls (es.take (j+1))=(es.take j).flatMap (fun e:Nat=>[(pA ls e).l.id,(pA ls (nx ls e)).l.id])++[(pA ls e).l.id,(pA ls (nx ls e)).l.id] from h2,<- this,eO hP,show pA ls (nx ls e)=Q from eO hQ];exact gd8
    cases x9<;>cases x10<;>simp only[go_sem,h0,h9,YN,h22,h23,Z6,s125,az po,az pu,w1,Ye]<;>exact⟨h6,p6,by rw[eA];rfl,by rw[e9];rfl,by rw[e10];rfl,d7,d8,rfl,rfl,G7,G8⟩
 have:j=3:=by omega
 subst this;have ht:es.take 3=es:=by rw[<- hE];rfl
 rw[ht] at Yt h9 YN g7 g8;have n7:(Jn ls es).length=6:=by unfold Jn;rw[CG _ (fun _=>rfl),YJ]
 have n8:(K0 ls es).length=6:=by unfold K0;rw[CG _ (fun _=>rfl),YJ]
 rcases g7 with ⟨e,_⟩|⟨_,gg7,e,b7⟩
 .have:=congrArg List.length e;rw[mS,n7] at this;cases this
 cases e;rcases g8 with ⟨e,_⟩|⟨_,gg8,e,b8⟩
 .have:=congrArg List.length e;rw[mS,n8] at this;cases this
 cases e;have s506:S.shared 127=true:=by kernel_rfl
 have s507:S.shared 128=true:=by kernel_rfl
 have h33:¬(((3:Nat):Int)<3):=by decide
 simp only[go_sem,i101_l1,i101_r2,h7,h23,Z6,h33,s506,mS];refine vk b7 (by rfl) (.inl rfl) (P:=sO HX 6464640256 gg7 3 (Jn ls es) X9) (fun al' h1 h2=>Js h1 (by rw[h2];kernel_rfl) (by omega) b7) fun v Yi hP=>?_;obtain⟨rfl,⟨ws,bw,pw,sw⟩,kw⟩:=hP;have b8':=(kw 6464705280 (by decide)).trans b8;have b6':=(kw 6464064384 (by decide)).trans b6;simp only[go_sem,h8,s506,mS];refine vk b8' (by rfl) (.inl rfl) (P:=sO HX 6464705280 gg8 3 (K0 ls es) Yi) (fun al' h1 h2=>Js h1 (by rw[h2];kernel_rfl) (by omega) b8') fun v Yg hP=>?_
 obtain⟨rfl,⟨us,bu,pu,su⟩,ku⟩:=hP;have bw':=(ku 6464640256 (by decide)).trans bw;have apu:=(ku 6464064384 (by decide)).trans b6';have wl:=pw.length_eq;have ul:=pu.length_eq;have cw:=sG pw sw;have cu:=sG pu su;have pcn:=zV g es (by omega) (e0:=av) (by rw[<- hE];rfl) ha 0;have c00:((0:Nat):Int)=0:=rfl;rw[c00] at pcn;have psw:=K5 g es hes (by omega);have ht3:List.take 3 (nP es)=nP es:=aaD (by rw[HR];omega);have hB:WH F ls av bv cv=((((zP (Jn ls es)).length:Int)==6)&&((((zP (K0 ls es)).length:Int)==3)&&(es.any (vE ls · true)&&(es.any (vE ls · false)&&kQ F ls 0 es av)))):=by unfold WH;rw[hE,Yt,xr,xr];rfl
 unfold Rj;rw[hB];clear hB;simp only[go_sem,h7,s507,mS,<- wl];refine vk bw' (by rfl) (.inl rfl) (P:=IS 6464640256 gg7 3 ws Yg) (fun al' h1 h2=>Cj h1 (by omega) bw') fun v Z4 hP=>?_;obtain⟨rfl,_,kc⟩:=hP;have bu':=(kc 6464705280 (by decide)).trans bu;have b63:=(kc 6464064384 (by decide)).trans apu;rw[cw];have lo:S.lone 6465152128=false:=by kernel_rfl
 cases q1:(((zP (Jn ls es)).length:Int)==6) with
 |false=>
  have q1':(((zP (Jn ls es)).length:Int)!=6)=true:=by simp only[bne,q1];rfl
  simp only[go_sem,q1'];rfl
 |true=>
  have q1':(((zP (Jn ls es)).length:Int)!=6)=false:=by simp only[bne,q1];rfl
  simp only[go_sem,h8,q1',s507,mS,<- ul];refine vk bu' (by rfl) (.inl rfl) (P:=IS 6464705280 gg8 3 us Z4) (fun al' h1 h2=>Cj h1 (by omega) bu') fun v al9 hP=>?_;obtain⟨rfl,_,kd⟩:=hP;have b64:=(kd 6464064384 (by decide)).trans b63;rw[cu];cases q2:(((zP (K0 ls es)).length:Int)==3) with
  |false=>
   have q2':(((zP (K0 ls es)).length:Int)!=3)=true:=by simp only[bne,q2];rfl
   simp only[go_sem,q2'];rfl
  |true=>
   have q2':(((zP (K0 ls es)).length:Int)!=3)=false:=by simp only[bne,q2];rfl
   cases q3:es.any (vE ls · true) with
   |false=>rw[q3] at h9;simp only[go_sem,h9,q2'];rfl
   |true=>
    rw[q3] at h9;cases q4:es.any (vE ls · false) with
    |false=>rw[q4] at YN;simp only[go_sem,h9,YN,q2'];rfl
    |true=>
     rw[q4] at YN;cases q5:kQ F ls 0 es av with
     |false=>rw[q5] at pcn;simp only[go_sem,h0,h6,h9,YN,q2',b64,s122,az pcn,YJ,HR,ht3];rfl
     |true=>rw[q5] at pcn;simp only[go_sem,h0,h6,h9,YN,q2',b64,s122,az pcn,s129,YJ,HR,ht3];refine gA psw lo (.inr (ay (dp _))) fun cc acs gc hb5=>?_;simp only[go_sem];rw[<- hE] at gc;exact aS gc
abbrev VG:List C:=[.p .YF,.p (.fn 94 [] []),.p (.fn 95 [] []),.p (.fn 96 [] []),.p (.fn 97 [] []),.p (.fn 98 [] []),.p (.fn 99 [] []),.p (.fn 100 [] []),.p (.fn 101 [] []),.p (.fn 102 [] []),.p (.fn 102 [] [])]
theorem FW(k:Int):0<=(ce k).1/\(ce k).1<=4/\0<=(ce k).2/\(ce k).2<=2:=by
 unfold ce;split
 .simp
 split
 .simp
 split<;>simp
theorem AY(hlen:ls.length<=400)(YV:ao Let.aw ls<=200){k f:Nat}{rest:List C}(hk:VG.drop k=.p (.fn f [] [])::rest)(hk2:k<11)(hsf:S.shared f=false){a b c:Int}{l o:Bool}{sg:Int}{res:Option (List Pc)}(ha:bz S 75 [.one (.p (fp F ls)),oG k a b c l o sg] (rb true))(hm:bz S f [.one (.p (fp F ls)),oG k a b c l o sg] (kR res))(hL:∀L,res=some L->L.length<=1000000):
  bz S 47 [.one (.p (fp F ls)),oG k a b c l o sg] (IL F ls k res):=by
 have Z3:=zC F;have pg:=Ke k;have lo1:S.lone 3008192384=false:=by kernel_rfl
 have lo2:S.lone 3008576128=false:=by kernel_rfl
 have hlk:∀(X9:aE),land X9 [] 3008192000 ((RV.agg [.p .YF,.p (.fn 94 [] []),.p (.fn 95 [] []),.p (.fn 96 [] []),.p (.fn 97 [] []),.p (.fn 98 [] []),.p (.fn 99 [] []),.p (.fn 100 [] []),.p (.fn 101 [] []),.p (.fn 102 [] []),.p (.fn 102 [] [])]).bZ (S.lone 3008192000))=some (.agg VG,[]):=fun X9=>by cases S.lone 3008192000<;>rfl
 have Yu:=aB ls;obtain⟨g1,g2,g3,g4⟩:=FW k;have lg:∀X9:aE,land X9 [] 3008384128 ((RV.tup [.one (.p (.int .i64 (ce k).1)),.one (.p (.int .i64 (ce k).2))]).bZ (S.lone 3008384128))=some (.tup [.one (.p (.int .i64 (ce k).1)),.one (.p (.int .i64 (ce k).2))],[]):=fun X9=>aU;obtain⟨gr1,gr2,hgr⟩:∃x y,ce k=(x,y):=⟨_,_,rfl⟩;have d4:IL F ls k none=ji 4:=rfl;have d7:∀L,((400:Int)<(ls.length:Int)+gr1\/(100:Int)<((ao Let.aw ls/2:Nat):Int)+gr2)->IL F ls k (some L)=ji 7:=fun L h=>by unfold IL;rw[hgr];exact if_pos h
 have d0:∀L,¬((400:Int)<(ls.length:Int)+gr1\/(100:Int)<((ao Let.aw ls/2:Nat):Int)+gr2)->IL F ls k (some L)=sR F (mT L):=fun L h=>by unfold IL;rw[hgr];exact if_neg h
 rw[hgr] at g1 g2 g3 g4 pg;simp only[hgr] at lg;simp only at g1 g2 g3 g4 lg pg;have w1:IntKind.i64.wrap (((pieces ls).length:Int)+gr1)=(ls.length:Int)+gr1:=by rw[Yu];exact jT (by omega) (by omega)
 have w2:IntKind.i64.wrap (((ao Let.aw ls/2:Nat):Int)+gr2)=((ao Let.aw ls/2:Nat):Int)+gr2:=jT (by omega) (by omega);unfold kR at hm;generalize VG=kg at hk hlk;refine aP c47 ?_;simp only[go_sem,i47,s75,az ha,s76,bl JX (hlk _),hk,hk2,hsf];refine Qd hm lo1 fun cc Yi w gc hb hw=>?_;have b0:=hb 3008000000 (by decide);have b1:=hb 3008000064 (by decide);simp only[go_sem] at b0 b1;cases res with
 |none=>rw[d4];simp only[go_sem,b1];refine⟨?_,rfl⟩;rcases hw with rfl|rfl<;>kernel_rfl
 |some L=>
  simp only[aaS] at gc;have pfin:=Z3 L (hL L rfl) (.sl (d5 (pieces ls))) (.sl (zE (aT F ls))) (.sl (nP (dX F ls))) (.int .i64 (ao Let.aA ls:Nat)) (.int .i64 ((ao Let.aw ls/2:Nat):Int)) (.sl (nP (counts ls F)));obtain⟨rs,hsn,_⟩:=gc.cn;by_cases h1:(400:Int)<(ls.length:Int)+gr1
  .rw[d7 L (.inl h1)];simp only[go_sem,b0,b1,s77,au pg (lg _),w1,h1];refine⟨?_,rfl⟩;rcases hw with rfl|rfl<;>kernel_rfl
  by_cases h2:(100:Int)<((ao Let.aw ls/2:Nat):Int)+gr2
  .rw[d7 L (.inr h2)];simp only[go_sem,b0,b1,s77,au pg (lg _),w1,w2,h1,h2];refine⟨?_,rfl⟩;rcases hw with rfl|rfl<;>kernel_rfl
  rw[d0 L (by rintro (h|h);exact h1 h;exact h2 h)];simp only[go_sem,b0,s77,au pg (lg _),w1,w2,h1,h2,hsn,s78];refine⟨?_,?_⟩
  .rcases hw with rfl|rfl<;>kernel_rfl
  refine UC pfin lo2 rfl (yy _) fun c2 Yg gc2 Yp=>?_;have b02:=(Yp 3008000064 (by decide)).trans b1;simp only[go_sem,b02];exact lT (gc2.of_eq (af (by decide)))
theorem PY{k a b c:Int}{l o:Bool}{sg:Int}(ha:bz S 75 [.one (.p (fp F ls)),oG k a b c l o sg] (rb false)):bz S 47 [.one (.p (fp F ls)),oG k a b c l o sg] (ji 2):=by refine aP c47 ?_;simp only[go_sem,i47,s75,az ha];try rfl
def iG(F:Nat)(ls:List Let)(k:Int)(a b c:Nat)(l o:Bool)(sg:Int):Option (List Pc):=if k=1 then Wh ls a else if k=2 then Nb F ls a b c else if k=3 then Wb F ls a b else if k=4 then VD ls a else if k=5 then some (Wy ls a sg o) else if k=6 then Vt F ls a b else if k=7 then Vm F ls a b l o else if k=8 then Rj F ls a b c else if k=9 then U5 F ls a else U7 ls a
def Ak(F:Nat)(ls:List Let)(k a b c:Int)(l o:Bool)(sg:Int):RV:=if aV F ls k a b c l o sg then IL F ls k (iG F ls k a.toNat b.toNat c.toNat l o sg) else ji 2
theorem MX{k a b c:Int}{l o:Bool}{sg:Int}:(∃e,Ak F ls k a b c l o sg=ji e)\/ ∃L,Ak F ls k a b c l o sg=sR F L:=by
 unfold Ak;split
 .cases iG F ls k a.toNat b.toNat c.toNat l o sg with
  |none=>exact .inl ⟨4,rfl⟩
  |some L=>
   by_cases h:(400:Int)<(ls.length:Int)+(ce k).1\/(100:Int)<((ao Let.aw ls/2:Nat):Int)+(ce k).2
   .exact .inl ⟨7,if_pos h⟩
   exact .inr ⟨mT L,if_neg h⟩
 exact .inl ⟨2,rfl⟩
theorem Co{k a b c:Int}{l o:Bool}{sg:Int}{res:RV}(po:bz S 46 [de F ls] (uU (fp F ls) (.int .i64 0)))(hd:bz S 47 [.one (.p (fp F ls)),oG k a b c l o sg] res)(fin:(∃e,res=ji e)\/ ∃L,res=sR F L):
  bz S 23 [de F ls,oG k a b c l o sg] res:=by
 have lo:S.lone 1472256128=false:=by kernel_rfl
 refine aP c23 ?_;rcases fin with ⟨e,rfl⟩|⟨L,rfl⟩
 .simp only[go_sem,i23,s46,au po aU,s47,au hd Mc];rfl
 simp only[go_sem,i23,s46,au po aU,s47];refine Pz hd lo fun cc Yi gc hb=>?_;have b4:=hb 1472000128 (by decide);simp only[go_sem] at b4;simp only[go_sem,b4];exact lT (gc.of_eq (af (by decide)))
theorem cS{n:Nat}{i:Int}(h:rJ n i=true):∃k:Nat,i=(k:Int)/\k<n:=by unfold rJ at h;simp at h;exact⟨i.toNat,by omega,by omega⟩
theorem vf(l:List Pc)(drop:Nat->Pc->Bool):(iY l drop).length<=l.length:=lf l drop l.length
theorem Bg(l:List Pc)(i:Nat)(g r:Int):(lG l i g r).length=l.length:=by simp[lG]
theorem BI{k:Int}{a b c:Nat}{l o:Bool}{sg:Int}{L:List Pc}(h:iG F ls k a b c l o sg=some L):L.length<=ls.length+4:=by
 have hp:=aB ls;unfold iG at h;repeat' split at h
 .unfold Wh at h;simp only at h;split at h
  .cases h;have:=vf (pieces ls) (fun k _=>decide (k=a)||decide (k=(a+1)%ls.length));simp only[aX,aah];omega
  cases h
 .unfold Nb at h;split at h
  .cases h;simp only[qV,aQ,aX,aah,aas,aaA];omega
  split at h
  .cases h;simp only[qV,aQ,aX,aah,aas,aaA];omega
  cases h
 .unfold Wb at h;split at h
  .cases h;simp only[ml,iV];omega
  cases h
 .unfold VD at h;simp only at h;split at h
  .cases h;have:=vf (pieces ls) (lY [((pieces ls).getD a ⟨fG,false⟩).l.id]);simp only[Ch,aah];omega
  cases h
 .cases h;simp only[Wy,aQ,aas,aaA];omega
 .unfold Vt at h;split at h
  .cases h;have:=vf (pieces ls) (lY [(pA ls a).l.id,(pA ls (nx ls a)).l.id]);simp only[Ch,aah];omega
  cases h
 .have key:∀s t,nW ls a b l o s t=some L->L.length<=ls.length+4:=fun s t h=>by
   unfold nW at h;split at h
   .cases h
   simp only[aau] at h;subst h;have h2:∀x sg o s,(AU x sg o s).length=2:=fun x sg o s=>by unfold AU;split<;>rfl
   split<;>simp only[aQ,h2,aas,aaA]<;>omega
  unfold Vm at h;split at h
  .exact key _ _ h
  exact key _ _ h
 .unfold Rj at h;split at h
  .cases h;simp only[ml];omega
  cases h
 .unfold U5 at h;split at h
  .cases h;simp only[Bg,aX,aah];omega
  cases h
 unfold U7 at h;split at h
 .cases h;simp only[Bg,aX,aah];omega
 cases h
theorem do_p(g:cD F ls)(k a b c:Int)(l o:Bool)(sg:Int):bz S 47 [.one (.p (fp F ls)),oG k a b c l o sg] (Ak F ls k a b c l o sg):=by
 have pa:=UL (F:=F) (ls:=ls) (a:=a) (b:=b) (c:=c) (l:=l) (o:=o) (sg:=sg) k;have hlen:=g.len;have YV:=g.cr;unfold Ak;cases hA:aV F ls k a b c l o sg with
 |false=>rw[hA] at pa;exact PY pa
 |true=>
  rw[hA] at pa;rw[if_pos rfl];have hL:∀L,iG F ls k a.toNat b.toNat c.toNat l o sg=some L->L.length<=1000000:=fun L h=>by have:=BI h;omega
  have ne:=g.ne;have hnl:¬ls.length=0:=by have:=aaQ.2 ne;omega
  unfold aV at hA;by_cases h1:k=1
  .subst h1;simp only[Int.reduceEq,if_true,if_false,or_false,or_self] at hA;simp only[aaf,aaR,beq_iff_eq] at hA;obtain⟨rfl,rfl,rfl,hx,rfl,rfl⟩:=hA;obtain⟨av,rfl,ha⟩:=cS hx;simp only[aba] at hL ⊢;exact AY hlen YV (k:=1) rfl (by decide) (by kernel_rfl) pa (MS g ha) hL
  by_cases h2:k=2
  .subst h2;simp only[Int.reduceEq,if_true,if_false,or_self] at hA;simp only[aaf,ab4,aaR,beq_iff_eq,decide_eq_true_eq] at hA;obtain⟨rfl,rfl,rfl,hx,Zq,hbF,hc0,hcc⟩:=hA;rcases hx with hx|⟨hx,_⟩
   rotate_left
   .exact absurd hx hnl
   obtain⟨av,rfl,ha⟩:=cS hx;obtain⟨bv,rfl⟩:=abs Zq;obtain⟨cv,rfl⟩:=abs hc0;simp only[aba] at hL hcc ⊢;have:=ir (vG bv) ls;exact AY hlen YV (k:=2) rfl (by decide) (by kernel_rfl) pa (I2 g ha (by omega) (by simp only[cg] at hcc;omega)) hL
  by_cases h3:k=3
  .subst h3;simp only[Int.reduceEq,if_true,if_false,or_false,or_self] at hA;simp only[aaf,aaR,beq_iff_eq,decide_eq_true_eq] at hA;obtain⟨rfl,rfl,rfl,hx,rfl,hy,Ye⟩:=hA;obtain⟨av,rfl,ha⟩:=cS hx;obtain⟨bv,rfl,hb⟩:=cS hy;simp only[aba] at hL ⊢;exact AY hlen YV (k:=3) rfl (by decide) (by kernel_rfl) pa (GL g ha hb) hL
  by_cases h4:k=4
  .subst h4;simp only[Int.reduceEq,if_true,if_false,or_false,or_true,or_self] at hA;simp only[aaf,aaR,beq_iff_eq] at hA;obtain⟨rfl,rfl,rfl,hx,rfl,rfl⟩:=hA;obtain⟨av,rfl,ha⟩:=cS hx;simp only[aba] at hL ⊢;exact AY hlen YV (k:=4) rfl (by decide) (by kernel_rfl) pa (L4 g ha) hL
  by_cases h5:k=5
  .subst h5;simp only[Int.reduceEq,if_true,if_false,or_self] at hA;simp only[aaf,ab4,aaR,beq_iff_eq] at hA;obtain⟨rfl,hs,hx,rfl,rfl⟩:=hA;obtain⟨av,rfl,ha⟩:=cS hx;simp only[aba] at hL ⊢;exact AY hlen YV (k:=5) rfl (by decide) (by kernel_rfl) pa (HZ g ha) hL
  by_cases h6:k=6
  .subst h6;simp only[Int.reduceEq,if_true,if_false,or_true,or_self] at hA;simp only[aaf,aaR,beq_iff_eq,decide_eq_true_eq] at hA;obtain⟨rfl,rfl,rfl,hx,rfl,hy,Ye⟩:=hA;obtain⟨av,rfl,ha⟩:=cS hx;obtain⟨bv,rfl,hb⟩:=cS hy;simp only[aba] at hL ⊢;exact AY hlen YV (k:=6) rfl (by decide) (by kernel_rfl) pa (LT g ha hb) hL
  by_cases h7:k=7
  .subst h7;simp only[Int.reduceEq,if_true,if_false,or_self] at hA;simp only[aaf,aaR,beq_iff_eq,beq_eq_false_iff_ne] at hA;obtain⟨rfl,hx,rfl,hy,Yk⟩:=hA;obtain⟨av,rfl,ha⟩:=cS hx;obtain⟨bv,rfl,hb⟩:=cS hy;simp only[aba] at hL ⊢;exact AY hlen YV (k:=7) rfl (by decide) (by kernel_rfl) pa (HM g ha hb (by omega)) hL
  by_cases h8:k=8
  .subst h8;simp only[Int.reduceEq,if_true,if_false,or_self] at hA;simp only[aaf,aaR,beq_iff_eq,decide_eq_true_eq] at hA;obtain⟨rfl,rfl,rfl,hx,hy,hz,_,_⟩:=hA;obtain⟨av,rfl,ha⟩:=cS hx;obtain⟨bv,rfl,hb⟩:=cS hy;obtain⟨cv,rfl,hc⟩:=cS hz;simp only[aba] at hL ⊢;exact AY hlen YV (k:=8) rfl (by decide) (by kernel_rfl) pa (Hk g ha hb hc) hL
  by_cases h9:k=9
  .subst h9;simp only[Int.reduceEq,if_true,if_false,or_false,or_true,or_self] at hA;simp only[aaf,aaR,beq_iff_eq] at hA;obtain⟨rfl,rfl,rfl,hx,rfl,rfl⟩:=hA;obtain⟨av,rfl,ha⟩:=cS hx;simp only[aba] at hL ⊢;exact AY hlen YV (k:=9) rfl (by decide) (by kernel_rfl) pa (U8 g ha) hL
  by_cases YN:k=10
  .subst YN;simp only[Int.reduceEq,if_true,if_false,or_true,or_self] at hA;simp only[aaf,aaR,beq_iff_eq] at hA;obtain⟨rfl,rfl,rfl,hx,rfl,rfl⟩:=hA;obtain⟨av,rfl,ha⟩:=cS hx;simp only[aba] at hL ⊢;exact AY hlen YV (k:=10) rfl (by decide) (by kernel_rfl) pa (U9 g ha) hL
  simp[h1,h2,h3,h4,h5,h6,h7,h8,h9,YN] at hA
theorem TK(g:cD F ls)(k a b c:Int)(l o:Bool)(sg:Int):bz S 23 [de F ls,oG k a b c l o sg] (Ak F ls k a b c l o sg):=Co (Vu g) (do_p g k a b c l o sg) MX
def Wf(F:Nat)(k a b c:Int)(l o:Bool)(sg:Int):RV:=if aV F [] k a b c l o sg then sR F (Gz b.toNat) else ji 2
theorem UM{k a b c:Int}{l o:Bool}{sg:Int}(h:aV F [] k a b c l o sg=true):∃bv:Nat,k=2/\a=0/\b=(bv:Int)/\bv<=F/\c=0/\l=false/\o=false/\sg=0:=by
 have hi:∀i:Int,rJ 0 i=false:=fun i=>by unfold rJ;simp
 unfold aV at h;by_cases h2:k=2
 .subst h2;simp only[if_true,aaA,hi,acD,aaf,aaR,beq_iff_eq,decide_eq_true_eq] at h;obtain⟨rfl,rfl,rfl,⟨_,rfl⟩,Zq,hbF,hc0,hcc⟩:=h;obtain⟨bv,rfl⟩:=abs Zq;have:cg [] ((bv:Int).toNat)=0:=rfl;rw[this] at hcc;exact⟨bv,rfl,rfl,rfl,by omega,by omega,rfl,rfl,rfl⟩
 simp[h2,hi] at h
theorem TL(hF:F<=40)(k a b c:Int)(l o:Bool)(sg:Int):bz S 23 [de F [],oG k a b c l o sg] (Wf F k a b c l o sg):=by
 unfold Wf;cases hA:aV F [] k a b c l o sg with
 |false=>have pa:=UL (F:=F) (ls:=[]) (a:=a) (b:=b) (c:=c) (l:=l) (o:=o) (sg:=sg) k;rw[hA] at pa;exact Co (T0 hF) (PY pa) (.inl ⟨2,rfl⟩)
 |true=>obtain⟨bv,rfl,rfl,rfl,hb,rfl,rfl,rfl,rfl⟩:=UM hA;exact QB hF hb
abbrev lA(ls:List Let)(i:Nat):Let:=ls.getD i fG
theorem T8{i:Nat}{l:Let}(h:ls[i]?=some l):lA ls i=l:=by rw[lA,aal,h];rfl
theorem sD{i:Nat}(h:i<ls.length):ls[i]?=some (lA ls i):=by obtain⟨l,hl⟩:=ai h;rw[T8 hl,hl]
theorem szL(l:List Let):iD 6 (eE l)=true:=by simp[iD,Let.ps]
theorem OW(a b:List Let):eE (a++b)=eE a++eE b:=aaN
theorem SC{L:List Let}(h:L≠[]):eE L≠[]:=by simpa [eE] using h
def leq(a b:Let):Bool:=(a.kind==b.kind)&&((a.gate==b.gate)&&((a.Yb==b.Yb)&&((a.id==b.id)&&((a.sign==b.sign)&&(a.over==b.over)))))
theorem DH(x y:Let):ti [true,true,true,true,true,false] [.p (.int .i64 x.kind),.p (.int .i64 x.gate),.p (.int .i64 x.Yb),.p (.int .i64 x.id),.p (.int .i64 x.sign),.p (.bool x.over)] [.p (.int .i64 y.kind),.p (.int .i64 y.gate),.p (.int .i64 y.Yb),.p (.int .i64 y.id),.p (.int .i64 y.sign),.p (.bool y.over)]=some (leq x y):=by
 have e:∀a b:Int,Kr true (.int .i64 a) (.int .i64 b)=some (a==b):=fun a b=>by simp[Kr]
 have e2:∀a b:Bool,Kr false (.bool a) (.bool b)=some (a==b):=fun a b=>by simp[Kr]
 simp only[ti,leq,e,e2];cases (x.kind==y.kind)<;>cases (x.gate==y.gate)<;>cases (x.Yb==y.Yb)<;>cases (x.id==y.id)<;>cases (x.sign==y.sign)<;>cases (x.over==y.over)<;>rfl
theorem lO(x:Let):leq x x=true:=by simp[leq]
theorem Bl(L:List Let)(k:Nat)(hk:k<=L.length)(hl:L.length<=1000000):bz S 44 [.one (.p (kL L)),vi k] (.one (aD lN 6 (eE (L.drop k++L.take k)))):=by
 have hs6:=szL L;have hdr:List.take (L.length-k) (List.drop k (eE L))=eE (L.drop k):=by rw[aaD (by simp)];simp[ac2]
 have htk:List.take k (eE L)=eE (L.take k):=by simp[acy]
 rw[OW];refine aP c44 ?_;simp only[go_sem,i44,hk,hs6,hdr];refine vu (id:=2816064192) (bytes:=48) grown.nil (xs:=eE (L.drop k)) (rd:=[]) rfl (.inr (szL _)) (by simp;omega) fun c1 Yi r w g1 Yo hw=>?_;rw[aaE] at g1;simp only[go_sem,hk,hs6,htk];refine vu (bytes:=48) g1 (xs:=eE (L.take k)) (rd:=[]) rfl (.inr (szL _)) (by simp;omega) fun c2 Yg r2 w2 g2 Yp ZE=>?_;simp only[go_sem];refine⟨?_,hJ g2⟩;rcases hw with ⟨rfl,rfl⟩|⟨rfl,rfl⟩|⟨rfl,rfl⟩<;>rcases ZE with ⟨rfl,rfl⟩|⟨rfl,rfl⟩|⟨rfl,rfl⟩<;>kernel_rfl

theorem Au{S:Sys}{f:Nat}{fn:dD}{args:List V}{P:RV->Prop}(hp:S.prim f args=none)(hf:S.fns f=some fn)(hl:args.length<=fn.ntmps)
  (h:W S .all fn.body (pY .all fn.results fun v X9=>∃r,P r/\iE X9 v=some r) (pW args) qD):∃r,P r/\bz S f args r:=by
 obtain⟨n,v,Ya,h1,r,h3,h2⟩:=QL h;refine⟨r,h3,n+1,?_⟩;rw[dC];simp only[hp,hf,hl,if_true];unfold ET;simp only[h1,h2]
theorem IU{l:List Let}(Yk:l≠[])(hl:l.length<=1000000):bz S 22 [.one (.p (kL l))] (.one (aD lN 6 (eE l))):=by
 have hs:((eE l).all fun e=>e.length==6)=true:=szL l;have hr:(0+(eE l).length)*48<=room:=by unfold room;rw[aah];omega
 show bz S _ [.one (.p (.sl (eE l)))] _;obtain⟨e0,es,hq⟩:∃e0 es,eE l=e0::es:=by cases l with
  |nil=>exact absurd rfl Yk
  |cons a t=>exact⟨_,_,rfl⟩
 rw[hq] at hs hr ⊢;refine aP c22 ?_;have Yk:e0::es≠[]:=by simp
 have hgr:aD lN 6 (e0::es)=.own lN 6 (e0::es):=if_neg Yk;rw[hgr];unfold room at hr;simp only[aa0,aas] at hr;simp only[ab9] at hs;simp only[go_sem,i22,aN,iD];simp only[hs,hr,not_true_eq_false,if_true,if_false];simp only[go_sem];exact qB lz rfl
abbrev WY(M:List (Int×Int)):List (PV×List PV):=M.map fun e=>(PV.int .i64 e.1,[PV.int .i64 e.2])
def XD:List (Int×Int)->Int->Nat->Option (Nat×Int)
 |[],_,_=>none
 |(a,v)::r,x,i=>if x==a then some (i,v) else XD r x (i+1)
theorem Gc(M:List (Int×Int))(x:Int):∀i,kN (.int .i64 x) (WY M) i=some ((XD M x i).map fun p=>(p.1,[PV.int .i64 p.2])):=by
 induction M with
 |nil=>intro i;rfl
 |cons e M ih=>
  intro i;obtain⟨a,v⟩:=e;show kN (.int .i64 x) ((PV.int .i64 a,[PV.int .i64 v])::WY M) i=_;unfold kN;have hs:sameKey (.int .i64 x) (.int .i64 a)=some (x==a):=by simp[sameKey]
  rw[hs];unfold XD;cases (x==a) with
  |true=>rfl
  |false=>exact ih (i+1)
theorem JT(M:List (Int×Int))(x v:Int):WY M++[(PV.int .i64 x,[PV.int .i64 v])]=WY (M++[(x,v)]):=by simp
theorem FG(l:List Let)(k:Nat)(p:Let):(eE l).set k p.ps=eE (l.set k p):=by simp[List.map_set]
theorem W1{e:List PV}(h:e.length=6):∃x0 x1 x2 x3 x4 x5,e=[x0,x1,x2,x3,x4,x5]:=by
 match e,h with
 |[x0,x1,x2,x3,x4,x5],_=>exact⟨_,_,_,_,_,_,rfl⟩
theorem Od{al:Al}{X9:aE}{id:Nat}{es:List (List PV)}{c:C}(o:es=[]\/al.ok id=true)(hl:es.length<=1000000)(hes:∀e∈es,e.length=6/\ ∀v∈e,v.norm=v)(h:grown id ty 6 es (.one c) X9):
  ∃v Ya,vN S 70 [.one c] al X9 v Ya/\qp id ty 6 es c X9 v Ya:=by
 refine iS c70 (aaU rfl) ?_;rcases h with ⟨rfl,h2⟩|⟨Yk,g,h2,hC⟩
 .cases h2;have w0:IntKind.i64.wrap (((0:Nat):Int)-1)= -1:=by decide
  have hz:¬((0:Int)< -1):=by decide
  simp only[go_sem,i70,w0];refine bm (fun k env Ya=>k=0/\env 2=vi 0/\env 3=vi (-1)/\Ya=X9) 0 0 (aad _) ?_ ?_
  .simp only[go_sem]
  rintro k env Ya _ ⟨rfl,h2,h3,rfl⟩
  simp only[go_sem,i70_l1,h2,h3,hz];exact⟨rfl,.inl ⟨rfl,rfl⟩,fun _ _=>rfl⟩
 cases h2;have o:=o.resolve_left Yk;have w0:=gV (a:=es.length) (by omega);simp only[go_sem,i70,w0];refine bm (fun k env Ya=>env 0=.one (.hsl id g 6 0 es.length)/\env 2=vi k/\env 3=vi ((es.length:Int)-1-(k:Int))/\ ∃fs,Ya id=(g,some (.arr ty 6 fs))/\Hz es fs k/\Kept (· =id) X9 Ya) 0 es.length (aae _) ?_ ?_
 .simp only[go_sem];refine⟨rfl,by simp,es,hC,Hz.start es,Kept.refl _ _⟩
 rintro k env Ya hk ⟨h0,h2,h3,fs,hF,hI,YB⟩
 by_cases Ye:k<es.length-1-k
 .have e1:((es.length:Int)-1-(k:Int))=((es.length-1-k:Nat):Int):=by omega
  rw[e1] at h3;have Yf:((k:Int)<((es.length-1-k:Nat):Int)):=by omega
  have w1:=ah (n:=k) (by omega);have w2:IntKind.i64.wrap (((es.length-1-k:Nat):Int)-1)=((es.length:Int)-1-((k+1:Nat):Int)):=by rw[gV (by omega)];omega
  obtain⟨a,ha⟩:=ai (show k<es.length by omega);obtain⟨b,hb⟩:=ai (show es.length-1-k<es.length by omega);obtain⟨fa,fb,hI2⟩:=hI.step Ye ha hb;obtain⟨la,na⟩:=hes a (aab ha);obtain⟨lb,nb⟩:=hes b (aab hb);obtain⟨x0,x1,x2,x3,x4,x5,rfl⟩:=W1 la;obtain⟨y0,y1,y2,y3,y4,y5,rfl⟩:=W1 lb;have acG:=na x0 (by simp);have aew:=na x1 (by simp);have aiV:=na x2 (by simp);have aiU:=na x3 (by simp);have aiT:=na x4 (by simp);have aiS:=na x5 (by simp);have acF:=nb y0 (by simp);have aev:=nb y1 (by simp);have aiR:=nb y2 (by simp);have aiQ:=nb y3 (by simp);have aiP:=nb y4 (by simp);have aiO:=nb y5 (by simp);have hfl:=hI.len;have hkj:¬(k=es.length-1-k):=by omega
  have ai2:¬(es.length-1-k=k):=by omega
  have l1:k<fs.length:=by omega
  have l2:es.length-1-k<fs.length:=by omega
  have l3:k<es.length:=by omega
  have l4:es.length-1-k<es.length:=by omega
  simp only[go_sem,i70_l1,h0,h2,h3,hF,Yf,fa,fb,w1,w2,o,l1,l3,l4,hkj,acG,aew,aiV,aiU,aiT,aiS,acF,aev,aiR,aiQ,aiP,aiO,abj];refine⟨aH,_,rfl,hI2,?_⟩;exact(YB.ij rfl _).ij rfl _
 have Yf:¬((k:Int)<(es.length:Int)-1-(k:Int)):=by omega
 simp only[go_sem,i70_l1,h2,h3,Yf];refine⟨rfl,?_,YB⟩;rw[hI.done Ye] at hF;exact .inr ⟨by simpa using Yk,g,by rw[abp],hF⟩
theorem OT(l:List Let):∀e∈eE l,e.length=6/\ ∀v∈e,v.norm=v:=fun e he=>by obtain⟨x,_,rfl⟩:=aan.1 he;refine⟨rfl,fun v hv=>?_⟩;simp only[Let.ps,aag,aaC,or_false] at hv;rcases hv with rfl|rfl|rfl|rfl|rfl|rfl<;>rfl
theorem OV(l:List Let):(eE l).reverse=eE l.reverse:=by simp
theorem Do{s:Nat}(h:s/64000000=20):S.lone s=true:=by show Fy T7 (s/64000000)=true;rw[h];kernel_rfl
theorem jD{X9:aE}{s:Nat}{L:List Let}(Yk:L≠[])(hs:S.lone s=true):land X9 [] s ((RV.one (aD lN 6 (eE L))).bZ (S.lone s))=some (.one (.p (kL L)),[]):=by rw[hs,Ip (SC Yk)];unfold land;rw[if_pos (.inl rfl)];rfl

abbrev l5:Prop:=bz S 22 [.one (.p (.sl []))] (.one (.p (.sl [])))
theorem revE{al:Al}{X9:aE}:∃v Ya,vN S 70 [.one (.p (.sl []))] al X9 v Ya/\(v=.tup []/\Ya=X9):=by
 refine iS c70 (aaU rfl) ?_;have w0:IntKind.i64.wrap (((0:Nat):Int)-1)= -1:=by decide
 have hz:¬((0:Int)< -1):=by decide
 simp only[go_sem,i70,w0];refine bm (fun k env Ya=>k=0/\env 2=vi 0/\env 3=vi (-1)/\Ya=X9) 0 0 (aad _) ?_ ?_
 .simp only[go_sem]
 rintro k env Ya _ ⟨rfl,h2,h3,rfl⟩
 simp only[go_sem,i70_l1,h2,h3,hz]
theorem Ie{X9:aE}{s:Nat}{x:PV}{l:Bool}:land X9 [] s ((RV.one (.p x)).bZ l)=some (.one (.p x),[]):=by cases l<;>rfl
theorem V9(YL:l5)(F:Int):bz S 42 [.one (.p (P0 F))] (.one (.p (.sl []))):=by
 refine aP c42 ?_;simp only[go_sem,i42,s22,au YL Ie,s70];refine jF (P:=fun v Ya=>v=.tup []/\Ya=qD) gb revE ?_;rintro v Ya ⟨rfl,rfl⟩
 simp only[go_sem];refine bm (fun k env X9=>k=0/\env 3=.one (.p (.sl []))/\env 15=vi 0/\env 16=vi 0) 0 0 (aad _) ?_ ?_
 .simp only[go_sem];rfl
 rintro k env X9 _ ⟨rfl,h3,h15,h16⟩
 have hz:¬((0:Int)<0):=by decide
 simp only[go_sem,i42_l1,i42_r2,h3,h15,h16,hz]
theorem OH(YL:l5)(F:Int):bz S 20 [.one (.p (P0 F))] (.agg [.p (.int .i64 F),.p .nils]):=by
 have pb:=V9 YL F;refine aP c20 ?_;simp only[go_sem,i20,s42,bl pb Ie];refine⟨aH,?_⟩;refine bm (fun k env X9=>env 0=.one (.p (P0 F))/\env 2=.one (.Yh 1280000000 1 0)/\env 17=.one (.hsl 1280128448 1 1 0 2)/\env 18=vi 2/\env 19=vi k/\env 3=.one (.p .nils)/\
  X9 1280000000=(1,some (.var [.p (.int .i64 0),.p .nils]))/\X9 1280128448=(1,some (.arr 22 1 [[.sl []],[.sl []]]))) 0 2 (aae _) ?_ ?_
 .simp only[go_sem];first|done|rfl|exact⟨rfl,rfl⟩
 rintro k env X9 hk ⟨h0,h2,ZR,Zw,ZW,h3,b0,bB⟩
 by_cases Ye:k<2
 .have ai3:k=0\/k=1:=by omega
  have l02:((0:Nat):Int)<2:=by decide
  have l12:((1:Nat):Int)<2:=by decide
  have hz:¬((0:Int)<0):=by decide
  rcases ai3 with rfl|rfl
  .simp only[go_sem,i20_l3,ZR,Zw,ZW,bB,l02];refine bm (fun i Yc Ya=>i=0/\Ya=X9/\Yc 0=env 0/\Yc 2=env 2/\Yc 17=env 17/\Yc 18=env 18/\Yc 19=env 19/\Yc 3=env 3/\Yc 24=vi 0/\Yc 25=vi 0) 0 0 (aad _) ?_ ?_
   .simp only[go_sem];first|done|rfl|exact⟨rfl,rfl⟩
   rintro i Yc Ya _ ⟨rfl,rfl,e0,e2,e17,e18,e19,e3,e24,e25⟩
   simp only[go_sem,i20_l1,i20_r2,e0,e2,e17,e18,e19,e3,e24,e25,h0,h2,h3,ZR,Zw,ZW,b0,bB,hz];first|done|rfl|exact⟨rfl,rfl⟩
  simp only[go_sem,i20_l3,ZR,Zw,ZW,bB,l12];refine bm (fun i Yc Ya=>i=0/\Ya=X9/\Yc 0=env 0/\Yc 2=env 2/\Yc 17=env 17/\Yc 18=env 18/\Yc 19=env 19/\Yc 3=env 3/\Yc 24=vi 0/\Yc 25=vi 0) 0 0 (aad _) ?_ ?_
  .simp only[go_sem];first|done|rfl|exact⟨rfl,rfl⟩
  rintro i Yc Ya _ ⟨rfl,rfl,e0,e2,e17,e18,e19,e3,e24,e25⟩
  simp only[go_sem,i20_l1,i20_r2,e0,e2,e17,e18,e19,e3,e24,e25,h0,h2,h3,ZR,Zw,ZW,b0,bB,hz];first|done|rfl|exact⟨rfl,rfl⟩
 have:k=2:=by omega
 subst this;have l22:¬(((2:Nat):Int)<2):=by decide
 simp only[go_sem,i20_l3,i20_r4,h0,h2,h3,Zw,ZW,b0,l22];first|done|rfl|exact⟨rfl,rfl⟩
theorem Qh:l5:=⟨1,by kernel_rfl⟩
theorem SG{X9:aE}{s:Nat}{x c:PV}{l:Bool}:land X9 [] s ((RV.agg [.p x,.p c]).bZ l)=some (.agg [.p x,.p c],[]):=by cases l<;>rfl
theorem OX(x y:Let):leq x y=true↔x=y:=by
 constructor
 .intro h;unfold leq at h;simp only[aaf,beq_iff_eq] at h;obtain⟨h1,h2,h3,h4,h5,h6⟩:=h;cases x;cases y;simp only at h1 h2 h3 h4 h5 h6;subst h1 h2 h3 h4 h5 h6;rfl
 rintro rfl;exact lO x
theorem OS{A B:List Let}(hAB:A.length=B.length)(h:∀j,j<A.length->leq (lA A j) (lA B j)=true):A=B:=by
 apply adx;intro j;by_cases hj:j<A.length
 .rw[sD hj,sD (ls:=B) (i:=j) (by omega),(OX _ _).1 (h j hj)]
 rw[abz (by omega),abz (by omega)]
theorem XJ(A B:List Let)(hl:A.length<=1000000)(hl2:B.length<=1000000):bz S 50 [.one (.p (kL A)),.one (.p (kL B))] (rb (decide (A=B))):=by
 by_cases hAB:A.length=B.length
 .have aji:((A.length:Int)==(B.length:Int))=true:=by rw[hAB];simp
  generalize hr:decide (A=B)=r;refine aP c50 ?_;simp only[go_sem,i50,aji,bne];refine bm (fun k env X9=>env 0=.one (.p (kL A))/\env 1=.one (.p (kL B))/\env 12=vi A.length/\env 13=vi k/\ ∀j,j<k->leq (lA A j) (lA B j)=true) 0 A.length (aae _) ?_ ?_
  .simp only[go_sem];exact⟨rfl,fun j h=>absurd h (abB j)⟩
  rintro k env X9 hk ⟨h0,h1,h12,h13,hn⟩
  by_cases Ye:k<A.length
  .have hx:=sD Ye;have hy:=sD (ls:=B) (i:=k) (by omega);have hxi:=ef hx;have hyi:=ef hy;have Yf:(k:Int)<(A.length:Int):=by omega
   have w1:=ah (n:=k) (by omega);have hlB:k<B.length:=by omega
   cases he:leq (lA A k) (lA B k) with
   |true=>
    have hn':∀j,j<k+1->leq (lA A j) (lA B j)=true:=fun j hj=>by
     rcases abe.1 hj with h|rfl
     .exact hn j h
     exact he
    simp only[go_sem,i50_l1,h0,h1,h12,h13,hxi,hyi,Let.ps,Yf,Ye,w1,DH,he];exact⟨aH,hn'⟩
   |false=>
    have Yk:A≠B:=fun e=>by subst e;rw[lO] at he;cases he
    rw[decide_eq_false Yk] at hr;subst hr;simp only[go_sem,i50_l1,h0,h1,h12,h13,hxi,hyi,Let.ps,Yf,DH,he];exact aH
  have:k=A.length:=by omega
  subst this;have he:A=B:=OS hAB hn;rw[decide_eq_true he] at hr;subst hr;simp only[go_sem,i50_l1,i50_r2,h12,h13,aW]
 have aji:((A.length:Int)==(B.length:Int))=false:=by rw[beq_eq_false_iff_ne];omega
 have Yk:A≠B:=fun e=>hAB (by rw[e]);rw[decide_eq_false Yk];refine aP c50 ?_;simp only[go_sem,i50,aji,bne]
theorem jk{X9:aE}{s:Nat}{x c e:PV}{l:Bool}:land X9 [] s ((RV.tup [.agg [.p x,.p c],.one (.p e)]).bZ l)=some (.tup [.agg [.p x,.p c],.one (.p e)],[]):=by cases l<;>rfl

structure mf where
 k:Int
 a:Int
 b:Int
 c:Int
 l:Bool
 o:Bool
 s:Int
def mf.ps(m:mf):List PV:=[.int .i64 m.k,.int .i64 m.a,.int .i64 m.b,.int .i64 m.c,.bool m.l,.bool m.o,.int .i64 m.s]
abbrev pR(ms:List mf):PV:=.sl (ms.map mf.ps)
theorem HS{ms:List mf}{k:Nat}{m:mf}(h:ms[k]?=some m):(ms.map mf.ps)[k]?=some m.ps:=by rw[aaz,h];rfl
def wQ(L:List Let)(c:C)(X9:aE):Prop:=grown 448256128 lN 6 (eE L) (.one c) X9\/grown 448512129 lN 6 (eE L) (.one c) X9\/(L=[]/\c=.p (.sl []))
theorem wQ.snap{L:List Let}{c:C}{X9:aE}(h:wQ L c X9):∃r,Go.Abs.snap X9 cn c=some (kL L,r):=by
 rcases h with h|h|⟨rfl,rfl⟩
 .obtain⟨r,h1,_⟩:=h.cn;exact⟨r,h1⟩
 .obtain⟨r,h1,_⟩:=h.cn;exact⟨r,h1⟩
 exact⟨[],rfl⟩
theorem zi{s1 t1 z1:Nat}{es:List (List PV)}{c:C}{x y z:PV}{X9:aE}(h:grown s1 t1 z1 es (.one c) X9):iE X9 (.tup [.agg [.p x,c],.one (.p y),.one (.p z)])=some (.tup [.agg [.p x,aD t1 z1 es],.one (.p y),.one (.p z)]):=by obtain⟨c',o,hc,h2,h3⟩:=h.jg;cases hc;have e1:jg X9 (.p x)=some (.p x,[],[]):=rfl;have e2:jg X9 (.p y)=some (.p y,[],[]):=rfl;have e3:jg X9 (.p z)=some (.p z,[],[]):=rfl;rcases h3 with rfl|rfl<;>simp[iE,lW,jH,fE,gK,h2,e1,e2,e3,apart,ni,ik,oq]
theorem wQ.of_eq{L:List Let}{c:C}{X9 Ya:aE}(h:wQ L c X9)(h1:Ya 448256128=X9 448256128)(h2:Ya 448512129=X9 448512129):wQ L c Ya:=by
 rcases h with h|h|h
 .exact .inl (h.of_eq h1)
 .exact .inr (.inl (h.of_eq h2))
 exact .inr (.inr h)
theorem Ig{X9:aE}{rd:List Nat}{s:Nat}{e:Int}{l:Bool}:land X9 rd s ((ji e).bZ l)=some (.tup [.agg [.p (.int .i64 0),.p .nils],.one (.p (.int .i64 e))],[]):=by cases l<;>(unfold land;rw[if_pos (.inr rfl)];rfl)
def WL(f:Int)(L:List Let)(n:Int)(r:RV):Prop:=r=.tup [.agg [.p (.int .i64 f),aD lN 6 (eE L)],.one (.p (.int .i64 n)),.one (.p (.int .i64 0))]\/(L=[]/\r=.tup [.agg [.p (.int .i64 f),.p (.sl [])],.one (.p (.int .i64 n)),.one (.p (.int .i64 0))])
def WM(r:RV):Prop:= ∃i e:Int,e≠0/\r=.tup [.agg [.p (.int .i64 0),.p .nils],.one (.p (.int .i64 i)),.one (.p (.int .i64 e))]
abbrev Fw(m:mf):V:=oG m.k m.a m.b m.c m.l m.o m.s
section
variable {Q:dO} {env:Env} {X9:aE} {os:List aj} {d:Option Nat}
theorem VM{f:Nat}{vs:List V}{s ty z:Nat}{es:List (List PV)}{x y w:PV}(hp:bz S f vs (.tup [.agg [.p x,aD ty z es],.one (.p y),.one (.p w)]))(Zm:S.lone s=false)
  (hK:∀(c:C) Ya,grown (s+1) ty z es (.one c) Ya->(∀i,i≠s+1->Ya i=X9 i)->RN S .all os Q (put env d (.tup [.agg [.p x,c],.one (.p y),.one (.p w)])) Ya):gP S .all (.pc f vs [] s) d os Q env X9:=by
 obtain⟨h1,h2,_⟩:=fO (X9:=X9) (s:=s+1) (ty:=ty) (z:=z) (es:=es);refine(au (v:=.tup [.agg [.p x,(ju X9 (s+1) (aD ty z es)).1],.one (.p y),.one (.p w)]) (u:=(ju X9 (s+1) (aD ty z es)).2) hp ?_).2 (hK _ _ h1 h2);rw[Zm,dZ];unfold land;rw[if_pos (.inl rfl)];simp[uu,eZ,gh,dJ,iO,lJ,iN,fD,ju]
end
theorem rH{X9:aE}{s:Nat}{x c y w:PV}{l:Bool}:land X9 [] s ((RV.tup [.agg [.p x,.p c],.one (.p y),.one (.p w)]).bZ l)=some (.tup [.agg [.p x,.p c],.one (.p y),.one (.p w)],[]):=by cases l<;>rfl
abbrev W6:RV:=.tup [.agg [.p (.int .i64 0),.p .nils],.one (.p (.bool false))]
def W5(f:Int):Option (Bool×List Let)->RV
 |none=>W6
 |some (false,L)=>.tup [.agg [.p (.int .i64 f),aD lN 6 (eE L)],.one (.p (.bool true))]
 |some (true,_)=>.tup [.agg [.p (.int .i64 f),.p (.sl [])],.one (.p (.bool true))]
theorem BP{X9:aE}{rd:List Nat}{s:Nat}{b:Bool}{e:Int}{l:Bool}:land X9 rd s ((uU (.bool b) (.int .i64 e)).bZ l)=some (.tup [.one (.p (.bool b)),.one (.p (.int .i64 e))],[]):=by cases l<;>(unfold land;rw[if_pos (.inr rfl)];rfl)
theorem qF{X9:aE}{s:Nat}{x c y:PV}{l:Bool}:land X9 [] s ((RV.tup [.agg [.p x,.p c],.one (.p y)]).bZ l)=some (.tup [.agg [.p x,.p c],.one (.p y)],[]):=by cases l<;>rfl
def qR(s:Nat)(L:List Let)(c:C)(X9:aE):Prop:=grown s lN 6 (eE L) (.one c) X9\/(L=[]/\c=.p (.sl []))
theorem qR.snap{s:Nat}{L:List Let}{c:C}{X9:aE}(h:qR s L c X9):∃r,Go.Abs.snap X9 cn c=some (kL L,r):=by
 rcases h with h|⟨rfl,rfl⟩
 .obtain⟨r,h1,_⟩:=h.cn;exact⟨r,h1⟩
 exact⟨[],rfl⟩
theorem qR.of_eq{s:Nat}{L:List Let}{c:C}{X9 Ya:aE}(h:qR s L c X9)(h1:Ya s=X9 s):qR s L c Ya:=by
 rcases h with h|h
 .exact .inl (h.of_eq h1)
 exact .inr h
section
variable {Q:dO} {env:Env} {X9:aE} {os:List aj} {d:Option Nat}
theorem DA{vs:List V}{s:Nat}{f:Int}{b:Bool}{L:List Let}(hp:bz S 25 vs (W5 f (some (b,L))))(hb:b=true->L=[])(Zm:S.lone s=false)
  (hK:∀(c:C) Ya,qR (s+1) L c Ya->(∀i,i≠s+1->Ya i=X9 i)->RN S .all os Q (put env d (.tup [.agg [.p (.int .i64 f),c],.one (.p (.bool true))])) Ya):gP S .all (.pc 25 vs [] s) d os Q env X9:=by
 cases b with
 |false=>exact Pz hp Zm fun c Ya gc h=>hK c Ya (.inl gc) h
 |true=>obtain rfl:=hb rfl;exact(au hp qF).2 (hK _ _ (.inr ⟨rfl,rfl⟩) fun _ _=>rfl)
end
abbrev jnV(p q:List mf):V:=.agg [.p (pR p),.p (pR q)]
end
end Go.Abs
