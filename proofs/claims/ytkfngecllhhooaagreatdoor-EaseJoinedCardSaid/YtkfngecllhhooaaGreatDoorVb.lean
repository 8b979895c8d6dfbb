/- A part. -/
import Derived.Test.YtkfngecllhhooaaGreatDoorWw
set_option linter.all false
set_option maxRecDepth 100000
set_option maxHeartbeats 16000000
namespace Go.Abs
section
variable{ls:List Let}{x:Int}{F ty:Nat}{ws:List Int}
section
attribute [local go_sem ↓] fm1 fm2
def aQ(F:Nat)(ls:List Let)(k a b c:Int)(l o:Bool)(sg:Int):Bool:=
 if k=2 then !l&&(!o&&(sg==0&&((rT ls.length a||(ls.length==0&&a==0))&&(decide (0<=b)&&(decide (b<=(F:Int))&&(decide (0<=c)&&decide (c<=(cg ls b.toNat:Int))))))))
 else if k=3\/k=6 then !l&&(!o&&(sg==0&&(rT ls.length a&&(c==0&&(rT ls.length b&&decide (a<b))))))
 else if k=5 then !l&&((sg==1||sg== -1)&&(rT ls.length a&&(b==0&&c==0)))
 else if k=7 then sg==0&&(rT ls.length a&&(c==0&&(rT ls.length b&& !(a==b))))
 else if k=8 then !l&&(!o&&(sg==0&&(rT ls.length a&&(rT ls.length b&&(rT ls.length c&&(decide (a<b)&&decide (b<c)))))))
 else if k=1\/k=4\/k=9\/k=10 then !l&&(!o&&(sg==0&&(rT ls.length a&&(b==0&&c==0))))
 else false
theorem iE{i:Int}{x:Bool}(h:rT ls.length i=x):aP S 84 [vi i,.one (.p (.box [.int .i64 ls.length]))] (rb x):=h▸Zq i ls.length
theorem qS(h:¬x=0):(x==0)=false/\(x !=0)=true:=by simp[h]
theorem M3{y:Int}(h:¬x=y):(x==y)=false/\(x !=y)=true:=by simp[h]
section
variable {F:Nat} {ls:List Let} {a b c:Int} {l o:Bool} {sg:Int}
theorem U3:aP S 70 [.one (.p (dE F ls)),rQ 1 a b c l o sg] (rb (aQ F ls 1 a b c l o sg)):=by
 obtain⟨v,hv⟩:∃v,aQ F ls 1 a b c l o sg=v:=⟨_,rfl⟩;rw[hv];refine aJ c70 ?_;simp only[go_sem,i70,aB];refine aU [0,3,4,5,6,7,8,9,10,41] fun e1 hh1=>?_;simp only[go_sem] at hh1;cases l with
 |true=>
  obtain rfl:v=false:=by rw[<- hv];simp[aQ]
  simp only[go_sem,hh1]
 |false=>
  simp only[go_sem,hh1];refine aU [0,3,4,5,6,7,8,9,10,53] fun e2 hh2=>?_;simp only[go_sem,hh1] at hh2;cases o with
  |true=>
   obtain rfl:v=false:=by rw[<- hv];simp[aQ]
   simp only[go_sem,hh2]
  |false=>
   simp only[go_sem,hh2];refine aU [0,3,4,5,6,7,8,9,10,60] fun e3 hh3=>?_;simp only[go_sem,hh2] at hh3;by_cases hs:sg=0
   rotate_left
   .have hs1:=(qS hs).1;have hs2:=(qS hs).2;obtain rfl:v=false:=by rw[<- hv];simp[aQ,hs]
    simp only[go_sem,hh3,hs2]
   subst hs;cases hA:rT ls.length a with
   |false=>
    have pA:=iE hA;obtain rfl:v=false:=by rw[<- hv];simp[aQ,hA]
    simp only[go_sem,s84,hh3,au pA]
   |true=>
    have pA:=iE hA;simp only[go_sem,s84,hh3,au pA];refine aU [3,4,6,7,9,133] fun e4 hh4=>?_;simp only[go_sem,hh3] at hh4;by_cases hb:b=0
    rotate_left
    .have hb1:=(qS hb).2;obtain rfl:v=false:=by rw[<- hv];simp[aQ,hA,hb]
     simp only[go_sem,hh4,hb1]
    subst hb;simp only[go_sem,hh4];refine aU [3,4,6,7,9,142] fun e5 hh5=>?_;simp only[go_sem,hh4] at hh5;by_cases hc:c=0
    rotate_left
    .have hc1:=(qS hc).2;obtain rfl:v=false:=by rw[<- hv];simp[aQ,hA,hc]
     simp only[go_sem,hh5,hc1]
    subst hc;obtain rfl:v=true:=by rw[<- hv];simp[aQ,hA]
    simp only[go_sem,hh5]
theorem U2:aP S 70 [.one (.p (dE F ls)),rQ 2 a b c l o sg] (rb (aQ F ls 2 a b c l o sg)):=by
 obtain⟨v,hv⟩:∃v,aQ F ls 2 a b c l o sg=v:=⟨_,rfl⟩;rw[hv];refine aJ c70 ?_;simp only[go_sem,i70,aB];refine aU [0,3,4,5,6,7,8,9,10,41] fun e1 hh1=>?_;simp only[go_sem] at hh1;cases l with
 |true=>
  obtain rfl:v=false:=by rw[<- hv];simp[aQ]
  simp only[go_sem,hh1]
 |false=>
  simp only[go_sem,hh1];refine aU [0,3,4,5,6,7,8,9,10,53] fun e2 hh2=>?_;simp only[go_sem,hh1] at hh2;cases o with
  |true=>
   obtain rfl:v=false:=by rw[<- hv];simp[aQ]
   simp only[go_sem,hh2]
  |false=>
   simp only[go_sem,hh2];refine aU [0,3,4,5,6,7,8,9,10,60] fun e3 hh3=>?_;simp only[go_sem,hh2] at hh3;by_cases hs:sg=0
   rotate_left
   .have hs1:=(qS hs).1;have hs2:=(qS hs).2;obtain rfl:v=false:=by rw[<- hv];simp[aQ,hs]
    simp only[go_sem,hh3,hs2]
   subst hs;cases hA:rT ls.length a with
   |true=>
    have pA:=iE hA;simp only[go_sem,s84,hh3,fe pA];refine jk [0,3,4,6,7,9,92] fun e4 hh4=>?_;simp only[go_sem,hh3] at hh4;by_cases hB1:0<=b
    rotate_left
    .obtain rfl:v=false:=by rw[<- hv];simp[aQ,hA,hB1]
     simp only[go_sem,hh4,hB1];exact aK
    simp only[go_sem,hh4,hB1];refine jk [0,3,4,6,7,9,101] fun e5 hh5=>?_;simp only[go_sem,hh4] at hh5;by_cases hB2:b<=(F:Int)
    rotate_left
    .obtain rfl:v=false:=by rw[<- hv];simp[aQ,hA,hB1,hB2]
     simp only[go_sem,hh5,hB2];exact aK
    obtain⟨B,rfl⟩:=abX hB1;have hBF:B<=F:=by omega
    have hca:=eZ (nJ (ls:=ls) hBF);have h5:B<F+1:=by omega
    have h6:(counts ls F).length=F+1:=by simp[counts]
    simp only[go_sem,hh5,hB2];refine jk [0,3,4,6,7,9,106] fun e6 hh6=>?_;simp only[go_sem,hh5] at hh6;by_cases hC1:0<=c
    rotate_left
    .obtain rfl:v=false:=by rw[<- hv];simp[aQ,hA,hB1,hB2,hC1]
     simp only[go_sem,hh6,hC1];exact aK
    by_cases hC2:c<=(cg ls B:Int)
    rotate_left
    .obtain rfl:v=false:=by rw[<- hv];simp[aQ,hA,hB1,hB2,hC1,hC2]
     simp only[go_sem,hca,hh6,hC1,hC2];exact aK
    obtain rfl:v=true:=by rw[<- hv];simp[aQ,hA,hB1,hB2,hC1,hC2]
    simp only[go_sem,hca,hh6,hC1,hC2];exact aK
   |false=>
    have pA:=iE hA;by_cases hn:ls.length=0
    rotate_left
    .have hn2:((ls.length:Int)==0)=false:=beq_false_of_ne (by omega);have hn3:ls≠[]:=fun h=>hn (by rw[h];rfl);obtain rfl:v=false:=by rw[<- hv];simp[aQ,hA,hn]
     simp only[go_sem,s84,hh3,fe pA,hn2];exact aK
    have hn2:((ls.length:Int)==0)=true:=by rw[hn];rfl
    have hn3:=adg.mp hn;by_cases ha:a=0
    rotate_left
    .have ha1:=(qS ha).1;obtain rfl:v=false:=by rw[<- hv];simp[aQ,hn3,ha,show rT 0 a=false by rw[<- hn];exact hA]
     simp only[go_sem,s84,hh3,fe pA,hn2,ha1];exact aK
    subst ha;simp only[go_sem,s84,hh3,fe pA,hn2];refine jk [0,3,4,6,7,9,92] fun e7 hh7=>?_;simp only[go_sem,hh3] at hh7;by_cases hB1:0<=b
    rotate_left
    .obtain rfl:v=false:=by rw[<- hv];simp[aQ,hn,hB1]
     simp only[go_sem,hh7,hB1];exact aK
    simp only[go_sem,hh7,hB1];refine jk [0,3,4,6,7,9,101] fun e8 hh8=>?_;simp only[go_sem,hh7] at hh8;by_cases hB2:b<=(F:Int)
    rotate_left
    .obtain rfl:v=false:=by rw[<- hv];simp[aQ,hn,hB1,hB2]
     simp only[go_sem,hh8,hB2];exact aK
    obtain⟨B,rfl⟩:=abX hB1;have hBF:B<=F:=by omega
    have hca:=eZ (nJ (ls:=ls) hBF);have h5:B<F+1:=by omega
    have h6:(counts ls F).length=F+1:=by simp[counts]
    simp only[go_sem,hh8,hB2];refine jk [0,3,4,6,7,9,106] fun e9 hh9=>?_;simp only[go_sem,hh8] at hh9;by_cases hC1:0<=c
    rotate_left
    .obtain rfl:v=false:=by rw[<- hv];simp[aQ,hn,hB1,hB2,hC1]
     simp only[go_sem,hh9,hC1];exact aK
    by_cases hC2:c<=(cg ls B:Int)
    rotate_left
    .obtain rfl:v=false:=by rw[<- hv];simp[aQ,hn,hB1,hB2,hC1,hC2]
     simp only[go_sem,hca,hh9,hC1,hC2];exact aK
    obtain rfl:v=true:=by rw[<- hv];simp[aQ,hn,hB1,hB2,hC1,hC2]
    simp only[go_sem,hca,hh9,hC1,hC2];exact aK
theorem U1:aP S 70 [.one (.p (dE F ls)),rQ 3 a b c l o sg] (rb (aQ F ls 3 a b c l o sg)):=by
 obtain⟨v,hv⟩:∃v,aQ F ls 3 a b c l o sg=v:=⟨_,rfl⟩;rw[hv];refine aJ c70 ?_;simp only[go_sem,i70,aB];refine aU [0,3,4,5,6,7,8,9,10,41] fun e1 hh1=>?_;simp only[go_sem] at hh1;cases l with
 |true=>
  obtain rfl:v=false:=by rw[<- hv];simp[aQ]
  simp only[go_sem,hh1]
 |false=>
  simp only[go_sem,hh1];refine aU [0,3,4,5,6,7,8,9,10,53] fun e2 hh2=>?_;simp only[go_sem,hh1] at hh2;cases o with
  |true=>
   obtain rfl:v=false:=by rw[<- hv];simp[aQ]
   simp only[go_sem,hh2]
  |false=>
   simp only[go_sem,hh2];refine aU [0,3,4,5,6,7,8,9,10,60] fun e3 hh3=>?_;simp only[go_sem,hh2] at hh3;by_cases hs:sg=0
   rotate_left
   .have hs1:=(qS hs).1;have hs2:=(qS hs).2;obtain rfl:v=false:=by rw[<- hv];simp[aQ,hs]
    simp only[go_sem,hh3,hs2]
   subst hs;cases hA:rT ls.length a with
   |false=>
    have pA:=iE hA;obtain rfl:v=false:=by rw[<- hv];simp[aQ,hA]
    simp only[go_sem,s84,hh3,au pA]
   |true=>
    have pA:=iE hA;simp only[go_sem,s84,hh3,au pA];refine aU [3,4,6,7,9,142] fun e4 hh4=>?_;simp only[go_sem,hh3] at hh4;by_cases hc:c=0
    rotate_left
    .have hc1:=(qS hc).2;obtain rfl:v=false:=by rw[<- hv];simp[aQ,hA,hc]
     simp only[go_sem,hh4,hc1]
    subst hc;cases hB:rT ls.length b with
    |false=>
     have pB:=iE hB;obtain rfl:v=false:=by rw[<- hv];simp[aQ,hA,hB]
     simp only[go_sem,s84,hh4,au pB]
    |true=>
     have pB:=iE hB;simp only[go_sem,s84,hh4,au pB];refine aU [3,4,7,172,178] fun e5 hh5=>?_;simp only[go_sem,hh4] at hh5;by_cases hl:a<b
     rotate_left
     .obtain rfl:v=false:=by rw[<- hv];simp[aQ,hA,hB,hl]
      simp only[go_sem,hh5,hl]
     obtain rfl:v=true:=by rw[<- hv];simp[aQ,hA,hB,hl]
     simp only[go_sem,hh5,hl]
theorem U0:aP S 70 [.one (.p (dE F ls)),rQ 4 a b c l o sg] (rb (aQ F ls 4 a b c l o sg)):=by
 obtain⟨v,hv⟩:∃v,aQ F ls 4 a b c l o sg=v:=⟨_,rfl⟩;rw[hv];refine aJ c70 ?_;simp only[go_sem,i70,aB];refine aU [0,3,4,5,6,7,8,9,10,41] fun e1 hh1=>?_;simp only[go_sem] at hh1;cases l with
 |true=>
  obtain rfl:v=false:=by rw[<- hv];simp[aQ]
  simp only[go_sem,hh1]
 |false=>
  simp only[go_sem,hh1];refine aU [0,3,4,5,6,7,8,9,10,53] fun e2 hh2=>?_;simp only[go_sem,hh1] at hh2;cases o with
  |true=>
   obtain rfl:v=false:=by rw[<- hv];simp[aQ]
   simp only[go_sem,hh2]
  |false=>
   simp only[go_sem,hh2];refine aU [0,3,4,5,6,7,8,9,10,60] fun e3 hh3=>?_;simp only[go_sem,hh2] at hh3;by_cases hs:sg=0
   rotate_left
   .have hs1:=(qS hs).1;have hs2:=(qS hs).2;obtain rfl:v=false:=by rw[<- hv];simp[aQ,hs]
    simp only[go_sem,hh3,hs2]
   subst hs;cases hA:rT ls.length a with
   |false=>
    have pA:=iE hA;obtain rfl:v=false:=by rw[<- hv];simp[aQ,hA]
    simp only[go_sem,s84,hh3,au pA]
   |true=>
    have pA:=iE hA;simp only[go_sem,s84,hh3,au pA];refine aU [3,4,6,7,9,133] fun e4 hh4=>?_;simp only[go_sem,hh3] at hh4;by_cases hb:b=0
    rotate_left
    .have hb1:=(qS hb).2;obtain rfl:v=false:=by rw[<- hv];simp[aQ,hA,hb]
     simp only[go_sem,hh4,hb1]
    subst hb;simp only[go_sem,hh4];refine aU [3,4,6,7,9,142] fun e5 hh5=>?_;simp only[go_sem,hh4] at hh5;by_cases hc:c=0
    rotate_left
    .have hc1:=(qS hc).2;obtain rfl:v=false:=by rw[<- hv];simp[aQ,hA,hc]
     simp only[go_sem,hh5,hc1]
    subst hc;obtain rfl:v=true:=by rw[<- hv];simp[aQ,hA]
    simp only[go_sem,hh5]
theorem UZ:aP S 70 [.one (.p (dE F ls)),rQ 5 a b c l o sg] (rb (aQ F ls 5 a b c l o sg)):=by
 obtain⟨v,hv⟩:∃v,aQ F ls 5 a b c l o sg=v:=⟨_,rfl⟩;rw[hv];refine aJ c70 ?_;simp only[go_sem,i70,aB];refine aU [0,3,4,5,6,7,8,9,10,41] fun e1 hh1=>?_;simp only[go_sem] at hh1;cases l with
 |true=>
  obtain rfl:v=false:=by rw[<- hv];simp[aQ]
  simp only[go_sem,hh1]
 |false=>
  simp only[go_sem,hh1];refine aU [0,3,4,5,6,7,8,9,10,60] fun e2 hh2=>?_;simp only[go_sem,hh1] at hh2;by_cases q0:sg=0
  .subst q0;obtain rfl:v=false:=by rw[<- hv];simp[aQ]
   simp only[go_sem,hh2]
  by_cases q1:sg=1
  rotate_left;by_cases q2:sg= -1
  rotate_left
  .have h00:=(qS q0).2;have h11:=(M3 q1).2;have h22:=(M3 q2).2;obtain rfl:v=false:=by rw[<- hv];simp[aQ,q1,q2]
   simp only[go_sem,hh2,h00,h11,h22]
  .subst q1;cases hA:rT ls.length a with
   |false=>
    have pA:=iE hA;obtain rfl:v=false:=by rw[<- hv];simp[aQ,hA]
    simp only[go_sem,s84,hh2,au pA]
   |true=>
    have pA:=iE hA;simp only[go_sem,s84,hh2,au pA];refine aU [3,4,6,7,9,133] fun e3 hh3=>?_;simp only[go_sem,hh2] at hh3;by_cases hb:b=0
    rotate_left
    .have hb1:=(qS hb).2;obtain rfl:v=false:=by rw[<- hv];simp[aQ,hA,hb]
     simp only[go_sem,hh3,hb1]
    subst hb;simp only[go_sem,hh3];refine aU [3,4,6,7,9,142] fun e4 hh4=>?_;simp only[go_sem,hh3] at hh4;by_cases hc:c=0
    rotate_left
    .have hc1:=(qS hc).2;obtain rfl:v=false:=by rw[<- hv];simp[aQ,hA,hc]
     simp only[go_sem,hh4,hc1]
    subst hc;obtain rfl:v=true:=by rw[<- hv];simp[aQ,hA]
    simp only[go_sem,hh4]
  subst q2;cases hA:rT ls.length a with
  |false=>
   have pA:=iE hA;obtain rfl:v=false:=by rw[<- hv];simp[aQ,hA]
   simp only[go_sem,s84,hh2,au pA]
  |true=>
   have pA:=iE hA;simp only[go_sem,s84,hh2,au pA];refine aU [3,4,6,7,9,133] fun e5 hh5=>?_;simp only[go_sem,hh2] at hh5;by_cases hb:b=0
   rotate_left
   .have hb1:=(qS hb).2;obtain rfl:v=false:=by rw[<- hv];simp[aQ,hA,hb]
    simp only[go_sem,hh5,hb1]
   subst hb;simp only[go_sem,hh5];refine aU [3,4,6,7,9,142] fun e6 hh6=>?_;simp only[go_sem,hh5] at hh6;by_cases hc:c=0
   rotate_left
   .have hc1:=(qS hc).2;obtain rfl:v=false:=by rw[<- hv];simp[aQ,hA,hc]
    simp only[go_sem,hh6,hc1]
   subst hc;obtain rfl:v=true:=by rw[<- hv];simp[aQ,hA]
   simp only[go_sem,hh6]
end
end
section
attribute [local go_sem ↓] fm1 fm2
section
variable {F:Nat} {ls:List Let} {a b c:Int} {l o:Bool} {sg:Int}
theorem UY:aP S 70 [.one (.p (dE F ls)),rQ 6 a b c l o sg] (rb (aQ F ls 6 a b c l o sg)):=by
 obtain⟨v,hv⟩:∃v,aQ F ls 6 a b c l o sg=v:=⟨_,rfl⟩;rw[hv];refine aJ c70 ?_;simp only[go_sem,i70,aB];refine aU [0,3,4,5,6,7,8,9,10,41] fun e1 hh1=>?_;simp only[go_sem] at hh1;cases l with
 |true=>
  obtain rfl:v=false:=by rw[<- hv];simp[aQ]
  simp only[go_sem,hh1]
 |false=>
  simp only[go_sem,hh1];refine aU [0,3,4,5,6,7,8,9,10,53] fun e2 hh2=>?_;simp only[go_sem,hh1] at hh2;cases o with
  |true=>
   obtain rfl:v=false:=by rw[<- hv];simp[aQ]
   simp only[go_sem,hh2]
  |false=>
   simp only[go_sem,hh2];refine aU [0,3,4,5,6,7,8,9,10,60] fun e3 hh3=>?_;simp only[go_sem,hh2] at hh3;by_cases hs:sg=0
   rotate_left
   .have hs1:=(qS hs).1;have hs2:=(qS hs).2;obtain rfl:v=false:=by rw[<- hv];simp[aQ,hs]
    simp only[go_sem,hh3,hs2]
   subst hs;cases hA:rT ls.length a with
   |false=>
    have pA:=iE hA;obtain rfl:v=false:=by rw[<- hv];simp[aQ,hA]
    simp only[go_sem,s84,hh3,au pA]
   |true=>
    have pA:=iE hA;simp only[go_sem,s84,hh3,au pA];refine aU [3,4,6,7,9,142] fun e4 hh4=>?_;simp only[go_sem,hh3] at hh4;by_cases hc:c=0
    rotate_left
    .have hc1:=(qS hc).2;obtain rfl:v=false:=by rw[<- hv];simp[aQ,hA,hc]
     simp only[go_sem,hh4,hc1]
    subst hc;cases hB:rT ls.length b with
    |false=>
     have pB:=iE hB;obtain rfl:v=false:=by rw[<- hv];simp[aQ,hA,hB]
     simp only[go_sem,s84,hh4,au pB]
    |true=>
     have pB:=iE hB;simp only[go_sem,s84,hh4,au pB];refine aU [3,4,7,172,178] fun e5 hh5=>?_;simp only[go_sem,hh4] at hh5;by_cases hl:a<b
     rotate_left
     .obtain rfl:v=false:=by rw[<- hv];simp[aQ,hA,hB,hl]
      simp only[go_sem,hh5,hl]
     obtain rfl:v=true:=by rw[<- hv];simp[aQ,hA,hB,hl]
     simp only[go_sem,hh5,hl]
theorem UX:aP S 70 [.one (.p (dE F ls)),rQ 7 a b c l o sg] (rb (aQ F ls 7 a b c l o sg)):=by
 obtain⟨v,hv⟩:∃v,aQ F ls 7 a b c l o sg=v:=⟨_,rfl⟩;rw[hv];refine aJ c70 ?_;simp only[go_sem,i70,aB];refine aU [0,3,4,5,6,7,8,9,10,60] fun e1 hh1=>?_;simp only[go_sem] at hh1;by_cases hs:sg=0
 rotate_left
 .have hs1:=(qS hs).1;have hs2:=(qS hs).2;obtain rfl:v=false:=by rw[<- hv];simp[aQ,hs]
  simp only[go_sem,hh1,hs2]
 subst hs;cases hA:rT ls.length a with
 |false=>
  have pA:=iE hA;obtain rfl:v=false:=by rw[<- hv];simp[aQ,hA]
  simp only[go_sem,s84,hh1,au pA]
 |true=>
  have pA:=iE hA;simp only[go_sem,s84,hh1,au pA];refine aU [3,4,6,7,9,142] fun e2 hh2=>?_;simp only[go_sem,hh1] at hh2;by_cases hc:c=0
  rotate_left
  .have hc1:=(qS hc).2;obtain rfl:v=false:=by rw[<- hv];simp[aQ,hA,hc]
   simp only[go_sem,hh2,hc1]
  subst hc;cases hB:rT ls.length b with
  |false=>
   have pB:=iE hB;obtain rfl:v=false:=by rw[<- hv];simp[aQ,hA,hB]
   simp only[go_sem,s84,hh2,au pB]
  |true=>
   have pB:=iE hB;simp only[go_sem,s84,hh2,au pB];by_cases hn:a=b
   .subst hn;obtain rfl:v=false:=by rw[<- hv];simp[aQ,hA]
    simp only[go_sem]
   have hn1:=(M3 hn).2;obtain rfl:v=true:=by rw[<- hv];simp[aQ,hA,hB,hn]
   simp only[go_sem,hn1]
theorem UW:aP S 70 [.one (.p (dE F ls)),rQ 8 a b c l o sg] (rb (aQ F ls 8 a b c l o sg)):=by
 obtain⟨v,hv⟩:∃v,aQ F ls 8 a b c l o sg=v:=⟨_,rfl⟩;rw[hv];refine aJ c70 ?_;simp only[go_sem,i70,aB];refine aU [0,3,4,5,6,7,8,9,10,41] fun e1 hh1=>?_;simp only[go_sem] at hh1;cases l with
 |true=>
  obtain rfl:v=false:=by rw[<- hv];simp[aQ]
  simp only[go_sem,hh1]
 |false=>
  simp only[go_sem,hh1];refine aU [0,3,4,5,6,7,8,9,10,53] fun e2 hh2=>?_;simp only[go_sem,hh1] at hh2;cases o with
  |true=>
   obtain rfl:v=false:=by rw[<- hv];simp[aQ]
   simp only[go_sem,hh2]
  |false=>
   simp only[go_sem,hh2];refine aU [0,3,4,5,6,7,8,9,10,60] fun e3 hh3=>?_;simp only[go_sem,hh2] at hh3;by_cases hs:sg=0
   rotate_left
   .have hs1:=(qS hs).1;have hs2:=(qS hs).2;obtain rfl:v=false:=by rw[<- hv];simp[aQ,hs]
    simp only[go_sem,hh3,hs2]
   subst hs;cases hA:rT ls.length a with
   |false=>
    have pA:=iE hA;obtain rfl:v=false:=by rw[<- hv];simp[aQ,hA]
    simp only[go_sem,s84,hh3,au pA]
   |true=>
    have pA:=iE hA;simp only[go_sem,s84,hh3,au pA];cases hB:rT ls.length b with
    |false=>
     have pB:=iE hB;obtain rfl:v=false:=by rw[<- hv];simp[aQ,hA,hB]
     simp only[go_sem,hh3,au pB]
    |true=>
     have pB:=iE hB;cases hD:rT ls.length c with
     |false=>
      have pD:=iE hD;obtain rfl:v=false:=by rw[<- hv];simp[aQ,hA,hB,hD]
      simp only[go_sem,s84,hh3,au pB,au pD]
     |true=>
      have pD:=iE hD;simp only[go_sem,s84,hh3,au pB,au pD];refine aU [3,4,7,172,178] fun e4 hh4=>?_;simp only[go_sem,hh3] at hh4;by_cases hl:a<b
      rotate_left
      .obtain rfl:v=false:=by rw[<- hv];simp[aQ,hA,hB,hD,hl]
       simp only[go_sem,hh4,hl]
      by_cases hm:b<c
      rotate_left
      .obtain rfl:v=false:=by rw[<- hv];simp[aQ,hA,hB,hD,hl,hm]
       simp only[go_sem,hh4,hl,hm]
      obtain rfl:v=true:=by rw[<- hv];simp[aQ,hA,hB,hD,hl,hm]
      simp only[go_sem,hh4,hl,hm]
theorem UV:aP S 70 [.one (.p (dE F ls)),rQ 9 a b c l o sg] (rb (aQ F ls 9 a b c l o sg)):=by
 obtain⟨v,hv⟩:∃v,aQ F ls 9 a b c l o sg=v:=⟨_,rfl⟩;rw[hv];refine aJ c70 ?_;simp only[go_sem,i70,aB];refine aU [0,3,4,5,6,7,8,9,10,41] fun e1 hh1=>?_;simp only[go_sem] at hh1;cases l with
 |true=>
  obtain rfl:v=false:=by rw[<- hv];simp[aQ]
  simp only[go_sem,hh1]
 |false=>
  simp only[go_sem,hh1];refine aU [0,3,4,5,6,7,8,9,10,53] fun e2 hh2=>?_;simp only[go_sem,hh1] at hh2;cases o with
  |true=>
   obtain rfl:v=false:=by rw[<- hv];simp[aQ]
   simp only[go_sem,hh2]
  |false=>
   simp only[go_sem,hh2];refine aU [0,3,4,5,6,7,8,9,10,60] fun e3 hh3=>?_;simp only[go_sem,hh2] at hh3;by_cases hs:sg=0
   rotate_left
   .have hs1:=(qS hs).1;have hs2:=(qS hs).2;obtain rfl:v=false:=by rw[<- hv];simp[aQ,hs]
    simp only[go_sem,hh3,hs2]
   subst hs;cases hA:rT ls.length a with
   |false=>
    have pA:=iE hA;obtain rfl:v=false:=by rw[<- hv];simp[aQ,hA]
    simp only[go_sem,s84,hh3,au pA]
   |true=>
    have pA:=iE hA;simp only[go_sem,s84,hh3,au pA];refine aU [3,4,6,7,9,133] fun e4 hh4=>?_;simp only[go_sem,hh3] at hh4;by_cases hb:b=0
    rotate_left
    .have hb1:=(qS hb).2;obtain rfl:v=false:=by rw[<- hv];simp[aQ,hA,hb]
     simp only[go_sem,hh4,hb1]
    subst hb;simp only[go_sem,hh4];refine aU [3,4,6,7,9,142] fun e5 hh5=>?_;simp only[go_sem,hh4] at hh5;by_cases hc:c=0
    rotate_left
    .have hc1:=(qS hc).2;obtain rfl:v=false:=by rw[<- hv];simp[aQ,hA,hc]
     simp only[go_sem,hh5,hc1]
    subst hc;obtain rfl:v=true:=by rw[<- hv];simp[aQ,hA]
    simp only[go_sem,hh5]
theorem Rp:aP S 70 [.one (.p (dE F ls)),rQ 10 a b c l o sg] (rb (aQ F ls 10 a b c l o sg)):=by
 obtain⟨v,hv⟩:∃v,aQ F ls 10 a b c l o sg=v:=⟨_,rfl⟩;rw[hv];refine aJ c70 ?_;simp only[go_sem,i70,aB];refine aU [0,3,4,5,6,7,8,9,10,41] fun e1 hh1=>?_;simp only[go_sem] at hh1;cases l with
 |true=>
  obtain rfl:v=false:=by rw[<- hv];simp[aQ]
  simp only[go_sem,hh1]
 |false=>
  simp only[go_sem,hh1];refine aU [0,3,4,5,6,7,8,9,10,53] fun e2 hh2=>?_;simp only[go_sem,hh1] at hh2;cases o with
  |true=>
   obtain rfl:v=false:=by rw[<- hv];simp[aQ]
   simp only[go_sem,hh2]
  |false=>
   simp only[go_sem,hh2];refine aU [0,3,4,5,6,7,8,9,10,60] fun e3 hh3=>?_;simp only[go_sem,hh2] at hh3;by_cases hs:sg=0
   rotate_left
   .have hs1:=(qS hs).1;have hs2:=(qS hs).2;obtain rfl:v=false:=by rw[<- hv];simp[aQ,hs]
    simp only[go_sem,hh3,hs2]
   subst hs;cases hA:rT ls.length a with
   |false=>
    have pA:=iE hA;obtain rfl:v=false:=by rw[<- hv];simp[aQ,hA]
    simp only[go_sem,s84,hh3,au pA]
   |true=>
    have pA:=iE hA;simp only[go_sem,s84,hh3,au pA];refine aU [3,4,6,7,9,133] fun e4 hh4=>?_;simp only[go_sem,hh3] at hh4;by_cases hb:b=0
    rotate_left
    .have hb1:=(qS hb).2;obtain rfl:v=false:=by rw[<- hv];simp[aQ,hA,hb]
     simp only[go_sem,hh4,hb1]
    subst hb;simp only[go_sem,hh4];refine aU [3,4,6,7,9,142] fun e5 hh5=>?_;simp only[go_sem,hh4] at hh5;by_cases hc:c=0
    rotate_left
    .have hc1:=(qS hc).2;obtain rfl:v=false:=by rw[<- hv];simp[aQ,hA,hc]
     simp only[go_sem,hh5,hc1]
    subst hc;obtain rfl:v=true:=by rw[<- hv];simp[aQ,hA]
    simp only[go_sem,hh5]
theorem Wf(k:Int):aP S 70 [.one (.p (dE F ls)),rQ k a b c l o sg] (rb (aQ F ls k a b c l o sg)):=by
 by_cases h1:k=1
 .subst h1;exact U3
 by_cases h2:k=2
 .subst h2;exact U2
 by_cases h3:k=3
 .subst h3;exact U1
 by_cases h4:k=4
 .subst h4;exact U0
 by_cases h5:k=5
 .subst h5;exact UZ
 by_cases h6:k=6
 .subst h6;exact UY
 by_cases h7:k=7
 .subst h7;exact UX
 by_cases h8:k=8
 .subst h8;exact UW
 by_cases h9:k=9
 .subst h9;exact UV
 by_cases h10:k=10
 .subst h10;exact Rp
 rw[show aQ F ls k a b c l o sg=false by simp[aQ,h1,h2,h3,h4,h5,h6,h7,h8,h9,h10]];have e1:=(M3 h1).1;have e2:=(M3 h2).1;have e3:=(M3 h3).1;have e4:=(M3 h4).1;have e5:=(M3 h5).1;have e6:=(M3 h6).1;have e7:=(M3 h7).1;have e8:=(M3 h8).1;have e9:=(M3 h9).1;have e10:=(M3 h10).1;refine aJ c70 ?_;simp only[go_sem,i70,aB,e1,e2,e3,e4,e5,e6,e7,e8,e9,e10]
end
end
structure Swo {α:Type} (lt:α->α->Bool):Prop where
 asym:∀a b,lt a b=true->lt b a=false
 ntrans:∀a b c,lt b a=false->lt c b=false->lt c a=false
def RX{α:Type}(lt:α->α->Bool)(ws:List α)(a b:Nat):Prop:=∀p q x y,a<=p->p<q->q<b->ws[p]?=some x->ws[q]?=some y->lt y x=false
structure Au {α:Type} (lt:α->α->Bool) (zs ws:List α) (x:α) (a i j:Nat):Prop where
 perm:ws.Perm zs
 le:a<=j/\j<=i/\i<ws.length
 at':ws[j]?=some x
 up:∀p y,j<p->p<=i->ws[p]?=some y->lt x y=true
 so:∀p q y z,a<=p->p<q->q<=i->p≠j->q≠j->ws[p]?=some y->ws[q]?=some z->lt z y=false
 out:∀p,p<a\/i<p->ws[p]?=zs[p]?
theorem Au.start{α:Type}{lt:α->α->Bool}{zs:List α}{x:α}{a i:Nat}(ha:a<=i)(hi:zs[i]?=some x)(hs:RX lt zs a i):Au lt zs zs x a i i:=
 ⟨.refl _,⟨ha,aaj _,(aai.1 hi).1⟩,hi,fun p y h1 h2=>by omega,fun p q y z h0 h1 h2 h3 h4=>hs p q y z h0 h1 (by omega),fun _ _=>rfl⟩
theorem swap_perm{α:Type}{ws:List α}{i j:Nat}{x y:α}(hi:ws[i]?=some x)(hj:ws[j]?=some y):((ws.set i y).set j x).Perm ws:=by obtain⟨h1,e1⟩:=aai.1 hi;obtain⟨h2,e2⟩:=aai.1 hj;have:=List.set_set_perm h1 h2;rwa[e1,e2] at this
theorem Au.step{α:Type}{lt:α->α->Bool}{zs ws:List α}{x y:α}{a i j:Nat}(o:Swo lt)(h:Au lt zs ws x a i (j+1))(hj:a<=j)(hy:ws[j]?=some y)(hlt:lt x y=true):
  Au lt zs ((ws.set (j+1) y).set j x) x a i j:=by
 obtain⟨hp,⟨_,hle,hl⟩,hat,hup,hso,abc⟩:=h;have hj1:j<ws.length:=(aai.1 hy).1;have get:∀p,((ws.set (j+1) y).set j x)[p]?=if p=j then some x else if p=j+1 then some y else ws[p]? :=fun p=>by
  rw[abI,abI,abV];by_cases e1:j=p
  .subst e1;simp[hj1]
  by_cases e2:j+1=p
  .subst e2;have:¬(j+1=j):=by omega
   rw[if_neg e1,if_pos rfl,if_pos (by omega),if_neg this,if_pos rfl]
  rw[if_neg e1,if_neg e2,if_neg (fun h=>e1 h.symm),if_neg (fun h=>e2 h.symm)]
 refine⟨(swap_perm hat hy).trans hp,⟨hj,by omega,by simp;omega⟩,by rw[get];simp,?_,?_,?_⟩
 .intro p z h1 h2 hz;rw[get,if_neg (by omega)] at hz;by_cases e:p=j+1
  .rw[if_pos e] at hz;cases hz;exact hlt
  rw[if_neg e] at hz;exact hup p z (by omega) h2 hz
 .intro p q u v h0 h1 h2 h3 h4 hu hv;rw[get,if_neg h3] at hu;rw[get,if_neg h4] at hv;by_cases e:p=j+1
  .rw[if_pos e] at hu;cases hu;rw[if_neg (by omega)] at hv;exact hso j q _ _ hj (by omega) h2 (by omega) (by omega) hy hv
  rw[if_neg e] at hu;by_cases e2:q=j+1
  .rw[if_pos e2] at hv;cases hv;exact hso p j _ _ h0 (by omega) (by omega) e (by omega) hu hy
  rw[if_neg e2] at hv;exact hso p q _ _ h0 h1 h2 e e2 hu hv
 intro p hpp;rw[get,if_neg (by omega),if_neg (by omega),abc p hpp]
theorem Au.stop{α:Type}{lt:α->α->Bool}{zs ws:List α}{x:α}{a i j:Nat}(o:Swo lt)(h:Au lt zs ws x a i j)(hj:j=a\/ ∃y,a<j/\ws[j-1]?=some y/\lt x y=false):RX lt ws a (i+1):=by
 obtain⟨hp,⟨hja,hle,hl⟩,hat,hup,hso,abc⟩:=h;intro p q u v h0 h1 h2 hu hv;by_cases e:q=j
 .subst e;rw[hat] at hv;cases hv;rcases hj with hj|⟨y,hya,hy,hxy⟩
  .omega
  by_cases e3:p=q-1
  .subst e3;rw[hy] at hu;cases hu;exact hxy
  exact o.ntrans _ _ _ (hso p (q-1) _ _ h0 (by omega) (by omega) (by omega) (by omega) hu hy) hxy
 by_cases e2:p=j
 .subst e2;rw[hat] at hu;cases hu;exact o.asym _ _ (hup q v h1 (by omega) hv)
 exact hso p q u v h0 h1 (by omega) e2 e hu hv
theorem RX.mono{α:Type}{lt:α->α->Bool}{ws:List α}{a b c:Nat}(h:RX lt ws a c)(hb:b<=c\/ws.length<=c):RX lt ws a b:=fun p q x y h0 h1 h2 hx hy=>h p q x y h0 h1 (by
 rcases hb with hb|hb
 .omega
 have:=(aai.1 hy).1;omega) hx hy
abbrev Hl(a b:Int):Bool:=decide (a<b)
theorem Wt:Swo Hl:=⟨fun a b h=>by simp at*;omega,fun a b c h k=>by simp at*;omega⟩
theorem YI(a:Int):aP S 182 [vi a] (rb false):=by
 refine aJ c182 ?_;have h:(a !=a)=false:=by simp
 simp only[go_sem,i182,h]
theorem W6(a b:Int):aP S 161 [vi a,vi b] (rb (Hl a b)):=by have pn:=YI a;refine aJ c161 ?_;simp only[go_sem,i161,s182,au pn,Hl]
theorem I9(n:Nat)(h:n<=1000000):∃k:Int,aP S 126 [.one (.p (.int .u64 n))] (ri k):=by
 refine⟨((Lib.bitLen n:Nat):Int),⟨1,?_⟩⟩;have hp:S.prim 126 [.one (.p (.int .u64 (n:Int)))]=some (some (ri ((Lib.bitLen n:Nat):Int))):=by show some (qD [.one (.p (.int .u64 (n:Int)))])=_;simp only[qD];rw[if_pos ⟨by omega,by omega⟩];rfl
 rw[de,hp]
theorem Iy(o:List Int)(k:Nat)(v:Int):(iP o).set k [.int .i64 v]=iP (o.set k v):=by simp[List.map_set]
theorem jH(o:List Int):(iP o).length=o.length:=aau _
def qu(lt:Int->Int->Bool)(id g ty:Nat)(es:List Int)(blk:aw)(v:V)(aaf:aw):Prop:=v=.tup []/\(∃ws:List Int,aaf id=(g,some (.arr ty 1 (iP ws)))/\ws.Perm es/\RX lt ws 0 ws.length)/\Kept (· =id) blk aaf
theorem Xf{al:Al}{blk:aw}{id g:Nat}{es:List Int}(o:al.ok id=true)(hl:es.length<=1000000)(hC:blk id=(g,some (.arr ty 1 (iP es)))):
  ∃v aaf,nQ S 155 [.one (.hsl id g 1 0 es.length),vi 0,vi es.length] al blk v aaf/\qu Hl id g ty es blk v aaf:=by
 refine dO c155 (aaW rfl) ?_;have w0:IntKind.i64.wrap (0+1)=((0+1:Nat):Int):=by decide
 simp only[go_sem,i155];refine aV (fun k env aaf=>env 0=.one (.hsl id g 1 0 es.length)/\env 1=vi 0/\env 2=vi es.length/\env 6=vi ((k+1:Nat):Int)/\ ∃zs:List Int,aaf id=(g,some (.arr ty 1 (iP zs)))/\zs.Perm es/\RX Hl zs 0 (k+1)/\Kept (· =id) blk aaf) 0 es.length (aan _) ?_ ?_
 .simp only[go_sem];exact⟨rfl,es,hC,.refl _,fun p q x y _ h1 h2=>by omega,Kept.refl _ _⟩
 rintro k env aao hk ⟨h0,h1,h2,h6,zs,hZ,hp,hs,hkp⟩
 have hzl:=hp.length_eq;by_cases hlt:k+1<es.length
 .have aak:((k+1:Nat):Int)<(es.length:Int):=by omega
  obtain⟨x,hx⟩:=ao (ls:=zs) (k:=k+1) (by omega);simp only[go_sem,i155_l3,h2,h6,aak];refine aV (fun q env aaf=>env 0=.one (.hsl id g 1 0 es.length)/\env 1=vi 0/\env 2=vi es.length/\env 6=vi ((k+1:Nat):Int)/\env 7=vi ((k+1-q:Nat):Int)/\ ∃ws:List Int,aaf id=(g,some (.arr ty 1 (iP ws)))/\Au Hl zs ws x 0 (k+1) (k+1-q)/\Kept (· =id) blk aaf) 0 (k+1) (aan _) ?_ ?_
  .simp only[go_sem,h0,h1,h2,h6];exact⟨zs,hZ,Au.start (aan _) hx hs,hkp⟩
  rintro q aar aal hq ⟨k0,k1,k2,k6,k7,ws,hW,hI,aeK⟩
  have hwl:ws.length=es.length:=hI.perm.length_eq.trans hzl;have wk:IntKind.i64.wrap (((k+1:Nat):Int)+1)=((k+1+1:Nat):Int):=ak (n:=k+1) (by omega);by_cases hj0:k+1-q=0
  .have e7:¬((0:Int)<((k+1-q:Nat):Int)):=by omega
   simp only[go_sem,i155_l1,i155_r2,k0,k1,k2,k6,k7,e7,wk];refine⟨aK,by omega,ws,hW,hI.perm.trans hp,hI.stop Wt (.inl hj0),aeK⟩
  obtain⟨j,hj⟩:∃j,k+1-q=j+1:=⟨k-q,by omega⟩;have e7:((0:Int)<((j+1:Nat):Int)):=by omega
  obtain⟨y,hy⟩:=ao (ls:=ws) (k:=j) (by omega);rw[hj] at hI k7;have wj:IntKind.i64.wrap (((j+1:Nat):Int)-1)=(j:Int):=by rw[iJ (by omega)];omega
  have hxa:=sP hI.at';have hya:=sP hy;have j1:j+1<es.length:=by have:=hI.le;omega
  have j2:j<es.length:=by omega
  have pl:=W6 x y;cases hxy:Hl x y with
  |false=>rw[hxy] at pl;simp only[go_sem,i155_l1,i155_r2,k0,k1,k2,k6,k7,e7,wk,wj,hW,hxa,hya,j1,j2,o,s161,KS pl];refine⟨aK,by omega,ws,rfl,hI.perm.trans hp,hI.stop Wt (.inr ⟨y,by omega,hy,hxy⟩),aeK⟩
  |true=>
   rw[hxy] at pl;have hI2:=hI.step Wt (aan _) hy hxy;have hjj:¬(j+1=j):=by omega
   have l1:j+1<ws.length:=by omega
   have l2:j<ws.length:=by omega
   simp only[go_sem,i155_l1,i155_r2,k0,k1,k2,k6,k7,e7,wj,hW,hxa,hya,j1,j2,l1,hjj,o,s161,KS pl,abI,jH];have hq2:k+1-(q+1)=j:=by omega
   refine⟨aK,aK,by omega,by rw[hq2],(ws.set (j+1) y).set j x,by rw[Iy,Iy],by rw[hq2];exact hI2,(aeK.fY rfl _).fY rfl _⟩
 have aak:¬(((k+1:Nat):Int)<(es.length:Int)):=by omega
 simp only[go_sem,i155_l3,h2,h6,aak];exact⟨rfl,⟨zs,hZ,hp,hs.mono (.inl (by omega))⟩,hkp⟩
theorem mW{Q:cU}{al:Al}{env:Env}{blk:aw}{os:List aj}{d:Option Nat}{f id g ty z o n:Nat}{vs:List V}{es:List (List PV)}{P:V->aw->Prop}(hC:blk id=(g,some (.arr ty z es)))(hvs:(vs.map (cJ blk)).flatten=[])(hh:al=.all\/al.ok id=true/\(S.sites f).all al.fs.contains=true)
  (h:∀al',al'.ok id=true->al'.fs=S.sites f->∃v aaf,nQ S f (.one (.hsl id g z o n)::vs) al' blk v aaf/\P v aaf)
  (hK:∀v aaf,P v aaf->RN S al os Q (put env d v) aaf):gP S al (.sc f (.one (.hsl id g z o n)::vs)) d os Q env blk:=by
 have hr:((V.one (.hsl id g z o n)::vs).map (cJ blk)).flatten=[id]:=by rw[aaK,abt,hvs,vd hC];rfl
 refine gb (P:=P) ?_ (h _ (dA (by rw[hr];simp)) rfl) hK;rcases hh with rfl|⟨h1,h2⟩
 .rfl
 refine holds_of ?_ h2;show al.kY ((V.one (.hsl id g z o n)::vs).map (cJ blk)).flatten=true;rw[hr];simp[Al.kY,h1]
theorem WU{al:Al}{blk:aw}{id g:Nat}{es:List Int}(o:al.ok id=true)(f1:al.fs.contains 155=true)(hl:es.length<=12)(hC:blk id=(g,some (.arr ty 1 (iP es))))(lim:Int):
  ∃v aaf,nQ S 136 [.one (.hsl id g 1 0 es.length),vi 0,vi es.length,vi lim] al blk v aaf/\qu Hl id g ty es blk v aaf:=by
 refine dO c136 (aaW rfl) ?_;have w0:IntKind.i64.wrap ((es.length:Int)-0)=(es.length:Int):=by rw[Int.sub_zero];exact jT (by omega) (by omega)
 have h12:(es.length:Int)<=12:=by omega
 simp only[go_sem,i136];refine dQ ?_;simp only[go_sem,i136_l1,w0,h12,s155];refine mW hC (by rfl) (.inr ⟨o,by rw[show S.sites 155=[155] by kernel_rfl];simp only[abu,abL,f1,acj]⟩) (P:=qu Hl id g ty es blk) (fun al' h1 _=>Xf h1 (by omega) hC) fun v aaf hP=>?_;obtain⟨rfl,h2⟩:=hP;simp only[go_sem];exact⟨rfl,h2⟩
theorem Dc{al:Al}{blk:aw}{id g:Nat}{es:List Int}(o:al.ok id=true)(f1:(S.sites 136).all al.fs.contains=true)(hl:es.length<=12)(hC:blk id=(g,some (.arr ty 1 (iP es)))):
  ∃v aaf,nQ S 118 [.one (.hsl id g 1 0 es.length)] al blk v aaf/\qu Hl id g ty es blk v aaf:=by
 obtain⟨k,pb⟩:=I9 es.length (by omega);have wu:IntKind.u64.wrap (es.length:Int)=(es.length:Int):=by
  have e:IntKind.u64.wrap (es.length:Int)=(es.length:Int)%18446744073709551616:=by unfold IntKind.wrap;rfl
  rw[e];omega
 refine dO c118 (aaW rfl) ?_;have sbl:S.shared 126=false:=by kernel_rfl
 simp only[go_sem,i118,wu,sbl,y9 pb,s136];refine mW hC (by rfl) (.inr ⟨o,f1⟩) (P:=qu Hl id g ty es blk) (fun al' h1 h2=>WU h1 (by rw[h2];kernel_rfl) hl hC k) fun v aaf hP=>?_;obtain⟨rfl,h2⟩:=hP;simp only[go_sem];exact⟨rfl,h2⟩
def wI(ws:List Int):Nat->List Int
 |0=>[]
 |k+1=>match ws[k]? with
  |some x=>if 0<k/\ws[k-1]?=some x then wI ws k else wI ws k++[x]
  |none=>wI ws k
theorem KV(ws:List Int):∀k,(wI ws k).length<=k:=by
 intro k
 induction k with
 |zero=>exact aaj _
 |succ k ih=>
  unfold wI;split
  .split
   .omega
   simp;omega
  omega
theorem zQ{k:Nat}(h:ws[k+1]?=some x)(hp:ws[k]?=some x):wI ws (k+2)=wI ws (k+1):=by
 conv=>lhs;unfold wI
 rw[h];simp[hp]
theorem Ee{k:Nat}{y:Int}(h:ws[k+1]?=some x)(hp:ws[k]?=some y)(hn:¬x=y):wI ws (k+2)=wI ws (k+1)++[x]:=by
 conv=>lhs;unfold wI
 rw[h];have:¬y=x:=fun e=>hn e.symm;simp[hp,this]
theorem UF(h:ws[0]?=some x):wI ws 1=[x]:=by simp[wI,h]
def Kd(ws:List Int)(k:Nat):Prop:=∀i x y,i+1<k->ws[i]?=some x->ws[i+1]?=some y-> ¬y=x
theorem vF:∀k,k<=ws.length->Kd ws k->wI ws k=ws.take k:=by
 intro k
 induction k with
 |zero=>intro _ _;rfl
 |succ k ih=>
  intro hk h;obtain⟨x,hx⟩:=ao (ls:=ws) (k:=k) (by omega);have e:=ih (by omega) fun i x y h1=>h i x y (by omega);have ht:ws.take (k+1)=ws.take k++[x]:=by rw[abM,hx];rfl
  rcases k with _|k
  .rw[UF hx,ht];rfl
  obtain⟨y,hy⟩:=ao (ls:=ws) (k:=k) (by omega);rw[Ee hx hy (h k y x (by omega) hy hx),e,ht]
structure QW (ws cs:List Int) (k q:Nat):Prop where
 len:cs.length=ws.length
 kl:k=(wI ws q).length
 pre:cs.take k=wI ws q
 out:∀p,q-1<=p->cs[p]?=ws[p]?
 kq:k<q
theorem QW.step{cs:List Int}{k q:Nat}{y:Int}(h:QW ws cs k (q+1))(hx:ws[q+1]?=some x)(hy:ws[q]?=some y)(hn:¬x=y):QW ws (cs.set k x) (k+1) (q+2):=by
 obtain⟨h1,h2,h3,h4,h5⟩:=h;have hl:=KV ws (q+1);have hq:q+1<ws.length:=(aai.1 hx).1;refine⟨by simpa using h1,by rw[Ee hx hy hn,aaY,<- h2];rfl,?_,fun p hp=>?_,by omega⟩
 .rw[Ee hx hy hn,abM,abI];have:k<cs.length:=by omega
  rw[if_pos rfl,if_pos this,List.take_set_of_le (aaj _),h3];rfl
 rw[abI,if_neg (by omega)];exact h4 p (by omega)
theorem QW.skip{cs:List Int}{k q:Nat}(h:QW ws cs k (q+1))(hx:ws[q+1]?=some x)(hy:ws[q]?=some x):QW ws cs k (q+2):=by obtain⟨h1,h2,h3,h4,h5⟩:=h;exact⟨h1,by rw[zQ hx hy];exact h2,by rw[zQ hx hy];exact h3,fun p hp=>h4 p (by omega),by omega⟩
theorem QW.start{k:Nat}(hk:k+1<ws.length)(h:Kd ws (k+1))(hx:ws[k+1]?=some x)(hy:ws[k]?=some x):QW ws ws (k+1) (k+2):=by have e:=vF (k+1) (by omega) h;have e2:wI ws (k+2)=ws.take (k+1):=(zQ hx hy).trans e;exact⟨rfl,by rw[e2];simp;omega,by rw[e2],fun _ _=>rfl,by omega⟩
def I4(id g ty:Nat)(ws:List Int)(blk:aw)(v:V)(aaf:aw):Prop:=v=.one (.hsl id g 1 0 (wI ws ws.length).length)/\(∃cs:List Int,aaf id=(g,some (.arr ty 1 (iP cs)))/\cs.length=ws.length/\cs.take (wI ws ws.length).length=wI ws ws.length)/\Kept (· =id) blk aaf
theorem MI{cs:List Int}{k:Nat}(hk:k<=cs.length):List.take k (iP cs)++List.replicate (cs.length-k) [PV.int .i64 0]++List.drop (k+(cs.length-k)) (iP cs)=iP (cs.take k++List.replicate (cs.length-k) 0):=by rw[List.drop_of_length_le (by simp;omega),abo];simp only[iP,abq,List.map_replicate,List.map_take]
theorem Cx{al:Al}{blk:aw}{id g:Nat}(o:al.ok id=true)(hl:ws.length<=1000000)(hC:blk id=(g,some (.arr ty 1 (iP ws)))):
  ∃v aaf,nQ S 119 [.one (.hsl id g 1 0 ws.length)] al blk v aaf/\I4 id g ty ws blk v aaf:=by
 refine dO c119 (aaW rfl) ?_;by_cases h2:ws.length<2
 .have h2':((ws.length:Int)<2):=by omega
  have hnd:Kd ws ws.length:=fun i x y h=>by omega
  have e:=vF ws.length (aaj _) hnd;rw[abw] at e;simp only[go_sem,i119,h2'];exact⟨by rw[e],⟨ws,hC,rfl,by rw[e,abw]⟩,Kept.refl _ _⟩
 have h2':¬((ws.length:Int)<2):=by omega
 simp only[go_sem,i119,h2'];refine aV (fun q env aaf=>env 0=.one (.hsl id g 1 0 ws.length)/\env 3=vi ((q+1:Nat):Int)/\Kd ws (q+1)/\aaf=blk) 0 ws.length (aan _) ?_ ?_
 .simp only[go_sem];exact⟨rfl,fun i x y h=>by omega⟩
 rintro q env aao hq ⟨h0,h3,hnd,rfl⟩
 by_cases hlt:q+1<ws.length
 .have aak:(((q+1:Nat):Int)<(ws.length:Int)):=by omega
  obtain⟨x,hx⟩:=ao (ls:=ws) (k:=q+1) hlt;obtain⟨y,hy⟩:=ao (ls:=ws) (k:=q) (by omega);have hxa:=sP hx;have hya:=sP hy;have wj:IntKind.i64.wrap (((q+1:Nat):Int)-1)=(q:Int):=by rw[iJ (by omega)];omega
  have wk:=ak (n:=q+1) (by omega);have q1:q<ws.length:=by omega
  have q2:q+1<=ws.length:=by omega
  by_cases e:x=y
  .subst e;simp only[go_sem,i119_l4,h0,h3,hlt,aak,hxa,hya,wj,q1,q2,hC,o];refine⟨aK,?_⟩;refine aV (fun r env aaf=>env 0=.one (.hsl id g 1 0 ws.length)/\env 4=.one (.hsl id g 1 (q+1) (ws.length-(q+1)))/\env 5=vi ((r+1:Nat):Int)/\ ∃(cs:List Int) (k:Nat),env 3=vi (k:Nat)/\aaf id=(g,some (.arr ty 1 (iP cs)))/\QW ws cs k (q+2+r)/\q+2+r<=ws.length/\Kept (· =id) aao aaf) 0 ws.length (aan _) ?_ ?_
   .simp only[go_sem,h0];exact⟨rfl,ws,q+1,h3,hC,QW.start hlt hnd hx hy,by omega,Kept.refl _ _⟩
   rintro r aar aal hr ⟨k0,k4,k5,cs,k,k3,hB,hI,hqr,hkp⟩
   have hcl:=hI.len;have hkl:=hI.kl;have hkle:=KV ws (q+2+r);have hkq:=hI.kq;have hI':QW ws cs k (q+1+r+1):=by rw[show q+1+r+1=q+2+r by omega];exact hI
   by_cases ai2:r+1<ws.length-(q+1)
   .have afg:(((r+1:Nat):Int)<((ws.length-(q+1):Nat):Int)):=by omega
    obtain⟨u,hu⟩:=ao (ls:=ws) (k:=q+1+(r+1)) (by omega);obtain⟨v,hv⟩:=ao (ls:=ws) (k:=q+1+r) (by omega);have cu:=sP ((hI.out (q+1+(r+1)) (by omega)).trans hu);have cv:=sP ((hI.out (q+1+r) (by omega)).trans hv);have wr:IntKind.i64.wrap (((r+1:Nat):Int)-1)=(r:Int):=by rw[iJ (by omega)];omega
    have wr2:=ak (n:=r+1) (by omega);have wk2:=ak (n:=k) (by omega);have r1:r<ws.length-(q+1):=by omega
    have kk:k<ws.length:=by omega
    have kk2:k<cs.length:=by omega
    obtain⟨z,hz⟩:=ao kk2;have cz:=sP hz;by_cases e2:u=v
    .subst e2;have hun:(u !=u)=false:=by simp
     have hI2:=hI'.skip (by rw[show q+1+r+1=q+1+(r+1) by omega];exact hu) hv;simp only[go_sem,i119_l1,k0,k4,k5,k3,ai2,afg,r1,hB,cu,cv,wr,wr2,hun,o];refine⟨aK,by omega,cs,k,rfl,rfl,by rw[show q+2+(r+1)=q+1+r+2 by omega];exact hI2,by omega,hkp⟩
    have hun:=(show(u !=v)=true by simp[e2]);simp only[go_sem,i119_l1,k0,k4,k5,k3,ai2,afg,r1,hB,cu,cv,wr,wr2,wk2,kk,cz,hun,o];have hI2:=hI'.step (by rw[show q+1+r+1=q+1+(r+1) by omega];exact hu) hv e2;refine⟨aK,by omega,cs.set k u,k+1,rfl,by rw[Iy],by rw[show q+2+(r+1)=q+1+r+2 by omega];exact hI2,by omega,hkp.fY rfl _⟩
   have afg:¬(((r+1:Nat):Int)<((ws.length-(q+1):Nat):Int)):=by omega
   have kk3:k<=ws.length:=by omega
   have kk4:k+(ws.length-k)<=cs.length:=by omega
   have hne:¬(ws.length-k=0):=by omega
   have ajb:q+2+r=ws.length:=by omega
   rw[ajb] at hI;have hsp:=MI (cs:=cs) (k:=k) (by omega);rw[hcl] at hsp;simp only[go_sem,i119_l1,i119_r2,k0,k4,k5,k3,afg,hB,o,kk3,kk4,hne,List.length_replicate,jH,hsp];obtain⟨i1,i2,i3,i4,i5⟩:=hI;refine⟨by rw[<- i2],⟨_,jy,by simp;omega,?_⟩,hkp.fY rfl _⟩;rw[<- i2,List.take_left' (by simp;omega),i3]
  have e1:=(show(x==y)=false by simp[e]);simp only[go_sem,i119_l4,i119_r3,h0,h3,hlt,aak,hxa,hya,wj,wk,q1,hC,o,e1];refine⟨aK,fun i u v h h4 h5=>?_⟩;by_cases e2:i=q
  .subst e2;rw[hy] at h4;rw[hx] at h5;cases h4;cases h5;exact e
  exact hnd i u v (by omega) h4 h5
 have aak:¬(((q+1:Nat):Int)<(ws.length:Int)):=by omega
 have e:=vF ws.length (aaj _) (fun i x y h=>hnd i x y (by omega));rw[abw] at e;simp only[go_sem,i119_l4,i119_r5,h0,h3,aak];exact⟨by rw[e],⟨ws,hC,rfl,by rw[e,abw]⟩,Kept.refl _ _⟩
def zL:List Int->List Int
 |[]=>[]
 |x::r=>if x∈r then zL r else x::zL r
theorem xv:∀ {l:List Int},x∈zL l↔x∈l:=by
 intro l
 induction l with
 |nil=>simp[zL]
 |cons y r ih=>
  unfold zL;split
  .rename_i h;rw[ih,aat];constructor
   .exact .inr
   rintro (rfl|h2)
   .exact h
   exact h2
  rw[aat,aat,ih]
theorem M8:∀l:List Int,(zL l).Nodup:=by
 intro l
 induction l with
 |nil=>exact ach
 |cons y r ih=>
  unfold zL;split
  .exact ih
  rename_i h;exact abQ.2 ⟨fun h2=>h (xv.1 h2),ih⟩
theorem KU:∀k,k<=ws.length->(x∈wI ws k↔x∈ws.take k):=by
 intro k
 induction k with
 |zero=>intro _;simp[wI]
 |succ k ih=>
  intro hk;obtain⟨y,hy⟩:=ao (ls:=ws) (k:=k) (by omega);have ht:ws.take (k+1)=ws.take k++[y]:=by rw[abM,hy];rfl
  have ih:=ih (by omega);unfold wI;rw[hy,ht];simp only;split
  .rename_i h;obtain⟨h1,h2⟩:=h;have hm:y∈ws.take k:=by
    rw[List.mem_take_iff_getElem];obtain⟨h3,h4⟩:=aai.1 h2;exact⟨k-1,by omega,h4⟩
   rw[ih,aaR];constructor
   .exact .inl
   rintro (h|h)
   .exact h
   simp at h;subst h;exact hm
  rw[aaR,aaR,ih]
theorem Nc(hs:RX Hl ws 0 ws.length):∀k,k<=ws.length->(wI ws k).Nodup:=by
 intro k
 induction k with
 |zero=>intro _;exact ach
 |succ k ih=>
  intro hk;obtain⟨y,hy⟩:=ao (ls:=ws) (k:=k) (by omega);have ih:=ih (by omega);unfold wI;rw[hy];simp only;split
  .exact ih
  rename_i h;rw[adi];refine⟨ih,by simp,fun z hz w hw=>?_⟩;simp at hw;subst hw;rintro rfl
  rw[KU k (by omega),List.mem_take_iff_getElem] at hz;obtain⟨p,hp,hpz⟩:=hz;have hpk:p<k:=by omega
  have hp2:ws[p]?=some z:=by rw[abZ (by omega),hpz]
  obtain⟨u,hu⟩:=ao (ls:=ws) (k:=k-1) (by omega);have s1:=hs (k-1) k u z (aan _) (by omega) (by omega) hu hy;have huz:u=z:=by
   by_cases e:p=k-1
   .rw[e,hu] at hp2;cases hp2;rfl
   have s2:=hs p (k-1) z u (aan _) (by omega) (by omega) hp2 hu;simp at s1 s2;omega
  rw[huz] at hu;exact h ⟨by omega,hu⟩
theorem sR{es:List Int}(hp:ws.Perm es)(hs:RX Hl ws 0 ws.length):(wI ws ws.length).length=(zL es).length:=by refine List.Perm.length_eq ((List.perm_ext_iff_of_nodup (Nc hs _ (aaj _)) (M8 es)).2 fun x=>?_);rw[KU _ (aaj _),abw,xv,hp.mem_iff]
def UE(ls:List Let)(e:Nat):Bool:=((pA ls e).l.kind==2)&&((pA ls (nx ls e)).l.kind==2)
def JA(ls:List Let)(es:List Nat):List Int:=es.flatMap fun e:Nat=>[(e:Int),(nx ls e:Int)]
def Ls(ls:List Let)(es:List Nat):List Int:=es.flatMap fun e:Nat=>[(pA ls e).l.id,(pA ls (nx ls e)).l.id]
def Yn(F:Nat)(ls:List Let)(a b c:Nat):Bool:=[a,b,c].all (UE ls)&&(((zL (JA ls [a,b,c])).length==6)&&(((zL (Ls ls [a,b,c])).length==3)&&([a,b,c].any (uT ls · true)&&([a,b,c].any (uT ls · false)&&kV F ls 0 [a,b,c] a))))
def Nz(F:Nat)(ls:List Let)(a b c:Nat):Option (List Pc):=if Yn F ls a b c then some (qh ls (pieces ls) [a,b,c]) else none
theorem CW(f:Nat->List Int)(hf:∀e,(f e).length=2):∀l:List Nat,(l.flatMap f).length=2*l.length:=by
 intro l
 induction l with
 |nil=>rfl
 |cons a r ih=>rw[List.flatMap_cons,aaY,ih,hf,aaz];omega
theorem Ck(f:Nat->List Int)(l:List Nat)(k e:Nat)(h:l[k]?=some e):(l.take (k+1)).flatMap f=(l.take k).flatMap f++f e:=by rw[abM,h];simp
theorem Hd(f:Nat->Bool)(l:List Nat)(k e:Nat)(h:l[k]?=some e):(l.take (k+1)).any f=((l.take k).any f||f e):=by rw[abM,h];simp
theorem Rv(f:Nat->Bool)(l:List Nat)(k e:Nat)(h:l[k]?=some e):(l.take (k+1)).all f=((l.take k).all f&&f e):=by rw[abM,h];simp
theorem NO(f:Nat->List Int)(es:List Nat)(x y:Int):iP (es.flatMap f)++[[PV.int .i64 x],[PV.int .i64 y]]=iP (es.flatMap f++[x,y]):=by simp
theorem Hy(g:cV F ls){av bv cv:Nat}(ha:av<ls.length)(hb:bv<ls.length)(hc:cv<ls.length){k:Int}{l o:Bool}{sg:Int}:
  aP S 92 [.one (.p (dE F ls)),rQ k av bv cv l o sg] (kR (Nz F ls av bv cv)):=by
 have hlen:=g.len;have hpl:=aB ls;have hes:∀e∈[av,bv,cv],e<ls.length:=fun e h=>by simp at h;rcases h with rfl|rfl|rfl<;>assumption
 generalize hE:[av,bv,cv]=es at*;have hel:es.length=3:=by rw[<- hE];rfl
 have hn3:nP [av,bv,cv]=[[.int .i64 av],[.int .i64 bv],[.int .i64 cv]]:=rfl;rw[hE] at hn3;have w3:((3:Nat):Int)=3:=rfl;refine aJ c92 ?_;simp only[go_sem,i92];refine aV (fun j env blk=>env 0=.one (.p (dE F ls))/\env 6=.one (.hsl 5888064384 1 1 0 3)/\env 22=.one (.hsl 5888064384 1 1 0 3)/\env 23=vi 3/\env 24=vi j/\blk 5888064384=(1,some (.arr 3 1 (nP es)))/\(es.take j).all (UE ls)=true/\
  env 9=vb ((es.take j).any (uT ls · true))/\env 10=vb ((es.take j).any (uT ls · false))/\ ∃c7 c8,env 7=.one c7/\env 8=.one c8/\grown 5888640256 3 1 (iP (JA ls (es.take j))) (.one c7) blk/\grown 5888705280 3 1 (iP (Ls ls (es.take j))) (.one c8) blk) 0 3 (aan _) ?_ ?_
 .simp only[go_sem];exact⟨rfl,rfl,by rw[hn3],rfl,rfl,_,_,rfl,rfl,grown.nil,grown.nil⟩
 rintro j env blk hj ⟨h0,h6,h22,h23,h24,b6,aas,h9,h10,c7,c8,h7,h8,g7,g8⟩
 by_cases hlt:j<3
 .have aak:((j:Int)<3):=by omega
  obtain⟨e,he⟩:=ao (ls:=es) (k:=j) (by omega);have ajc:=hes e (aae he);have hnp:=eZ he;have pe:=o9 g ajc;have hm:=aaN (e+1) (show 0<ls.length by omega);obtain⟨P,hP⟩:=ao (ls:=pieces ls) (k:=e) (by omega);obtain⟨Q,hQ⟩:=ao (ls:=pieces ls) (k:=(e+1)%ls.length) (by omega);have hap:=dd hP;have haq:=dd hQ;have w1:=ak (n:=j) (by omega);have po:=vJ g ajc true;have pu:=vJ g ajc false;have hcr:UE ls e=((P.l.kind==2)&&(Q.l.kind==2)):=by unfold UE;rw[eD hP,eD hQ]
  have hl7:(iP (JA ls (es.take j))).length<=100:=by unfold JA;rw[jH,CW _ (fun _=>rfl),aa2];omega
  have hl8:(iP (Ls ls (es.take j))).length<=100:=by unfold Ls;rw[jH,CW _ (fun _=>rfl),aa2];omega
  have hno:UE ls e=false->Nz F ls av bv cv=none:=fun h=>by
   have:es.all (UE ls)=false:=by
    cases hh:es.all (UE ls) with
    |false=>rfl
    |true=>rw[aba.1 hh e (aae he)] at h;cases h
   unfold Nz Yn;rw[hE,this];rfl
  cases k1:(P.l.kind==2) with
  |false=>
   rw[k1] at hcr;have k1':(P.l.kind !=2)=true:=by simp only[bne,k1];rfl
   rw[hno hcr];simp only[go_sem,i92_l1,h0,h22,h23,h24,b6,hlt,aak,hnp,s105,aq pe aN,hap,Pc.ps,k1'];rfl
  |true=>
   have k1':(P.l.kind !=2)=false:=by simp only[bne,k1];rfl
   cases k2:(Q.l.kind==2) with
   |false=>
    rw[k1,k2] at hcr;have k2':(Q.l.kind !=2)=true:=by simp only[bne,k2];rfl
    rw[hno hcr];simp only[go_sem,i92_l1,h0,h22,h23,h24,b6,hlt,aak,hnp,s105,aq pe aN,hap,haq,Pc.ps,k1',k2'];rfl
   |true=>
    rw[k1,k2] at hcr;have k2':(Q.l.kind !=2)=false:=by simp only[bne,k2];rfl
    simp only[go_sem,i92_l1,h0,h7,h22,h23,h24,b6,hlt,aak,hnp,s105,aq pe aN,hap,haq,Pc.ps,k1',k2'];refine iN (xs:=[[.int .i64 (e:Nat)],[.int .i64 ((e+1)%ls.length:Nat)]]) (g7.of_eq (af (by decide))) (by simp only[aO,aa,if_true];rfl) (.inl rfl) (by simp only[aaz,aaL];omega) fun d7 aao gd7 hb1=>?_;have q6:=hb1 5888064384 (by decide) (by decide);simp only[go_sem,b6] at q6;have g8':=g8.of_eq ((hb1 5888705280 (by decide) (by decide)).trans (af (by decide)));simp only[go_sem,h0,h8,hap,haq,Pc.ps];refine mX (xs:=[[.int .i64 P.l.id],[.int .i64 Q.l.id]]) (g8'.of_eq (af (by decide))) (by simp only[aO,aa,if_true];rfl) (.inl rfl) (by simp only[aaz,aaL];omega) fun d8 aal r w gd8 hb2 hw=>?_
    have p6:=(hb2 5888064384 (by decide) (by decide)).trans ((af (by decide)).trans q6);have arR:=gd7.of_eq ((hb2 5888640256 (by decide) (by decide)).trans (af (by decide)));simp only[go_sem];refine⟨?_,?_⟩
    .rcases hw with ⟨rfl,rfl⟩|⟨rfl,rfl⟩|⟨rfl,rfl⟩<;>kernel_rfl
    generalize hx9:(es.take j).any (uT ls · true)=x9 at h9;generalize aqg:(es.take j).any (uT ls · false)=x10 at h10;have e9:=Hd (uT ls · true) es j e he;have e10:=Hd (uT ls · false) es j e he;have eA:=Rv (UE ls) es j e he;rw[hx9] at e9;rw[aqg] at e10;rw[aas,hcr] at eA;have G7:grown 5888640256 3 1 (iP (JA ls (es.take (j+1)))) (.one d7) aal:=by have:=NO (fun e:Nat=>[(e:Int),(nx ls e:Int)]) (es.take j) e (nx ls e);have h2:=Ck (fun e:Nat=>[(e:Int),(nx ls e:Int)]) es j e he;rw[show JA ls (es.take (j+1))=(es.take j).flatMap (fun e:Nat=>[(e:Int),(nx ls e:Int)])++[(e:Int),(nx ls e:Int)] from h2,<- this];exact arR
    have G8:grown 5888705280 3 1 (iP (Ls ls (es.take (j+1)))) (.one d8) aal:=by have:=NO (fun e:Nat=>[(pA ls e).l.id,(pA ls (nx ls e)).l.id]) (es.take j) (pA ls e).l.id (pA ls (nx ls e)).l.id;have h2:=Ck (fun e:Nat=>[(pA ls e).l.id,(pA ls (nx ls e)).l.id]) es j e he;rw[show Ls ls (es.take (j+1))=(es.take j).flatMap (fun e:Nat=>[(pA ls e).l.id,(pA ls (nx ls e)).l.id])++[(pA ls e).l.id,(pA ls (nx ls e)).l.id] from h2,<- this,eD hP,show pA ls (nx ls e)=Q from eD hQ];exact gd8
    cases x9<;>cases x10<;>simp only[go_sem,h0,h9,h10,h22,h23,h24,s116,au po,au pu,w1,hlt]<;>exact⟨h6,p6,by rw[eA];rfl,by rw[e9];rfl,by rw[e10];rfl,d7,d8,rfl,rfl,G7,G8⟩
 have:j=3:=by omega
 subst this;have ht:es.take 3=es:=by rw[<- hE];rfl
 rw[ht] at aas h9 h10 g7 g8;have n7:(JA ls es).length=6:=by unfold JA;rw[CW _ (fun _=>rfl),hel]
 have n8:(Ls ls es).length=6:=by unfold Ls;rw[CW _ (fun _=>rfl),hel]
 rcases g7 with ⟨e,_⟩|⟨_,gg7,e,b7⟩
 .have:=congrArg List.length e;rw[jH,n7] at this;cases this
 cases e;rcases g8 with ⟨e,_⟩|⟨_,gg8,e,b8⟩
 .have:=congrArg List.length e;rw[jH,n8] at this;cases this
 cases e;have s506:S.shared 118=true:=by kernel_rfl
 have s507:S.shared 119=true:=by kernel_rfl
 have h33:¬(((3:Nat):Int)<3):=by decide
 simp only[go_sem,i92_l1,i92_r2,h7,h23,h24,h33,s506,jH];refine mW b7 (by rfl) (.inl rfl) (P:=qu Hl 5888640256 gg7 3 (JA ls es) blk) (fun al' h1 h2=>Dc h1 (by rw[h2];kernel_rfl) (by omega) b7) fun v aao hP=>?_;obtain⟨rfl,⟨ws,bw,pw,sw⟩,kw⟩:=hP;have b8':=(kw 5888705280 (by decide)).trans b8;have b6':=(kw 5888064384 (by decide)).trans b6;simp only[go_sem,h8,s506,jH];refine mW b8' (by rfl) (.inl rfl) (P:=qu Hl 5888705280 gg8 3 (Ls ls es) aao) (fun al' h1 h2=>Dc h1 (by rw[h2];kernel_rfl) (by omega) b8') fun v aal hP=>?_
 obtain⟨rfl,⟨us,bu,pu,su⟩,ku⟩:=hP;have bw':=(ku 5888640256 (by decide)).trans bw;have arZ:=(ku 5888064384 (by decide)).trans b6';have wl:=pw.length_eq;have ul:=pu.length_eq;have cw:=sR pw sw;have cu:=sR pu su;have pcn:=zS g es (by omega) (e0:=av) (by rw[<- hE];rfl) ha 0;have c00:((0:Nat):Int)=0:=rfl;rw[c00] at pcn;have psw:=Lu g es hes (by omega);have ht3:List.take 3 (nP es)=nP es:=aa4 (by rw[Ic];omega);have hB:Yn F ls av bv cv=((((zL (JA ls es)).length:Int)==6)&&((((zL (Ls ls es)).length:Int)==3)&&(es.any (uT ls · true)&&(es.any (uT ls · false)&&kV F ls 0 es av)))):=by unfold Yn;rw[hE,aas,xm,xm];rfl
 unfold Nz;rw[hB];clear hB;simp only[go_sem,h7,s507,jH,<- wl];refine mW bw' (by rfl) (.inl rfl) (P:=I4 5888640256 gg7 3 ws aal) (fun al' h1 h2=>Cx h1 (by omega) bw') fun v aaB hP=>?_;obtain⟨rfl,_,kc⟩:=hP;have bu':=(kc 5888705280 (by decide)).trans bu;have b63:=(kc 5888064384 (by decide)).trans arZ;rw[cw];have lo:S.lone 5889152128=false:=by kernel_rfl
 cases q1:(((zL (JA ls es)).length:Int)==6) with
 |false=>
  have q1':(((zL (JA ls es)).length:Int)!=6)=true:=by simp only[bne,q1];rfl
  simp only[go_sem,q1'];rfl
 |true=>
  have q1':(((zL (JA ls es)).length:Int)!=6)=false:=by simp only[bne,q1];rfl
  simp only[go_sem,h8,q1',s507,jH,<- ul];refine mW bu' (by rfl) (.inl rfl) (P:=I4 5888705280 gg8 3 us aaB) (fun al' h1 h2=>Cx h1 (by omega) bu') fun v aaO hP=>?_;obtain⟨rfl,_,kd⟩:=hP;have b64:=(kd 5888064384 (by decide)).trans b63;rw[cu];cases q2:(((zL (Ls ls es)).length:Int)==3) with
  |false=>
   have q2':(((zL (Ls ls es)).length:Int)!=3)=true:=by simp only[bne,q2];rfl
   simp only[go_sem,q2'];rfl
  |true=>
   have q2':(((zL (Ls ls es)).length:Int)!=3)=false:=by simp only[bne,q2];rfl
   cases q3:es.any (uT ls · true) with
   |false=>rw[q3] at h9;simp only[go_sem,h9,q2'];rfl
   |true=>
    rw[q3] at h9;cases q4:es.any (uT ls · false) with
    |false=>rw[q4] at h10;simp only[go_sem,h9,h10,q2'];rfl
    |true=>
     rw[q4] at h10;cases q5:kV F ls 0 es av with
     |false=>rw[q5] at pcn;simp only[go_sem,h0,h6,h9,h10,q2',b64,s113,au pcn,hel,Ic,ht3];rfl
     |true=>rw[q5] at pcn;simp only[go_sem,h0,h6,h9,h10,q2',b64,s113,au pcn,s120,hel,Ic,ht3];refine jg psw lo (.inr (bG (tQ _))) fun cc adO gc hb5=>?_;simp only[go_sem];rw[<- hE] at gc;exact eF gc
abbrev Xa:List C:=[.p .aaI,.p (.fn 85 [] []),.p (.fn 86 [] []),.p (.fn 87 [] []),.p (.fn 88 [] []),.p (.fn 89 [] []),.p (.fn 90 [] []),.p (.fn 91 [] []),.p (.fn 92 [] []),.p (.fn 93 [] []),.p (.fn 93 [] [])]
theorem F6(k:Int):0<=(bK k).1/\(bK k).1<=4/\0<=(bK k).2/\(bK k).2<=2:=by
 unfold bK;split
 .simp
 split
 .simp
 split<;>simp
theorem QM(hlen:ls.length<=400)(hcr:aA Let.aD ls<=200){k f:Nat}{rest:List C}(hk:Xa.drop k=.p (.fn f [] [])::rest)(hk2:k<11)(hsf:S.shared f=false){a b c:Int}{l o:Bool}{sg:Int}{res:Option (List Pc)}(ha:aP S 70 [.one (.p (dE F ls)),rQ k a b c l o sg] (rb true))(hm:aP S f [.one (.p (dE F ls)),rQ k a b c l o sg] (kR res))(hL:∀L,res=some L->L.length<=1000000):
  aP S 56 [.one (.p (dE F ls)),rQ k a b c l o sg] (GD F ls k res):=by
 have acq:=zt F;have pg:=Kt k;have lo1:S.lone 3584192384=false:=by kernel_rfl
 have lo2:S.lone 3584576128=false:=by kernel_rfl
 have hlk:∀(blk:aw),land blk [] 3584192000 ((RV.agg [.p .aaI,.p (.fn 85 [] []),.p (.fn 86 [] []),.p (.fn 87 [] []),.p (.fn 88 [] []),.p (.fn 89 [] []),.p (.fn 90 [] []),.p (.fn 91 [] []),.p (.fn 92 [] []),.p (.fn 93 [] []),.p (.fn 93 [] [])]).bn (S.lone 3584192000))=some (.agg Xa,[]):=fun blk=>by cases S.lone 3584192000<;>rfl
 have hpl:=aB ls;obtain⟨g1,g2,g3,g4⟩:=F6 k;have lg:∀blk:aw,land blk [] 3584384128 ((RV.tup [.one (.p (.int .i64 (bK k).1)),.one (.p (.int .i64 (bK k).2))]).bn (S.lone 3584384128))=some (.tup [.one (.p (.int .i64 (bK k).1)),.one (.p (.int .i64 (bK k).2))],[]):=fun blk=>aN;obtain⟨gr1,gr2,hgr⟩:∃x y,bK k=(x,y):=⟨_,_,rfl⟩;have d4:GD F ls k none=gE 4:=rfl;have d7:∀L,((400:Int)<(ls.length:Int)+gr1\/(100:Int)<((aA Let.aD ls/2:Nat):Int)+gr2)->GD F ls k (some L)=gE 7:=fun L h=>by unfold GD;rw[hgr];exact if_pos h
 have d0:∀L,¬((400:Int)<(ls.length:Int)+gr1\/(100:Int)<((aA Let.aD ls/2:Nat):Int)+gr2)->GD F ls k (some L)=jr F (lf L):=fun L h=>by unfold GD;rw[hgr];exact if_neg h
 rw[hgr] at g1 g2 g3 g4 pg;simp only[hgr] at lg;simp only at g1 g2 g3 g4 lg pg;have w1:IntKind.i64.wrap (((pieces ls).length:Int)+gr1)=(ls.length:Int)+gr1:=by rw[hpl];exact jT (by omega) (by omega)
 have w2:IntKind.i64.wrap (((aA Let.aD ls/2:Nat):Int)+gr2)=((aA Let.aD ls/2:Nat):Int)+gr2:=jT (by omega) (by omega);unfold kR at hm;generalize Xa=kg at hk hlk;refine aJ c56 ?_;simp only[go_sem,i56,s70,au ha,s71,r9 Kn (hlk _),hk,hk2,hsf];refine QU hm lo1 fun cc aao w gc hb hw=>?_;have b0:=hb 3584000000 (by decide);have b1:=hb 3584000064 (by decide);simp only[go_sem] at b0 b1;cases res with
 |none=>rw[d4];simp only[go_sem,b1];refine⟨?_,rfl⟩;rcases hw with rfl|rfl<;>kernel_rfl
 |some L=>
  simp only[abv] at gc;have pfin:=acq L (hL L rfl) (.sl (hJ (pieces ls))) (.sl (Gq (aW F ls))) (.sl (nP (gG F ls))) (.int .i64 (aA Let.aH ls:Nat)) (.int .i64 ((aA Let.aD ls/2:Nat):Int)) (.sl (nP (counts ls F)));obtain⟨rs,hsn,_⟩:=gc.cG;by_cases h1:(400:Int)<(ls.length:Int)+gr1
  .rw[d7 L (.inl h1)];simp only[go_sem,b0,b1,s72,aq pg (lg _),w1,h1];refine⟨?_,rfl⟩;rcases hw with rfl|rfl<;>kernel_rfl
  by_cases h2:(100:Int)<((aA Let.aD ls/2:Nat):Int)+gr2
  .rw[d7 L (.inr h2)];simp only[go_sem,b0,b1,s72,aq pg (lg _),w1,w2,h1,h2];refine⟨?_,rfl⟩;rcases hw with rfl|rfl<;>kernel_rfl
  rw[d0 L (by rintro (h|h);exact h1 h;exact h2 h)];simp only[go_sem,b0,s72,aq pg (lg _),w1,w2,h1,h2,hsn,s73];refine⟨?_,?_⟩
  .rcases hw with rfl|rfl<;>kernel_rfl
  refine V5 pfin lo2 rfl (qw _) fun c2 aal gc2 hb2=>?_;have b02:=(hb2 3584000064 (by decide)).trans b1;simp only[go_sem,b02];exact lT (gc2.of_eq (af (by decide)))
theorem QN{k a b c:Int}{l o:Bool}{sg:Int}(ha:aP S 70 [.one (.p (dE F ls)),rQ k a b c l o sg] (rb false)):aP S 56 [.one (.p (dE F ls)),rQ k a b c l o sg] (gE 2):=by refine aJ c56 ?_;simp only[go_sem,i56,s70,au ha];try rfl
def jW(F:Nat)(ls:List Let)(k:Int)(a b c:Nat)(l o:Bool)(sg:Int):Option (List Pc):=if k=1 then Ss ls a else if k=2 then amR F ls a b c else if k=3 then Sr F ls a b else if k=4 then Sl ls a else if k=5 then some (lmR ls a sg o) else if k=6 then Sh F ls a b else if k=7 then pmR F ls a b l o else if k=8 then Nz F ls a b c else if k=9 then trR F ls a else tlR ls a
def tF(F:Nat)(ls:List Let)(k a b c:Int)(l o:Bool)(sg:Int):RV:=if aQ F ls k a b c l o sg then GD F ls k (jW F ls k a.toNat b.toNat c.toNat l o sg) else gE 2
theorem Nr{k a b c:Int}{l o:Bool}{sg:Int}:(∃e,tF F ls k a b c l o sg=gE e)\/ ∃L,tF F ls k a b c l o sg=jr F L:=by
 unfold tF;split
 .cases jW F ls k a.toNat b.toNat c.toNat l o sg with
  |none=>exact .inl ⟨4,rfl⟩
  |some L=>
   by_cases h:(400:Int)<(ls.length:Int)+(bK k).1\/(100:Int)<((aA Let.aD ls/2:Nat):Int)+(bK k).2
   .exact .inl ⟨7,if_pos h⟩
   exact .inr ⟨lf L,if_neg h⟩
 exact .inl ⟨2,rfl⟩
theorem CJ{k a b c:Int}{l o:Bool}{sg:Int}{res:RV}(po:aP S 55 [bj F ls] (tS (dE F ls) (.int .i64 0)))(hd:aP S 56 [.one (.p (dE F ls)),rQ k a b c l o sg] res)(fin:(∃e,res=gE e)\/ ∃L,res=jr F L):
  aP S 38 [bj F ls,rQ k a b c l o sg] res:=by
 have lo:S.lone 2432256128=false:=by kernel_rfl
 refine aJ c38 ?_;rcases fin with ⟨e,rfl⟩|⟨L,rfl⟩
 .simp only[go_sem,i38,s55,aq po aN,s56,aq hd MA];rfl
 simp only[go_sem,i38,s55,aq po aN,s56];refine KA hd lo fun cc aao gc hb=>?_;have b4:=hb 2432000128 (by decide);simp only[go_sem] at b4;simp only[go_sem,b4];exact lT (gc.of_eq (af (by decide)))
theorem eJ{n:Nat}{i:Int}(h:rT n i=true):∃k:Nat,i=(k:Int)/\k<n:=by unfold rT at h;simp at h;exact⟨i.toNat,by omega,by omega⟩
theorem vt(l:List Pc)(drop:Nat->Pc->Bool):(iD l drop).length<=l.length:=jF l drop l.length
theorem Bh(l:List Pc)(i:Nat)(g r:Int):(JJ l i g r).length=l.length:=by simp[JJ]
theorem BN{k:Int}{a b c:Nat}{l o:Bool}{sg:Int}{L:List Pc}(h:jW F ls k a b c l o sg=some L):L.length<=ls.length+4:=by
 have hp:=aB ls;unfold jW at h;repeat' split at h
 .unfold Ss at h;simp only at h;split at h
  .cases h;have:=vt (pieces ls) (fun k _=>decide (k=a)||decide (k=(a+1)%ls.length));simp only[dr,aau];omega
  cases h
 .unfold amR at h;split at h
  .cases h;simp only[Ld,rU,dr,aau,aaz,aaL];omega
  split at h
  .cases h;simp only[Ld,rU,dr,aau,aaz,aaL];omega
  cases h
 .unfold Sr at h;split at h
  .cases h;simp only[jL,fW];omega
  cases h
 .unfold Sl at h;simp only at h;split at h
  .cases h;have:=vt (pieces ls) (lY [((pieces ls).getD a ⟨fm,false⟩).l.id]);simp only[Cu,aau];omega
  cases h
 .cases h;simp only[lmR,rU,aaz,aaL];omega
 .unfold Sh at h;split at h
  .cases h;have:=vt (pieces ls) (lY [(pA ls a).l.id,(pA ls (nx ls a)).l.id]);simp only[Cu,aau];omega
  cases h
 .have key:∀s t,pmV ls a b l o s t=some L->L.length<=ls.length+4:=fun s t h=>by
   unfold pmV at h;split at h
   .cases h
   simp only[aaV] at h;subst h;have h2:∀x sg o s,(pmS x sg o s).length=2:=fun x sg o s=>by unfold pmS;split<;>rfl
   split<;>simp only[rU,h2,aaz,aaL]<;>omega
  unfold pmR at h;split at h
  .exact key _ _ h
  exact key _ _ h
 .unfold Nz at h;split at h
  .cases h;simp only[jL];omega
  cases h
 .unfold trR at h;split at h
  .cases h;simp only[Bh,dr,aau];omega
  cases h
 unfold tlR at h;split at h
 .cases h;simp only[Bh,dr,aau];omega
 cases h
def XR(F:Nat)(k a b c:Int)(l o:Bool)(sg:Int):RV:=if aQ F [] k a b c l o sg then jr F (GN b.toNat) else gE 2
theorem Wg{k a b c:Int}{l o:Bool}{sg:Int}(h:aQ F [] k a b c l o sg=true):∃bv:Nat,k=2/\a=0/\b=(bv:Int)/\bv<=F/\c=0/\l=false/\o=false/\sg=0:=by
 have hi:∀i:Int,rT 0 i=false:=fun i=>by unfold rT;simp
 unfold aQ at h;by_cases h2:k=2
 .subst h2;simp only[if_true,aaL,hi,acG,aay,abB,beq_iff_eq,decide_eq_true_eq] at h;obtain⟨rfl,rfl,rfl,⟨_,rfl⟩,hb0,hbF,hc0,hcc⟩:=h;obtain⟨bv,rfl⟩:=abX hb0;have:cg [] ((bv:Int).toNat)=0:=rfl;rw[this] at hcc;exact⟨bv,rfl,rfl,rfl,by omega,by omega,rfl,rfl,rfl⟩
 simp[h2,hi] at h
theorem U4(hF:F<=40)(k a b c:Int)(l o:Bool)(sg:Int):aP S 38 [bj F [],rQ k a b c l o sg] (XR F k a b c l o sg):=by
 unfold XR;cases hA:aQ F [] k a b c l o sg with
 |false=>have pa:=Wf (F:=F) (ls:=[]) (a:=a) (b:=b) (c:=c) (l:=l) (o:=o) (sg:=sg) k;rw[hA] at pa;exact CJ (Pd hF) (QN pa) (.inl ⟨2,rfl⟩)
 |true=>obtain⟨bv,rfl,rfl,rfl,hb,rfl,rfl,rfl,rfl⟩:=Wg hA;exact Rr hF hb
abbrev lA(ls:List Let)(i:Nat):Let:=ls.getD i fm
theorem Vy{i:Nat}{l:Let}(h:ls[i]?=some l):lA ls i=l:=by rw[lA,aaC,h];rfl
theorem mv{i:Nat}(h:i<ls.length):ls[i]?=some (lA ls i):=by obtain⟨l,hl⟩:=ao h;rw[Vy hl,hl]
theorem szL(l:List Let):gQ 6 (cA l)=true:=by simp[gQ,Let.ps]
theorem PK(a b:List Let):cA (a++b)=cA a++cA b:=abq
theorem TX{L:List Let}(h:L≠[]):cA L≠[]:=by simpa [cA] using h
def leq(a b:Let):Bool:=(a.kind==b.kind)&&((a.gate==b.gate)&&((a.aag==b.aag)&&((a.id==b.id)&&((a.sign==b.sign)&&(a.over==b.over)))))
theorem D0(x y:Let):tv [true,true,true,true,true,false] [.p (.int .i64 x.kind),.p (.int .i64 x.gate),.p (.int .i64 x.aag),.p (.int .i64 x.id),.p (.int .i64 x.sign),.p (.bool x.over)] [.p (.int .i64 y.kind),.p (.int .i64 y.gate),.p (.int .i64 y.aag),.p (.int .i64 y.id),.p (.int .i64 y.sign),.p (.bool y.over)]=some (leq x y):=by
 have e:∀a b:Int,Hm true (.int .i64 a) (.int .i64 b)=some (a==b):=fun a b=>by simp[Hm]
 have e2:∀a b:Bool,Hm false (.bool a) (.bool b)=some (a==b):=fun a b=>by simp[Hm]
 simp only[tv,leq,e,e2];cases (x.kind==y.kind)<;>cases (x.gate==y.gate)<;>cases (x.aag==y.aag)<;>cases (x.id==y.id)<;>cases (x.sign==y.sign)<;>cases (x.over==y.over)<;>rfl
theorem lQ(x:Let):leq x x=true:=by simp[leq]
theorem Bm(L:List Let)(k:Nat)(hk:k<=L.length)(hl:L.length<=1000000):aP S 59 [.one (.p (eB L)),vi k] (.one (ah iM 6 (cA (L.drop k++L.take k)))):=by
 have hs6:=szL L;have hdr:List.take (L.length-k) (List.drop k (cA L))=cA (L.drop k):=by rw[aa4 (by simp)];simp[List.map_drop]
 have htk:List.take k (cA L)=cA (L.take k):=by simp[List.map_take]
 rw[PK];refine aJ c59 ?_;simp only[go_sem,i59,hk,hs6,hdr];refine mX (id:=3776064192) (bytes:=48) grown.nil (xs:=cA (L.drop k)) (rd:=[]) rfl (.inr (szL _)) (by simp;omega) fun c1 aao r w g1 hb1 hw=>?_;rw[aaZ] at g1;simp only[go_sem,hk,hs6,htk];refine mX (bytes:=48) g1 (xs:=cA (L.take k)) (rd:=[]) rfl (.inr (szL _)) (by simp;omega) fun c2 aal r2 w2 g2 hb2 hw2=>?_;simp only[go_sem];refine⟨?_,fA g2⟩;rcases hw with ⟨rfl,rfl⟩|⟨rfl,rfl⟩|⟨rfl,rfl⟩<;>rcases hw2 with ⟨rfl,rfl⟩|⟨rfl,rfl⟩|⟨rfl,rfl⟩<;>kernel_rfl

theorem l8{S:Sys}{f:Nat}{fn:cX}{args:List V}{P:RV->Prop}(hp:S.prim f args=none)(hf:S.fns f=some fn)(hl:args.length<=fn.ntmps)
  (h:W S .all fn.body (lh .all fn.results fun v blk=>∃r,P r/\fH blk v=some r) (qd args) qG):∃r,P r/\aP S f args r:=by
 obtain⟨n,v,aaf,h1,r,h3,h2⟩:=RR h;refine⟨r,h3,n+1,?_⟩;rw[de];simp only[hp,hf,hl,if_true];unfold Fi;simp only[h1,h2]
theorem I6{l:List Let}(hne:l≠[])(hl:l.length<=1000000):aP S 39 [.one (.p (eB l))] (.one (ah iM 6 (cA l))):=by
 have hs:((cA l).all fun e=>e.length==6)=true:=szL l;have hr:(0+(cA l).length)*48<=room:=by unfold room;rw[aau];omega
 show aP S _ [.one (.p (.sl (cA l)))] _;obtain⟨e0,es,hq⟩:∃e0 es,cA l=e0::es:=by cases l with
  |nil=>exact absurd rfl hne
  |cons a t=>exact⟨_,_,rfl⟩
 rw[hq] at hs hr ⊢;refine aJ c39 ?_;have hne:e0::es≠[]:=by simp
 have hgr:ah iM 6 (e0::es)=.own iM 6 (e0::es):=if_neg hne;rw[hgr];unfold room at hr;simp only[abd,aaz] at hr;simp only[abu] at hs;simp only[go_sem,i39,aF,gQ];simp only[hs,hr,not_true_eq_false,if_true,if_false];simp only[go_sem];exact t8 jy rfl
abbrev YJ(M:List (Int×Int)):List (PV×List PV):=M.map fun e=>(PV.int .i64 e.1,[PV.int .i64 e.2])
def Zz:List (Int×Int)->Int->Nat->Option (Nat×Int)
 |[],_,_=>none
 |(a,v)::r,x,i=>if x==a then some (i,v) else Zz r x (i+1)
theorem Gn(M:List (Int×Int))(x:Int):∀i,iG (.int .i64 x) (YJ M) i=some ((Zz M x i).map fun p=>(p.1,[PV.int .i64 p.2])):=by
 induction M with
 |nil=>intro i;rfl
 |cons e M ih=>
  intro i;obtain⟨a,v⟩:=e;show iG (.int .i64 x) ((PV.int .i64 a,[PV.int .i64 v])::YJ M) i=_;unfold iG;have hs:sameKey (.int .i64 x) (.int .i64 a)=some (x==a):=by simp[sameKey]
  rw[hs];unfold Zz;cases (x==a) with
  |true=>rfl
  |false=>exact ih (i+1)
theorem Ki(M:List (Int×Int))(x v:Int):YJ M++[(PV.int .i64 x,[PV.int .i64 v])]=YJ (M++[(x,v)]):=by simp
theorem FR(l:List Let)(k:Nat)(p:Let):(cA l).set k p.ps=cA (l.set k p):=by simp[List.map_set]
theorem YM{e:List PV}(h:e.length=6):∃x0 x1 x2 x3 x4 x5,e=[x0,x1,x2,x3,x4,x5]:=by
 match e,h with
 |[x0,x1,x2,x3,x4,x5],_=>exact⟨_,_,_,_,_,_,rfl⟩
theorem OJ{al:Al}{blk:aw}{id:Nat}{es:List (List PV)}{c:C}(o:es=[]\/al.ok id=true)(hl:es.length<=1000000)(hes:∀e∈es,e.length=6/\ ∀v∈e,v.norm=v)(h:grown id ty 6 es (.one c) blk):
  ∃v aaf,nQ S 74 [.one c] al blk v aaf/\s0 id ty 6 es c blk v aaf:=by
 refine dO c74 (aaW rfl) ?_;rcases h with ⟨rfl,h2⟩|⟨hne,g,h2,hC⟩
 .cases h2;have w0:IntKind.i64.wrap (((0:Nat):Int)-1)= -1:=by decide
  have hz:¬((0:Int)< -1):=by decide
  simp only[go_sem,i74,w0];refine aV (fun k env aaf=>k=0/\env 2=vi 0/\env 3=vi (-1)/\aaf=blk) 0 0 (aaj _) ?_ ?_
  .simp only[go_sem]
  rintro k env aaf _ ⟨rfl,h2,h3,rfl⟩
  simp only[go_sem,i74_l1,h2,h3,hz];exact⟨rfl,.inl ⟨rfl,rfl⟩,fun _ _=>rfl⟩
 cases h2;have o:=o.resolve_left hne;have w0:=iJ (a:=es.length) (by omega);simp only[go_sem,i74,w0];refine aV (fun k env aaf=>env 0=.one (.hsl id g 6 0 es.length)/\env 2=vi k/\env 3=vi ((es.length:Int)-1-(k:Int))/\ ∃fs,aaf id=(g,some (.arr ty 6 fs))/\LR es fs k/\Kept (· =id) blk aaf) 0 es.length (aan _) ?_ ?_
 .simp only[go_sem];refine⟨rfl,by simp,es,hC,LR.start es,Kept.refl _ _⟩
 rintro k env aaf hk ⟨h0,h2,h3,fs,hF,hI,hkp⟩
 by_cases hlt:k<es.length-1-k
 .have e1:((es.length:Int)-1-(k:Int))=((es.length-1-k:Nat):Int):=by omega
  rw[e1] at h3;have aak:((k:Int)<((es.length-1-k:Nat):Int)):=by omega
  have w1:=ak (n:=k) (by omega);have w2:IntKind.i64.wrap (((es.length-1-k:Nat):Int)-1)=((es.length:Int)-1-((k+1:Nat):Int)):=by rw[iJ (by omega)];omega
  obtain⟨a,ha⟩:=ao (show k<es.length by omega);obtain⟨b,hb⟩:=ao (show es.length-1-k<es.length by omega);obtain⟨fa,fb,hI2⟩:=hI.step hlt ha hb;obtain⟨la,na⟩:=hes a (aae ha);obtain⟨lb,nb⟩:=hes b (aae hb);obtain⟨x0,x1,x2,x3,x4,x5,rfl⟩:=YM la;obtain⟨y0,y1,y2,y3,y4,y5,rfl⟩:=YM lb;have agL:=na x0 (by simp);have akP:=na x1 (by simp);have aqJ:=na x2 (by simp);have aqI:=na x3 (by simp);have aqH:=na x4 (by simp);have aqG:=na x5 (by simp);have agK:=nb y0 (by simp);have akO:=nb y1 (by simp);have aqF:=nb y2 (by simp);have aqE:=nb y3 (by simp);have aqD:=nb y4 (by simp);have aqC:=nb y5 (by simp);have hfl:=hI.len;have hkj:¬(k=es.length-1-k):=by omega
  have anC:¬(es.length-1-k=k):=by omega
  have l1:k<fs.length:=by omega
  have l2:es.length-1-k<fs.length:=by omega
  have l3:k<es.length:=by omega
  have l4:es.length-1-k<es.length:=by omega
  simp only[go_sem,i74_l1,h0,h2,h3,hF,aak,fa,fb,w1,w2,o,l1,l3,l4,hkj,agL,akP,aqJ,aqI,aqH,aqG,agK,akO,aqF,aqE,aqD,aqC,abI];refine⟨aK,_,rfl,hI2,?_⟩;exact(hkp.fY rfl _).fY rfl _
 have aak:¬((k:Int)<(es.length:Int)-1-(k:Int)):=by omega
 simp only[go_sem,i74_l1,h2,h3,aak];refine⟨rfl,?_,hkp⟩;rw[hI.done hlt] at hF;exact .inr ⟨by simpa using hne,g,by rw[ab2],hF⟩
theorem PH(l:List Let):∀e∈cA l,e.length=6/\ ∀v∈e,v.norm=v:=fun e he=>by obtain⟨x,_,rfl⟩:=aaF.1 he;refine⟨rfl,fun v hv=>?_⟩;simp only[Let.ps,aat,aa9,or_false] at hv;rcases hv with rfl|rfl|rfl|rfl|rfl|rfl<;>rfl
theorem PI(l:List Let):(cA l).reverse=cA l.reverse:=by simp
theorem DI{s:Nat}(h:s/64000000=40):S.lone s=true:=by show FJ Vw (s/64000000)=true;rw[h];kernel_rfl
theorem jE{blk:aw}{s:Nat}{L:List Let}(hne:L≠[])(hs:S.lone s=true):land blk [] s ((RV.one (ah iM 6 (cA L))).bn (S.lone s))=some (.one (.p (eB L)),[]):=by rw[hs,ID (TX hne)];unfold land;rw[if_pos (.inl rfl)];rfl

abbrev dw:Prop:=aP S 39 [.one (.p (.sl []))] (.one (.p (.sl [])))
theorem revE{al:Al}{blk:aw}:∃v aaf,nQ S 74 [.one (.p (.sl []))] al blk v aaf/\(v=.tup []/\aaf=blk):=by
 refine dO c74 (aaW rfl) ?_;have w0:IntKind.i64.wrap (((0:Nat):Int)-1)= -1:=by decide
 have hz:¬((0:Int)< -1):=by decide
 simp only[go_sem,i74,w0];refine aV (fun k env aaf=>k=0/\env 2=vi 0/\env 3=vi (-1)/\aaf=blk) 0 0 (aaj _) ?_ ?_
 .simp only[go_sem]
 rintro k env aaf _ ⟨rfl,h2,h3,rfl⟩
 simp only[go_sem,i74_l1,h2,h3,hz]
theorem Iq{blk:aw}{s:Nat}{x:PV}{l:Bool}:land blk [] s ((RV.one (.p x)).bn l)=some (.one (.p x),[]):=by cases l<;>rfl
theorem XN(hcl:dw)(F:Int):aP S 57 [.one (.p (QP F))] (.one (.p (.sl []))):=by
 refine aJ c57 ?_;simp only[go_sem,i57,s39,aq hcl Iq,s74];refine gb (P:=fun v aaf=>v=.tup []/\aaf=qG) fy revE ?_;rintro v aaf ⟨rfl,rfl⟩
 simp only[go_sem];refine aV (fun k env blk=>k=0/\env 3=.one (.p (.sl []))/\env 15=vi 0/\env 16=vi 0) 0 0 (aaj _) ?_ ?_
 .simp only[go_sem];rfl
 rintro k env blk _ ⟨rfl,h3,h15,h16⟩
 have hz:¬((0:Int)<0):=by decide
 simp only[go_sem,i57_l1,i57_r2,h3,h15,h16,hz]
theorem Pi(hcl:dw)(F:Int):aP S 40 [.one (.p (QP F))] (.agg [.p (.int .i64 F),.p .nils]):=by
 have pb:=XN hcl F;refine aJ c40 ?_;simp only[go_sem,i40,s57,r9 pb Iq];refine⟨aK,?_⟩;refine aV (fun k env blk=>env 0=.one (.p (QP F))/\env 2=.one (.aam 2560000000 1 0)/\env 17=.one (.hsl 2560128448 1 1 0 2)/\env 18=vi 2/\env 19=vi k/\env 3=.one (.p .nils)/\
  blk 2560000000=(1,some (.var [.p (.int .i64 0),.p .nils]))/\blk 2560128448=(1,some (.arr 22 1 [[.sl []],[.sl []]]))) 0 2 (aan _) ?_ ?_
 .simp only[go_sem];first|done|rfl|exact⟨rfl,rfl⟩
 rintro k env blk hk ⟨h0,h2,h17,h18,h19,h3,b0,bB⟩
 by_cases hlt:k<2
 .have akY:k=0\/k=1:=by omega
  have l02:((0:Nat):Int)<2:=by decide
  have l12:((1:Nat):Int)<2:=by decide
  have hz:¬((0:Int)<0):=by decide
  rcases akY with rfl|rfl
  .simp only[go_sem,i40_l3,h17,h18,h19,bB,l02];refine aV (fun i aah aaf=>i=0/\aaf=blk/\aah 0=env 0/\aah 2=env 2/\aah 17=env 17/\aah 18=env 18/\aah 19=env 19/\aah 3=env 3/\aah 24=vi 0/\aah 25=vi 0) 0 0 (aaj _) ?_ ?_
   .simp only[go_sem];first|done|rfl|exact⟨rfl,rfl⟩
   rintro i aah aaf _ ⟨rfl,rfl,e0,e2,e17,e18,e19,e3,e24,e25⟩
   simp only[go_sem,i40_l1,i40_r2,e0,e2,e17,e18,e19,e3,e24,e25,h0,h2,h3,h17,h18,h19,b0,bB,hz];first|done|rfl|exact⟨rfl,rfl⟩
  simp only[go_sem,i40_l3,h17,h18,h19,bB,l12];refine aV (fun i aah aaf=>i=0/\aaf=blk/\aah 0=env 0/\aah 2=env 2/\aah 17=env 17/\aah 18=env 18/\aah 19=env 19/\aah 3=env 3/\aah 24=vi 0/\aah 25=vi 0) 0 0 (aaj _) ?_ ?_
  .simp only[go_sem];first|done|rfl|exact⟨rfl,rfl⟩
  rintro i aah aaf _ ⟨rfl,rfl,e0,e2,e17,e18,e19,e3,e24,e25⟩
  simp only[go_sem,i40_l1,i40_r2,e0,e2,e17,e18,e19,e3,e24,e25,h0,h2,h3,h17,h18,h19,b0,bB,hz];first|done|rfl|exact⟨rfl,rfl⟩
 have:k=2:=by omega
 subst this;have l22:¬(((2:Nat):Int)<2):=by decide
 simp only[go_sem,i40_l3,i40_r4,h0,h2,h3,h18,h19,b0,l22];first|done|rfl|exact⟨rfl,rfl⟩
theorem Q0:dw:=⟨1,by kernel_rfl⟩
theorem T1{blk:aw}{s:Nat}{x c:PV}{l:Bool}:land blk [] s ((RV.agg [.p x,.p c]).bn l)=some (.agg [.p x,.p c],[]):=by cases l<;>rfl
theorem PL(x y:Let):leq x y=true↔x=y:=by
 constructor
 .intro h;unfold leq at h;simp only[aay,beq_iff_eq] at h;obtain⟨h1,h2,h3,h4,h5,h6⟩:=h;cases x;cases y;simp only at h1 h2 h3 h4 h5 h6;subst h1 h2 h3 h4 h5 h6;rfl
 rintro rfl;exact lQ x
theorem PG{A B:List Let}(hAB:A.length=B.length)(h:∀j,j<A.length->leq (lA A j) (lA B j)=true):A=B:=by
 apply adk;intro j;by_cases hj:j<A.length
 .rw[mv hj,mv (ls:=B) (i:=j) (by omega),(PL _ _).1 (h j hj)]
 rw[abS (by omega),abS (by omega)]
theorem ZG(A B:List Let)(hl:A.length<=1000000)(hl2:B.length<=1000000):aP S 35 [.one (.p (eB A)),.one (.p (eB B))] (rb (decide (A=B))):=by
 by_cases hAB:A.length=B.length
 .have alc:((A.length:Int)==(B.length:Int))=true:=by rw[hAB];simp
  generalize hr:decide (A=B)=r;refine aJ c35 ?_;simp only[go_sem,i35,alc,bne];refine aV (fun k env blk=>env 0=.one (.p (eB A))/\env 1=.one (.p (eB B))/\env 12=vi A.length/\env 13=vi k/\ ∀j,j<k->leq (lA A j) (lA B j)=true) 0 A.length (aan _) ?_ ?_
  .simp only[go_sem];exact⟨rfl,fun j h=>absurd h (abW j)⟩
  rintro k env blk hk ⟨h0,h1,h12,h13,hn⟩
  by_cases hlt:k<A.length
  .have hx:=mv hlt;have hy:=mv (ls:=B) (i:=k) (by omega);have hxi:=fQ hx;have hyi:=fQ hy;have aak:(k:Int)<(A.length:Int):=by omega
   have w1:=ak (n:=k) (by omega);have hlB:k<B.length:=by omega
   cases he:leq (lA A k) (lA B k) with
   |true=>
    have hn':∀j,j<k+1->leq (lA A j) (lA B j)=true:=fun j hj=>by
     rcases abC.1 hj with h|rfl
     .exact hn j h
     exact he
    simp only[go_sem,i35_l1,h0,h1,h12,h13,hxi,hyi,Let.ps,aak,hlt,w1,D0,he];exact⟨aK,hn'⟩
   |false=>
    have hne:A≠B:=fun e=>by subst e;rw[lQ] at he;cases he
    rw[decide_eq_false hne] at hr;subst hr;simp only[go_sem,i35_l1,h0,h1,h12,h13,hxi,hyi,Let.ps,aak,D0,he];exact aK
  have:k=A.length:=by omega
  subst this;have he:A=B:=PG hAB hn;rw[decide_eq_true he] at hr;subst hr;simp only[go_sem,i35_l1,i35_r2,h12,h13,aS]
 have alc:((A.length:Int)==(B.length:Int))=false:=by rw[beq_eq_false_iff_ne];omega
 have hne:A≠B:=fun e=>hAB (by rw[e]);rw[decide_eq_false hne];refine aJ c35 ?_;simp only[go_sem,i35,alc,bne]
theorem jO{blk:aw}{s:Nat}{x c e:PV}{l:Bool}:land blk [] s ((RV.tup [.agg [.p x,.p c],.one (.p e)]).bn l)=some (.tup [.agg [.p x,.p c],.one (.p e)],[]):=by cases l<;>rfl

structure bU where
 k:Int
 a:Int
 b:Int
 c:Int
 l:Bool
 o:Bool
 s:Int
def bU.ps(m:bU):List PV:=[.int .i64 m.k,.int .i64 m.a,.int .i64 m.b,.int .i64 m.c,.bool m.l,.bool m.o,.int .i64 m.s]
abbrev fN(ms:List bU):PV:=.sl (ms.map bU.ps)
theorem qH{ms:List bU}{k:Nat}{m:bU}(h:ms[k]?=some m):(ms.map bU.ps)[k]?=some m.ps:=by rw[aa0,h];rfl
def wS(L:List Let)(c:C)(blk:aw):Prop:=grown 2176256128 iM 6 (cA L) (.one c) blk\/grown 2176512129 iM 6 (cA L) (.one c) blk\/(L=[]/\c=.p (.sl []))
theorem wS.snap{L:List Let}{c:C}{blk:aw}(h:wS L c blk):∃r,Go.Abs.snap blk cG c=some (eB L,r):=by
 rcases h with h|h|⟨rfl,rfl⟩
 .obtain⟨r,h1,_⟩:=h.cG;exact⟨r,h1⟩
 .obtain⟨r,h1,_⟩:=h.cG;exact⟨r,h1⟩
 exact⟨[],rfl⟩
theorem y7{s1 t1 z1:Nat}{es:List (List PV)}{c:C}{x y z:PV}{blk:aw}(h:grown s1 t1 z1 es (.one c) blk):fH blk (.tup [.agg [.p x,c],.one (.p y),.one (.p z)])=some (.tup [.agg [.p x,ah t1 z1 es],.one (.p y),.one (.p z)]):=by obtain⟨c',o,hc,h2,h3⟩:=h.fR;cases hc;have e1:fR blk (.p x)=some (.p x,[],[]):=rfl;have e2:fR blk (.p y)=some (.p y,[],[]):=rfl;have e3:fR blk (.p z)=some (.p z,[],[]):=rfl;rcases h3 with rfl|rfl<;>simp[fH,jv,ii,ef,fJ,h2,e1,e2,e3,apart,kN,fL,kx]
theorem wS.of_eq{L:List Let}{c:C}{blk aaf:aw}(h:wS L c blk)(h1:aaf 2176256128=blk 2176256128)(h2:aaf 2176512129=blk 2176512129):wS L c aaf:=by
 rcases h with h|h|h
 .exact .inl (h.of_eq h1)
 .exact .inr (.inl (h.of_eq h2))
 exact .inr (.inr h)
theorem yP{blk:aw}{rd:List Nat}{s:Nat}{e:Int}{l:Bool}:land blk rd s ((gE e).bn l)=some (.tup [.agg [.p (.int .i64 0),.p .nils],.one (.p (.int .i64 e))],[]):=by cases l<;>(unfold land;rw[if_pos (.inr rfl)];rfl)
def Yv(f:Int)(L:List Let)(n:Int)(r:RV):Prop:=r=.tup [.agg [.p (.int .i64 f),ah iM 6 (cA L)],.one (.p (.int .i64 n)),.one (.p (.int .i64 0))]\/(L=[]/\r=.tup [.agg [.p (.int .i64 f),.p (.sl [])],.one (.p (.int .i64 n)),.one (.p (.int .i64 0))])
def Yw(r:RV):Prop:= ∃i e:Int,e≠0/\r=.tup [.agg [.p (.int .i64 0),.p .nils],.one (.p (.int .i64 i)),.one (.p (.int .i64 e))]
def isN(r:RV):Prop:= ∃i:Int,r=ri i
abbrev pR(m:bU):V:=rQ m.k m.a m.b m.c m.l m.o m.s
section
variable {Q:cU} {env:Env} {blk:aw} {os:List aj} {d:Option Nat}
theorem Xm{f:Nat}{vs:List V}{s ty z:Nat}{es:List (List PV)}{x y w:PV}(hp:aP S f vs (.tup [.agg [.p x,ah ty z es],.one (.p y),.one (.p w)]))(hlo:S.lone s=false)
  (hK:∀(c:C) aaf,grown (s+1) ty z es (.one c) aaf->(∀i,i≠s+1->aaf i=blk i)->RN S .all os Q (put env d (.tup [.agg [.p x,c],.one (.p y),.one (.p w)])) aaf):gP S .all (.pc f vs [] s) d os Q env blk:=by
 obtain⟨h1,h2,_⟩:=cD (blk:=blk) (s:=s+1) (ty:=ty) (z:=z) (es:=es);refine(aq (v:=.tup [.agg [.p x,(dY blk (s+1) (ah ty z es)).1],.one (.p y),.one (.p w)]) (u:=(dY blk (s+1) (ah ty z es)).2) hp ?_).2 (hK _ _ h1 h2);rw[hlo,bl];unfold land;rw[if_pos (.inl rfl)];simp[rV,dp,dJ,bQ,gA,iR,fg,dM,dY]
end
theorem BZ{blk:aw}{s:Nat}{x c y w:PV}{l:Bool}:land blk [] s ((RV.tup [.agg [.p x,.p c],.one (.p y),.one (.p w)]).bn l)=some (.tup [.agg [.p x,.p c],.one (.p y),.one (.p w)],[]):=by cases l<;>rfl
abbrev YS:RV:=.tup [.agg [.p (.int .i64 0),.p .nils],.one (.p (.bool false))]
def YR(f:Int):Option (Bool×List Let)->RV
 |none=>YS
 |some (false,L)=>.tup [.agg [.p (.int .i64 f),ah iM 6 (cA L)],.one (.p (.bool true))]
 |some (true,_)=>.tup [.agg [.p (.int .i64 f),.p (.sl [])],.one (.p (.bool true))]
theorem BY{blk:aw}{rd:List Nat}{s:Nat}{b:Bool}{e:Int}{l:Bool}:land blk rd s ((tS (.bool b) (.int .i64 e)).bn l)=some (.tup [.one (.p (.bool b)),.one (.p (.int .i64 e))],[]):=by cases l<;>(unfold land;rw[if_pos (.inr rfl)];rfl)
theorem qL{blk:aw}{s:Nat}{x c y:PV}{l:Bool}:land blk [] s ((RV.tup [.agg [.p x,.p c],.one (.p y)]).bn l)=some (.tup [.agg [.p x,.p c],.one (.p y)],[]):=by cases l<;>rfl
def qZ(s:Nat)(L:List Let)(c:C)(blk:aw):Prop:=grown s iM 6 (cA L) (.one c) blk\/(L=[]/\c=.p (.sl []))
theorem qZ.snap{s:Nat}{L:List Let}{c:C}{blk:aw}(h:qZ s L c blk):∃r,Go.Abs.snap blk cG c=some (eB L,r):=by
 rcases h with h|⟨rfl,rfl⟩
 .obtain⟨r,h1,_⟩:=h.cG;exact⟨r,h1⟩
 exact⟨[],rfl⟩
theorem qZ.of_eq{s:Nat}{L:List Let}{c:C}{blk aaf:aw}(h:qZ s L c blk)(h1:aaf s=blk s):qZ s L c aaf:=by
 rcases h with h|h
 .exact .inl (h.of_eq h1)
 exact .inr h
section
variable {Q:cU} {env:Env} {blk:aw} {os:List aj} {d:Option Nat}
theorem DR{vs:List V}{s:Nat}{f:Int}{b:Bool}{L:List Let}(hp:aP S 18 vs (YR f (some (b,L))))(hb:b=true->L=[])(hlo:S.lone s=false)
  (hK:∀(c:C) aaf,qZ (s+1) L c aaf->(∀i,i≠s+1->aaf i=blk i)->RN S .all os Q (put env d (.tup [.agg [.p (.int .i64 f),c],.one (.p (.bool true))])) aaf):gP S .all (.pc 18 vs [] s) d os Q env blk:=by
 cases b with
 |false=>exact KA hp hlo fun c aaf gc h=>hK c aaf (.inl gc) h
 |true=>obtain rfl:=hb rfl;exact(aq hp qL).2 (hK _ _ (.inr ⟨rfl,rfl⟩) fun _ _=>rfl)
end
abbrev jnV(p q:List bU):V:=.agg [.p (fN p),.p (fN q)]
end
end Go.Abs
