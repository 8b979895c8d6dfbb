/- A part. -/
import Derived.Test.YtniibcmpbldbcaaGreatDoorWw
set_option linter.all false
set_option maxRecDepth 100000
set_option maxHeartbeats 16000000
namespace Go.Abs
section
variable{ls:List Let}{F:Nat}







section
attribute [local go_sem ↓] fm1 fm2
def bl(F:Nat)(ls:List Let)(k a b c:Int)(l o:Bool)(sg:Int):Bool:=
 if k=2 then !l&&(!o&&(sg==0&&((jD ls.length a||(ls.length==0&&a==0))&&(decide (0<=b)&&(decide (b<=(F:Int))&&(decide (0<=c)&&decide (c<=(cg ls b.toNat:Int))))))))
 else if k=3\/k=6 then !l&&(!o&&(sg==0&&(jD ls.length a&&(c==0&&(jD ls.length b&&decide (a<b))))))
 else if k=5 then !l&&((sg==1||sg== -1)&&(jD ls.length a&&(b==0&&c==0)))
 else if k=7 then sg==0&&(jD ls.length a&&(c==0&&(jD ls.length b&& !(a==b))))
 else if k=8 then !l&&(!o&&(sg==0&&(jD ls.length a&&(jD ls.length b&&(jD ls.length c&&(decide (a<b)&&decide (b<c)))))))
 else if k=1\/k=4\/k=9\/k=10 then !l&&(!o&&(sg==0&&(jD ls.length a&&(b==0&&c==0))))
 else false
theorem jX{i:Int}{x:Bool}(h:jD ls.length i=x):aH S 67 [vi i,.one (.p (.box [.int .i64 ls.length]))] (rb x):=h▸abH i ls.length
theorem jt{x:Int}(h:¬x=0):(x==0)=false/\(x !=0)=true:=by simp[h]
theorem wg{x y:Int}(h:¬x=y):(x==y)=false/\(x !=y)=true:=by simp[h]
section
variable {F:Nat} {ls:List Let} {a b c:Int} {l o:Bool} {sg:Int}
theorem agt:aH S 43 [.one (.p (dj F ls)),gK 1 a b c l o sg] (rb (bl F ls 1 a b c l o sg)):=by
 obtain⟨v,hv⟩:∃v,bl F ls 1 a b c l o sg=v:=⟨_,rfl⟩;rw[hv];refine ba c43 ?_;simp only[go_sem,i43,eW];refine eJ [0,3,4,5,6,7,8,9,10,41] fun e1 dL=>?_;simp only[go_sem] at dL;cases l with
 |true=>
  obtain rfl:v=false:=by rw[<- hv];simp[bl]
  simp only[go_sem,dL]
 |false=>
  simp only[go_sem,dL];refine eJ [0,3,4,5,6,7,8,9,10,53] fun e2 dE=>?_;simp only[go_sem,dL] at dE;cases o with
  |true=>
   obtain rfl:v=false:=by rw[<- hv];simp[bl]
   simp only[go_sem,dE]
  |false=>
   simp only[go_sem,dE];refine eJ [0,3,4,5,6,7,8,9,10,60] fun e3 dq=>?_;simp only[go_sem,dE] at dq;by_cases hs:sg=0
   rotate_left
   .have fL:=(jt hs).1;have eH:=(jt hs).2;obtain rfl:v=false:=by rw[<- hv];simp[bl,hs]
    simp only[go_sem,dq,eH]
   subst hs;cases hA:jD ls.length a with
   |false=>
    have pA:=jX hA;obtain rfl:v=false:=by rw[<- hv];simp[bl,hA]
    simp only[go_sem,s67,dq,cH pA]
   |true=>
    have pA:=jX hA;simp only[go_sem,s67,dq,cH pA];refine eJ [3,4,6,7,9,133] fun e4 eh=>?_;simp only[go_sem,dq] at eh;by_cases hb:b=0
    rotate_left
    .have aR:=(jt hb).2;obtain rfl:v=false:=by rw[<- hv];simp[bl,hA,hb]
     simp only[go_sem,eh,aR]
    subst hb;simp only[go_sem,eh];refine eJ [3,4,6,7,9,142] fun e5 jJ=>?_;simp only[go_sem,eh] at jJ;by_cases hc:c=0
    rotate_left
    .have fG:=(jt hc).2;obtain rfl:v=false:=by rw[<- hv];simp[bl,hA,hc]
     simp only[go_sem,jJ,fG]
    subst hc;obtain rfl:v=true:=by rw[<- hv];simp[bl,hA]
    simp only[go_sem,jJ]
theorem agu:aH S 43 [.one (.p (dj F ls)),gK 2 a b c l o sg] (rb (bl F ls 2 a b c l o sg)):=by
 obtain⟨v,hv⟩:∃v,bl F ls 2 a b c l o sg=v:=⟨_,rfl⟩;rw[hv];refine ba c43 ?_;simp only[go_sem,i43,eW];refine eJ [0,3,4,5,6,7,8,9,10,41] fun e1 dL=>?_;simp only[go_sem] at dL;cases l with
 |true=>
  obtain rfl:v=false:=by rw[<- hv];simp[bl]
  simp only[go_sem,dL]
 |false=>
  simp only[go_sem,dL];refine eJ [0,3,4,5,6,7,8,9,10,53] fun e2 dE=>?_;simp only[go_sem,dL] at dE;cases o with
  |true=>
   obtain rfl:v=false:=by rw[<- hv];simp[bl]
   simp only[go_sem,dE]
  |false=>
   simp only[go_sem,dE];refine eJ [0,3,4,5,6,7,8,9,10,60] fun e3 dq=>?_;simp only[go_sem,dE] at dq;by_cases hs:sg=0
   rotate_left
   .have fL:=(jt hs).1;have eH:=(jt hs).2;obtain rfl:v=false:=by rw[<- hv];simp[bl,hs]
    simp only[go_sem,dq,eH]
   subst hs;cases hA:jD ls.length a with
   |true=>
    have pA:=jX hA;simp only[go_sem,s67,dq,mZ pA];refine rO [0,3,4,6,7,9,92] fun e4 eh=>?_;simp only[go_sem,dq] at eh;by_cases sT:0<=b
    rotate_left
    .obtain rfl:v=false:=by rw[<- hv];simp[bl,hA,sT]
     simp only[go_sem,eh,sT];exact aD
    simp only[go_sem,eh,sT];refine rO [0,3,4,6,7,9,101] fun e5 jJ=>?_;simp only[go_sem,eh] at jJ;by_cases uH:b<=(F:Int)
    rotate_left
    .obtain rfl:v=false:=by rw[<- hv];simp[bl,hA,sT,uH]
     simp only[go_sem,jJ,uH];exact aD
    obtain⟨B,rfl⟩:=oL sT;have hBF:B<=F:=aa;have qt:=iA (FI (ls:=ls) hBF);have h5:B<F+1:=aa;have h6:(counts ls F).length=F+1:=by simp[counts]
    simp only[go_sem,jJ,uH];refine rO [0,3,4,6,7,9,106] fun e6 Ed=>?_;simp only[go_sem,jJ] at Ed;by_cases wI:0<=c
    rotate_left
    .obtain rfl:v=false:=by rw[<- hv];simp[bl,hA,sT,uH,wI]
     simp only[go_sem,Ed,wI];exact aD
    by_cases xR:c<=(cg ls B:Int)
    rotate_left
    .obtain rfl:v=false:=by rw[<- hv];simp[bl,hA,sT,uH,wI,xR]
     simp only[go_sem,qt,Ed,wI,xR];exact aD
    obtain rfl:v=true:=by rw[<- hv];simp[bl,hA,sT,uH,wI,xR]
    simp only[go_sem,qt,Ed,wI,xR];exact aD
   |false=>
    have pA:=jX hA;by_cases hn:ls.length=0
    rotate_left
    .have tV:((ls.length:Int)==0)=false:=beq_false_of_ne aa;have Mk:ls≠[]:=fun h=>hn (by rw[h];rfl);obtain rfl:v=false:=by rw[<- hv];simp[bl,hA,hn]
     simp only[go_sem,s67,dq,mZ pA,tV];exact aD
    have tV:((ls.length:Int)==0)=true:=by rw[hn];rfl
    have Mk:=Hg.mp hn;by_cases ha:a=0
    rotate_left
    .have xS:=(jt ha).1;obtain rfl:v=false:=by rw[<- hv];simp[bl,Mk,ha,show jD 0 a=false by rw[<- hn];exact hA]
     simp only[go_sem,s67,dq,mZ pA,tV,xS];exact aD
    subst ha;simp only[go_sem,s67,dq,mZ pA,tV];refine rO [0,3,4,6,7,9,92] fun e7 hh7=>?_;simp only[go_sem,dq] at hh7;by_cases sT:0<=b
    rotate_left
    .obtain rfl:v=false:=by rw[<- hv];simp[bl,hn,sT]
     simp only[go_sem,hh7,sT];exact aD
    simp only[go_sem,hh7,sT];refine rO [0,3,4,6,7,9,101] fun e8 hh8=>?_;simp only[go_sem,hh7] at hh8;by_cases uH:b<=(F:Int)
    rotate_left
    .obtain rfl:v=false:=by rw[<- hv];simp[bl,hn,sT,uH]
     simp only[go_sem,hh8,uH];exact aD
    obtain⟨B,rfl⟩:=oL sT;have hBF:B<=F:=aa;have qt:=iA (FI (ls:=ls) hBF);have h5:B<F+1:=aa;have h6:(counts ls F).length=F+1:=by simp[counts]
    simp only[go_sem,hh8,uH];refine rO [0,3,4,6,7,9,106] fun e9 hh9=>?_;simp only[go_sem,hh8] at hh9;by_cases wI:0<=c
    rotate_left
    .obtain rfl:v=false:=by rw[<- hv];simp[bl,hn,sT,uH,wI]
     simp only[go_sem,hh9,wI];exact aD
    by_cases xR:c<=(cg ls B:Int)
    rotate_left
    .obtain rfl:v=false:=by rw[<- hv];simp[bl,hn,sT,uH,wI,xR]
     simp only[go_sem,qt,hh9,wI,xR];exact aD
    obtain rfl:v=true:=by rw[<- hv];simp[bl,hn,sT,uH,wI,xR]
    simp only[go_sem,qt,hh9,wI,xR];exact aD
theorem agv:aH S 43 [.one (.p (dj F ls)),gK 3 a b c l o sg] (rb (bl F ls 3 a b c l o sg)):=by
 obtain⟨v,hv⟩:∃v,bl F ls 3 a b c l o sg=v:=⟨_,rfl⟩;rw[hv];refine ba c43 ?_;simp only[go_sem,i43,eW];refine eJ [0,3,4,5,6,7,8,9,10,41] fun e1 dL=>?_;simp only[go_sem] at dL;cases l with
 |true=>
  obtain rfl:v=false:=by rw[<- hv];simp[bl]
  simp only[go_sem,dL]
 |false=>
  simp only[go_sem,dL];refine eJ [0,3,4,5,6,7,8,9,10,53] fun e2 dE=>?_;simp only[go_sem,dL] at dE;cases o with
  |true=>
   obtain rfl:v=false:=by rw[<- hv];simp[bl]
   simp only[go_sem,dE]
  |false=>
   simp only[go_sem,dE];refine eJ [0,3,4,5,6,7,8,9,10,60] fun e3 dq=>?_;simp only[go_sem,dE] at dq;by_cases hs:sg=0
   rotate_left
   .have fL:=(jt hs).1;have eH:=(jt hs).2;obtain rfl:v=false:=by rw[<- hv];simp[bl,hs]
    simp only[go_sem,dq,eH]
   subst hs;cases hA:jD ls.length a with
   |false=>
    have pA:=jX hA;obtain rfl:v=false:=by rw[<- hv];simp[bl,hA]
    simp only[go_sem,s67,dq,cH pA]
   |true=>
    have pA:=jX hA;simp only[go_sem,s67,dq,cH pA];refine eJ [3,4,6,7,9,142] fun e4 eh=>?_;simp only[go_sem,dq] at eh;by_cases hc:c=0
    rotate_left
    .have fG:=(jt hc).2;obtain rfl:v=false:=by rw[<- hv];simp[bl,hA,hc]
     simp only[go_sem,eh,fG]
    subst hc;cases hB:jD ls.length b with
    |false=>
     have pB:=jX hB;obtain rfl:v=false:=by rw[<- hv];simp[bl,hA,hB]
     simp only[go_sem,s67,eh,cH pB]
    |true=>
     have pB:=jX hB;simp only[go_sem,s67,eh,cH pB];refine eJ [3,4,7,172,178] fun e5 jJ=>?_;simp only[go_sem,eh] at jJ;by_cases hl:a<b
     rotate_left
     .obtain rfl:v=false:=by rw[<- hv];simp[bl,hA,hB,hl]
      simp only[go_sem,jJ,hl]
     obtain rfl:v=true:=by rw[<- hv];simp[bl,hA,hB,hl]
     simp only[go_sem,jJ,hl]
theorem agw:aH S 43 [.one (.p (dj F ls)),gK 4 a b c l o sg] (rb (bl F ls 4 a b c l o sg)):=by
 obtain⟨v,hv⟩:∃v,bl F ls 4 a b c l o sg=v:=⟨_,rfl⟩;rw[hv];refine ba c43 ?_;simp only[go_sem,i43,eW];refine eJ [0,3,4,5,6,7,8,9,10,41] fun e1 dL=>?_;simp only[go_sem] at dL;cases l with
 |true=>
  obtain rfl:v=false:=by rw[<- hv];simp[bl]
  simp only[go_sem,dL]
 |false=>
  simp only[go_sem,dL];refine eJ [0,3,4,5,6,7,8,9,10,53] fun e2 dE=>?_;simp only[go_sem,dL] at dE;cases o with
  |true=>
   obtain rfl:v=false:=by rw[<- hv];simp[bl]
   simp only[go_sem,dE]
  |false=>
   simp only[go_sem,dE];refine eJ [0,3,4,5,6,7,8,9,10,60] fun e3 dq=>?_;simp only[go_sem,dE] at dq;by_cases hs:sg=0
   rotate_left
   .have fL:=(jt hs).1;have eH:=(jt hs).2;obtain rfl:v=false:=by rw[<- hv];simp[bl,hs]
    simp only[go_sem,dq,eH]
   subst hs;cases hA:jD ls.length a with
   |false=>
    have pA:=jX hA;obtain rfl:v=false:=by rw[<- hv];simp[bl,hA]
    simp only[go_sem,s67,dq,cH pA]
   |true=>
    have pA:=jX hA;simp only[go_sem,s67,dq,cH pA];refine eJ [3,4,6,7,9,133] fun e4 eh=>?_;simp only[go_sem,dq] at eh;by_cases hb:b=0
    rotate_left
    .have aR:=(jt hb).2;obtain rfl:v=false:=by rw[<- hv];simp[bl,hA,hb]
     simp only[go_sem,eh,aR]
    subst hb;simp only[go_sem,eh];refine eJ [3,4,6,7,9,142] fun e5 jJ=>?_;simp only[go_sem,eh] at jJ;by_cases hc:c=0
    rotate_left
    .have fG:=(jt hc).2;obtain rfl:v=false:=by rw[<- hv];simp[bl,hA,hc]
     simp only[go_sem,jJ,fG]
    subst hc;obtain rfl:v=true:=by rw[<- hv];simp[bl,hA]
    simp only[go_sem,jJ]
theorem agx:aH S 43 [.one (.p (dj F ls)),gK 5 a b c l o sg] (rb (bl F ls 5 a b c l o sg)):=by
 obtain⟨v,hv⟩:∃v,bl F ls 5 a b c l o sg=v:=⟨_,rfl⟩;rw[hv];refine ba c43 ?_;simp only[go_sem,i43,eW];refine eJ [0,3,4,5,6,7,8,9,10,41] fun e1 dL=>?_;simp only[go_sem] at dL;cases l with
 |true=>
  obtain rfl:v=false:=by rw[<- hv];simp[bl]
  simp only[go_sem,dL]
 |false=>
  simp only[go_sem,dL];refine eJ [0,3,4,5,6,7,8,9,10,60] fun e2 dE=>?_;simp only[go_sem,dL] at dE;by_cases q0:sg=0
  .subst q0;obtain rfl:v=false:=by rw[<- hv];simp[bl]
   simp only[go_sem,dE]
  by_cases q1:sg=1
  rotate_left;by_cases q2:sg= -1
  rotate_left
  .have h00:=(jt q0).2;have eF:=(wg q1).2;have lR:=(wg q2).2;obtain rfl:v=false:=by rw[<- hv];simp[bl,q1,q2]
   simp only[go_sem,dE,h00,eF,lR]
  .subst q1;cases hA:jD ls.length a with
   |false=>
    have pA:=jX hA;obtain rfl:v=false:=by rw[<- hv];simp[bl,hA]
    simp only[go_sem,s67,dE,cH pA]
   |true=>
    have pA:=jX hA;simp only[go_sem,s67,dE,cH pA];refine eJ [3,4,6,7,9,133] fun e3 dq=>?_;simp only[go_sem,dE] at dq;by_cases hb:b=0
    rotate_left
    .have aR:=(jt hb).2;obtain rfl:v=false:=by rw[<- hv];simp[bl,hA,hb]
     simp only[go_sem,dq,aR]
    subst hb;simp only[go_sem,dq];refine eJ [3,4,6,7,9,142] fun e4 eh=>?_;simp only[go_sem,dq] at eh;by_cases hc:c=0
    rotate_left
    .have fG:=(jt hc).2;obtain rfl:v=false:=by rw[<- hv];simp[bl,hA,hc]
     simp only[go_sem,eh,fG]
    subst hc;obtain rfl:v=true:=by rw[<- hv];simp[bl,hA]
    simp only[go_sem,eh]
  subst q2;cases hA:jD ls.length a with
  |false=>
   have pA:=jX hA;obtain rfl:v=false:=by rw[<- hv];simp[bl,hA]
   simp only[go_sem,s67,dE,cH pA]
  |true=>
   have pA:=jX hA;simp only[go_sem,s67,dE,cH pA];refine eJ [3,4,6,7,9,133] fun e5 jJ=>?_;simp only[go_sem,dE] at jJ;by_cases hb:b=0
   rotate_left
   .have aR:=(jt hb).2;obtain rfl:v=false:=by rw[<- hv];simp[bl,hA,hb]
    simp only[go_sem,jJ,aR]
   subst hb;simp only[go_sem,jJ];refine eJ [3,4,6,7,9,142] fun e6 Ed=>?_;simp only[go_sem,jJ] at Ed;by_cases hc:c=0
   rotate_left
   .have fG:=(jt hc).2;obtain rfl:v=false:=by rw[<- hv];simp[bl,hA,hc]
    simp only[go_sem,Ed,fG]
   subst hc;obtain rfl:v=true:=by rw[<- hv];simp[bl,hA]
   simp only[go_sem,Ed]
end
end
section
attribute [local go_sem ↓] fm1 fm2
section
variable {F:Nat} {ls:List Let} {a b c:Int} {l o:Bool} {sg:Int}
theorem agy:aH S 43 [.one (.p (dj F ls)),gK 6 a b c l o sg] (rb (bl F ls 6 a b c l o sg)):=by
 obtain⟨v,hv⟩:∃v,bl F ls 6 a b c l o sg=v:=⟨_,rfl⟩;rw[hv];refine ba c43 ?_;simp only[go_sem,i43,eW];refine eJ [0,3,4,5,6,7,8,9,10,41] fun e1 dL=>?_;simp only[go_sem] at dL;cases l with
 |true=>
  obtain rfl:v=false:=by rw[<- hv];simp[bl]
  simp only[go_sem,dL]
 |false=>
  simp only[go_sem,dL];refine eJ [0,3,4,5,6,7,8,9,10,53] fun e2 dE=>?_;simp only[go_sem,dL] at dE;cases o with
  |true=>
   obtain rfl:v=false:=by rw[<- hv];simp[bl]
   simp only[go_sem,dE]
  |false=>
   simp only[go_sem,dE];refine eJ [0,3,4,5,6,7,8,9,10,60] fun e3 dq=>?_;simp only[go_sem,dE] at dq;by_cases hs:sg=0
   rotate_left
   .have fL:=(jt hs).1;have eH:=(jt hs).2;obtain rfl:v=false:=by rw[<- hv];simp[bl,hs]
    simp only[go_sem,dq,eH]
   subst hs;cases hA:jD ls.length a with
   |false=>
    have pA:=jX hA;obtain rfl:v=false:=by rw[<- hv];simp[bl,hA]
    simp only[go_sem,s67,dq,cH pA]
   |true=>
    have pA:=jX hA;simp only[go_sem,s67,dq,cH pA];refine eJ [3,4,6,7,9,142] fun e4 eh=>?_;simp only[go_sem,dq] at eh;by_cases hc:c=0
    rotate_left
    .have fG:=(jt hc).2;obtain rfl:v=false:=by rw[<- hv];simp[bl,hA,hc]
     simp only[go_sem,eh,fG]
    subst hc;cases hB:jD ls.length b with
    |false=>
     have pB:=jX hB;obtain rfl:v=false:=by rw[<- hv];simp[bl,hA,hB]
     simp only[go_sem,s67,eh,cH pB]
    |true=>
     have pB:=jX hB;simp only[go_sem,s67,eh,cH pB];refine eJ [3,4,7,172,178] fun e5 jJ=>?_;simp only[go_sem,eh] at jJ;by_cases hl:a<b
     rotate_left
     .obtain rfl:v=false:=by rw[<- hv];simp[bl,hA,hB,hl]
      simp only[go_sem,jJ,hl]
     obtain rfl:v=true:=by rw[<- hv];simp[bl,hA,hB,hl]
     simp only[go_sem,jJ,hl]
theorem agz:aH S 43 [.one (.p (dj F ls)),gK 7 a b c l o sg] (rb (bl F ls 7 a b c l o sg)):=by
 obtain⟨v,hv⟩:∃v,bl F ls 7 a b c l o sg=v:=⟨_,rfl⟩;rw[hv];refine ba c43 ?_;simp only[go_sem,i43,eW];refine eJ [0,3,4,5,6,7,8,9,10,60] fun e1 dL=>?_;simp only[go_sem] at dL;by_cases hs:sg=0
 rotate_left
 .have fL:=(jt hs).1;have eH:=(jt hs).2;obtain rfl:v=false:=by rw[<- hv];simp[bl,hs]
  simp only[go_sem,dL,eH]
 subst hs;cases hA:jD ls.length a with
 |false=>
  have pA:=jX hA;obtain rfl:v=false:=by rw[<- hv];simp[bl,hA]
  simp only[go_sem,s67,dL,cH pA]
 |true=>
  have pA:=jX hA;simp only[go_sem,s67,dL,cH pA];refine eJ [3,4,6,7,9,142] fun e2 dE=>?_;simp only[go_sem,dL] at dE;by_cases hc:c=0
  rotate_left
  .have fG:=(jt hc).2;obtain rfl:v=false:=by rw[<- hv];simp[bl,hA,hc]
   simp only[go_sem,dE,fG]
  subst hc;cases hB:jD ls.length b with
  |false=>
   have pB:=jX hB;obtain rfl:v=false:=by rw[<- hv];simp[bl,hA,hB]
   simp only[go_sem,s67,dE,cH pB]
  |true=>
   have pB:=jX hB;simp only[go_sem,s67,dE,cH pB];by_cases hn:a=b
   .subst hn;obtain rfl:v=false:=by rw[<- hv];simp[bl,hA]
    simp only[go_sem]
   have il:=(wg hn).2;obtain rfl:v=true:=by rw[<- hv];simp[bl,hA,hB,hn]
   simp only[go_sem,il]
theorem agA:aH S 43 [.one (.p (dj F ls)),gK 8 a b c l o sg] (rb (bl F ls 8 a b c l o sg)):=by
 obtain⟨v,hv⟩:∃v,bl F ls 8 a b c l o sg=v:=⟨_,rfl⟩;rw[hv];refine ba c43 ?_;simp only[go_sem,i43,eW];refine eJ [0,3,4,5,6,7,8,9,10,41] fun e1 dL=>?_;simp only[go_sem] at dL;cases l with
 |true=>
  obtain rfl:v=false:=by rw[<- hv];simp[bl]
  simp only[go_sem,dL]
 |false=>
  simp only[go_sem,dL];refine eJ [0,3,4,5,6,7,8,9,10,53] fun e2 dE=>?_;simp only[go_sem,dL] at dE;cases o with
  |true=>
   obtain rfl:v=false:=by rw[<- hv];simp[bl]
   simp only[go_sem,dE]
  |false=>
   simp only[go_sem,dE];refine eJ [0,3,4,5,6,7,8,9,10,60] fun e3 dq=>?_;simp only[go_sem,dE] at dq;by_cases hs:sg=0
   rotate_left
   .have fL:=(jt hs).1;have eH:=(jt hs).2;obtain rfl:v=false:=by rw[<- hv];simp[bl,hs]
    simp only[go_sem,dq,eH]
   subst hs;cases hA:jD ls.length a with
   |false=>
    have pA:=jX hA;obtain rfl:v=false:=by rw[<- hv];simp[bl,hA]
    simp only[go_sem,s67,dq,cH pA]
   |true=>
    have pA:=jX hA;simp only[go_sem,s67,dq,cH pA];cases hB:jD ls.length b with
    |false=>
     have pB:=jX hB;obtain rfl:v=false:=by rw[<- hv];simp[bl,hA,hB]
     simp only[go_sem,dq,cH pB]
    |true=>
     have pB:=jX hB;cases hD:jD ls.length c with
     |false=>
      have pD:=jX hD;obtain rfl:v=false:=by rw[<- hv];simp[bl,hA,hB,hD]
      simp only[go_sem,s67,dq,cH pB,cH pD]
     |true=>
      have pD:=jX hD;simp only[go_sem,s67,dq,cH pB,cH pD];refine eJ [3,4,7,172,178] fun e4 eh=>?_;simp only[go_sem,dq] at eh;by_cases hl:a<b
      rotate_left
      .obtain rfl:v=false:=by rw[<- hv];simp[bl,hA,hB,hD,hl]
       simp only[go_sem,eh,hl]
      by_cases hm:b<c
      rotate_left
      .obtain rfl:v=false:=by rw[<- hv];simp[bl,hA,hB,hD,hl,hm]
       simp only[go_sem,eh,hl,hm]
      obtain rfl:v=true:=by rw[<- hv];simp[bl,hA,hB,hD,hl,hm]
      simp only[go_sem,eh,hl,hm]
theorem agB:aH S 43 [.one (.p (dj F ls)),gK 9 a b c l o sg] (rb (bl F ls 9 a b c l o sg)):=by
 obtain⟨v,hv⟩:∃v,bl F ls 9 a b c l o sg=v:=⟨_,rfl⟩;rw[hv];refine ba c43 ?_;simp only[go_sem,i43,eW];refine eJ [0,3,4,5,6,7,8,9,10,41] fun e1 dL=>?_;simp only[go_sem] at dL;cases l with
 |true=>
  obtain rfl:v=false:=by rw[<- hv];simp[bl]
  simp only[go_sem,dL]
 |false=>
  simp only[go_sem,dL];refine eJ [0,3,4,5,6,7,8,9,10,53] fun e2 dE=>?_;simp only[go_sem,dL] at dE;cases o with
  |true=>
   obtain rfl:v=false:=by rw[<- hv];simp[bl]
   simp only[go_sem,dE]
  |false=>
   simp only[go_sem,dE];refine eJ [0,3,4,5,6,7,8,9,10,60] fun e3 dq=>?_;simp only[go_sem,dE] at dq;by_cases hs:sg=0
   rotate_left
   .have fL:=(jt hs).1;have eH:=(jt hs).2;obtain rfl:v=false:=by rw[<- hv];simp[bl,hs]
    simp only[go_sem,dq,eH]
   subst hs;cases hA:jD ls.length a with
   |false=>
    have pA:=jX hA;obtain rfl:v=false:=by rw[<- hv];simp[bl,hA]
    simp only[go_sem,s67,dq,cH pA]
   |true=>
    have pA:=jX hA;simp only[go_sem,s67,dq,cH pA];refine eJ [3,4,6,7,9,133] fun e4 eh=>?_;simp only[go_sem,dq] at eh;by_cases hb:b=0
    rotate_left
    .have aR:=(jt hb).2;obtain rfl:v=false:=by rw[<- hv];simp[bl,hA,hb]
     simp only[go_sem,eh,aR]
    subst hb;simp only[go_sem,eh];refine eJ [3,4,6,7,9,142] fun e5 jJ=>?_;simp only[go_sem,eh] at jJ;by_cases hc:c=0
    rotate_left
    .have fG:=(jt hc).2;obtain rfl:v=false:=by rw[<- hv];simp[bl,hA,hc]
     simp only[go_sem,jJ,fG]
    subst hc;obtain rfl:v=true:=by rw[<- hv];simp[bl,hA]
    simp only[go_sem,jJ]
theorem ags:aH S 43 [.one (.p (dj F ls)),gK 10 a b c l o sg] (rb (bl F ls 10 a b c l o sg)):=by
 obtain⟨v,hv⟩:∃v,bl F ls 10 a b c l o sg=v:=⟨_,rfl⟩;rw[hv];refine ba c43 ?_;simp only[go_sem,i43,eW];refine eJ [0,3,4,5,6,7,8,9,10,41] fun e1 dL=>?_;simp only[go_sem] at dL;cases l with
 |true=>
  obtain rfl:v=false:=by rw[<- hv];simp[bl]
  simp only[go_sem,dL]
 |false=>
  simp only[go_sem,dL];refine eJ [0,3,4,5,6,7,8,9,10,53] fun e2 dE=>?_;simp only[go_sem,dL] at dE;cases o with
  |true=>
   obtain rfl:v=false:=by rw[<- hv];simp[bl]
   simp only[go_sem,dE]
  |false=>
   simp only[go_sem,dE];refine eJ [0,3,4,5,6,7,8,9,10,60] fun e3 dq=>?_;simp only[go_sem,dE] at dq;by_cases hs:sg=0
   rotate_left
   .have fL:=(jt hs).1;have eH:=(jt hs).2;obtain rfl:v=false:=by rw[<- hv];simp[bl,hs]
    simp only[go_sem,dq,eH]
   subst hs;cases hA:jD ls.length a with
   |false=>
    have pA:=jX hA;obtain rfl:v=false:=by rw[<- hv];simp[bl,hA]
    simp only[go_sem,s67,dq,cH pA]
   |true=>
    have pA:=jX hA;simp only[go_sem,s67,dq,cH pA];refine eJ [3,4,6,7,9,133] fun e4 eh=>?_;simp only[go_sem,dq] at eh;by_cases hb:b=0
    rotate_left
    .have aR:=(jt hb).2;obtain rfl:v=false:=by rw[<- hv];simp[bl,hA,hb]
     simp only[go_sem,eh,aR]
    subst hb;simp only[go_sem,eh];refine eJ [3,4,6,7,9,142] fun e5 jJ=>?_;simp only[go_sem,eh] at jJ;by_cases hc:c=0
    rotate_left
    .have fG:=(jt hc).2;obtain rfl:v=false:=by rw[<- hv];simp[bl,hA,hc]
     simp only[go_sem,jJ,fG]
    subst hc;obtain rfl:v=true:=by rw[<- hv];simp[bl,hA]
    simp only[go_sem,jJ]
theorem Xk(k:Int):aH S 43 [.one (.p (dj F ls)),gK k a b c l o sg] (rb (bl F ls k a b c l o sg)):=by
 by_cases h1:k=1
 .subst h1;exact agt
 by_cases h2:k=2
 .subst h2;exact agu
 by_cases h3:k=3
 .subst h3;exact agv
 by_cases h4:k=4
 .subst h4;exact agw
 by_cases h5:k=5
 .subst h5;exact agx
 by_cases h6:k=6
 .subst h6;exact agy
 by_cases h7:k=7
 .subst h7;exact agz
 by_cases h8:k=8
 .subst h8;exact agA
 by_cases h9:k=9
 .subst h9;exact agB
 by_cases dm:k=10
 .subst dm;exact ags
 rw[show bl F ls k a b c l o sg=false by simp[bl,h1,h2,h3,h4,h5,h6,h7,h8,h9,dm]];have e1:=(wg h1).1;have e2:=(wg h2).1;have e3:=(wg h3).1;have e4:=(wg h4).1;have e5:=(wg h5).1;have e6:=(wg h6).1;have e7:=(wg h7).1;have e8:=(wg h8).1;have e9:=(wg h9).1;have FM:=(wg dm).1;refine ba c43 ?_;simp only[go_sem,i43,eW,e1,e2,e3,e4,e5,e6,e7,e8,e9,FM]
end
end
abbrev UQ:List C:=[.p .vx,.p (.fn 68 [] []),.p (.fn 69 [] []),.p (.fn 70 [] []),.p (.fn 71 [] []),.p (.fn 72 [] []),.p (.fn 73 [] []),.p (.fn 74 [] []),.p (.fn 75 [] []),.p (.fn 76 [] []),.p (.fn 76 [] [])]
theorem ajV(k:Int):0<=(ig k).1/\(ig k).1<=4/\0<=(ig k).2/\(ig k).2<=2:=by
 unfold ig;split
 .simp
 split
 .simp
 split<;>simp
theorem Aj(hlen:ls.length<=400)(dX:au Let.aw ls<=200){k f:Nat}{rest:List C}(hk:UQ.drop k=.p (.fn f [] [])::rest)(r4:k<11)(I1:S.shared f=false){a b c:Int}{l o:Bool}{sg:Int}{res:Option (List Pc)}(ha:aH S 43 [.one (.p (dj F ls)),gK k a b c l o sg] (rb true))(hm:aH S f [.one (.p (dj F ls)),gK k a b c l o sg] (kR res))(hL:∀L,res=some L->L.length<=1000000):
  aH S 19 [.one (.p (dj F ls)),gK k a b c l o sg] (we F ls k res):=by
 have tQ:=Z6 F;have pg:=aaK k;have pP:S.lone 1216192384=false:=ah;have sB:S.lone 1216576128=false:=ah;have IQ:∀(blk:aB),land blk [] 1216192000 ((RV.agg [.p .vx,.p (.fn 68 [] []),.p (.fn 69 [] []),.p (.fn 70 [] []),.p (.fn 71 [] []),.p (.fn 72 [] []),.p (.fn 73 [] []),.p (.fn 74 [] []),.p (.fn 75 [] []),.p (.fn 76 [] []),.p (.fn 76 [] [])]).gV (S.lone 1216192000))=some (.agg UQ,[]):=fun blk=>by cases S.lone 1216192000<;>rfl
 have bh:=eW ls;obtain⟨g1,g2,g3,g4⟩:=ajV k;have lg:∀blk:aB,land blk [] 1216384128 ((RV.tup [.one (.p (.int .i64 (ig k).1)),.one (.p (.int .i64 (ig k).2))]).gV (S.lone 1216384128))=some (.tup [.one (.p (.int .i64 (ig k).1)),.one (.p (.int .i64 (ig k).2))],[]):=fun blk=>iz;obtain⟨Lj,Lk,wO⟩:∃x y,ig k=(x,y):=⟨_,_,rfl⟩;have d4:we F ls k none=th 4:=rfl;have d7:∀L,((400:Int)<(ls.length:Int)+Lj\/(100:Int)<((au Let.aw ls/2:Nat):Int)+Lk)->we F ls k (some L)=th 7:=fun L h=>by unfold we;rw[wO];exact if_pos h
 have d0:∀L,¬((400:Int)<(ls.length:Int)+Lj\/(100:Int)<((au Let.aw ls/2:Nat):Int)+Lk)->we F ls k (some L)=uP F (nj L):=fun L h=>by unfold we;rw[wO];exact if_neg h
 rw[wO] at g1 g2 g3 g4 pg;simp only[wO] at lg;simp only at g1 g2 g3 g4 lg pg;have w1:IntKind.i64.wrap (((pieces ls).length:Int)+Lj)=(ls.length:Int)+Lj:=by rw[bh];exact sF aa aa
 have w2:IntKind.i64.wrap (((au Let.aw ls/2:Nat):Int)+Lk)=((au Let.aw ls/2:Nat):Int)+Lk:=sF aa aa;unfold kR at hm;generalize UQ=kg at hk IQ;refine ba c19 ?_;simp only[go_sem,i19,s43,cH ha,s44,gR abP (IQ _),hk,r4,I1];refine Yq hm pP fun cc bc w gc hb hw=>?_;have b0:=hb 1216000000 ae;have b1:=hb 1216000064 ae;simp only[go_sem] at b0 b1;cases res with
 |none=>rw[d4];simp only[go_sem,b1];refine⟨?_,rfl⟩;rcases hw with rfl|rfl<;>kernel_rfl
 |some L=>
  simp only[kA] at gc;have pfin:=tQ L (hL L rfl) (.sl (bJ (pieces ls))) (.sl (ni (dS F ls))) (.sl (nP (iN F ls))) (.int .i64 (au Let.ay ls:Nat)) (.int .i64 ((au Let.aw ls/2:Nat):Int)) (.sl (nP (counts ls F)));obtain⟨rs,se,_⟩:=gc.dO;by_cases h1:(400:Int)<(ls.length:Int)+Lj
  .rw[d7 L (.inl h1)];simp only[go_sem,b0,b1,s45,dB pg (lg _),w1,h1];refine⟨?_,rfl⟩;rcases hw with rfl|rfl<;>kernel_rfl
  by_cases h2:(100:Int)<((au Let.aw ls/2:Nat):Int)+Lk
  .rw[d7 L (.inr h2)];simp only[go_sem,b0,b1,s45,dB pg (lg _),w1,w2,h1,h2];refine⟨?_,rfl⟩;rcases hw with rfl|rfl<;>kernel_rfl
  rw[d0 L (by rintro (h|h);exact h1 h;exact h2 h)];simp only[go_sem,b0,s45,dB pg (lg _),w1,w2,h1,h2,se,s46];refine⟨?_,?_⟩
  .rcases hw with rfl|rfl<;>kernel_rfl
  refine aay pfin sB rfl (adV _) fun c2 aT oc aU=>?_;have b02:=(aU 1216000064 ae).trans b1;simp only[go_sem,b02];exact OJ (oc.of_eq (aN ae))
theorem Yx{k a b c:Int}{l o:Bool}{sg:Int}(ha:aH S 43 [.one (.p (dj F ls)),gK k a b c l o sg] (rb false)):aH S 19 [.one (.p (dj F ls)),gK k a b c l o sg] (th 2):=by refine ba c19 ?_;simp only[go_sem,i19,s43,cH ha];try rfl
def nc:List Int->List Int
 |[]=>[]
 |x::r=>if x∈r then nc r else x::nc r
theorem N8{x:Int}:∀ {l:List Int},x∈nc l↔x∈l:=by
 intro l
 induction l with
 |nil=>simp[nc]
 |cons y r ih=>
  unfold nc;split
  .rename_i h;rw[ih,cT];constructor
   .exact .inr
   rintro (rfl|h2)
   .exact h
   exact h2
  rw[cT,cT,ih]
theorem aik:∀l:List Int,(nc l).Nodup:=by
 intro l
 induction l with
 |nil=>exact tz
 |cons y r ih=>
  unfold nc;split
  .exact ih
  rename_i h;exact nY.2 ⟨fun h2=>h (N8.1 h2),ih⟩
theorem Yj{ws:List Int}{x:Int}:∀k,k<=ws.length->(x∈lZ ws k↔x∈ws.take k):=by
 intro k
 induction k with
 |zero=>intro _;simp[lZ]
 |succ k ih=>
  intro hk;obtain⟨y,hy⟩:=aI (ls:=ws) (k:=k) aa;have ht:ws.take (k+1)=ws.take k++[y]:=by rw[kW,hy];rfl
  have ih:=ih aa;unfold lZ;rw[hy,ht];simp only;split
  .rename_i h;obtain⟨h1,h2⟩:=h;have hm:y∈ws.take k:=by
    rw[List.mem_take_iff_getElem];obtain⟨h3,h4⟩:=aV.1 h2;exact⟨k-1,aa,h4⟩
   rw[ih,fq];constructor
   .exact .inl
   rintro (h|h)
   .exact h
   simp at h;subst h;exact hm
  rw[fq,fq,ih]
theorem ah2{ws:List Int}(hs:vQ tZ ws 0 ws.length):∀k,k<=ws.length->(lZ ws k).Nodup:=by
 intro k
 induction k with
 |zero=>intro _;exact tz
 |succ k ih=>
  intro hk;obtain⟨y,hy⟩:=aI (ls:=ws) (k:=k) aa;have ih:=ih aa;unfold lZ;rw[hy];simp only;split
  .exact ih
  rename_i h;rw[Hh];refine⟨ih,af,fun z hz w hw=>?_⟩;simp at hw;subst hw;rintro rfl
  rw[Yj k aa,List.mem_take_iff_getElem] at hz;obtain⟨p,hp,hpz⟩:=hz;have hpk:p<k:=aa;have lS:ws[p]?=some z:=by rw[oQ aa,hpz]
  obtain⟨u,hu⟩:=aI (ls:=ws) (k:=k-1) aa;have s1:=hs (k-1) k u z (aY _) aa aa hu hy;have huz:u=z:=by
   by_cases e:p=k-1
   .rw[e,hu] at lS;cases lS;rfl
   have s2:=hs p (k-1) z u (aY _) aa aa lS hu;simp at s1 s2;omega
  rw[huz] at hu;exact h ⟨aa,hu⟩
theorem X9{es ws:List Int}(hp:ws.Perm es)(hs:vQ tZ ws 0 ws.length):(lZ ws ws.length).length=(nc es).length:=by refine List.Perm.length_eq ((List.perm_ext_iff_of_nodup (ah2 hs _ (aZ _)) (aik es)).2 fun x=>?_);rw[Yj _ (aZ _),jo,N8,hp.mem_iff]
def y7(ls:List Let)(e:Nat):Bool:=((pA ls e).l.kind==2)&&((pA ls (nx ls e)).l.kind==2)
def vI(ls:List Let)(es:List Nat):List Int:=es.flatMap fun e:Nat=>[(e:Int),(nx ls e:Int)]
def xt(ls:List Let)(es:List Nat):List Int:=es.flatMap fun e:Nat=>[(pA ls e).l.id,(pA ls (nx ls e)).l.id]
def JZ(F:Nat)(ls:List Let)(a b c:Nat):Bool:=[a,b,c].all (y7 ls)&&(((nc (vI ls [a,b,c])).length==6)&&(((nc (xt ls [a,b,c])).length==3)&&([a,b,c].any (lM ls · true)&&([a,b,c].any (lM ls · false)&&tF F ls 0 [a,b,c] a))))
def zX(F:Nat)(ls:List Let)(a b c:Nat):Option (List Pc):=if JZ F ls a b c then some (iY ls (pieces ls) [a,b,c]) else none
theorem Qr(f:Nat->List Int)(hf:∀e,(f e).length=2):∀l:List Nat,(l.flatMap f).length=2*l.length:=by
 intro l
 induction l with
 |nil=>rfl
 |cons a r ih=>rw[List.flatMap_cons,fc,ih,hf,cE];omega
theorem aag(f:Nat->List Int)(l:List Nat)(k e:Nat)(h:l[k]?=some e):(l.take (k+1)).flatMap f=(l.take k).flatMap f++f e:=by rw[kW,h];simp
theorem Xi(f:Nat->Bool)(l:List Nat)(k e:Nat)(h:l[k]?=some e):(l.take (k+1)).any f=((l.take k).any f||f e):=by rw[kW,h];simp
theorem af7(f:Nat->Bool)(l:List Nat)(k e:Nat)(h:l[k]?=some e):(l.take (k+1)).all f=((l.take k).all f&&f e):=by rw[kW,h];simp
theorem ae5(f:Nat->List Int)(es:List Nat)(x y:Int):iP (es.flatMap f)++[[PV.int .i64 x],[PV.int .i64 y]]=iP (es.flatMap f++[x,y]):=af
theorem aq7(g:ct F ls){av bv cv:Nat}(ha:av<ls.length)(hb:bv<ls.length)(hc:cv<ls.length){k:Int}{l o:Bool}{sg:Int}:
  aH S 75 [.one (.p (dj F ls)),gK k av bv cv l o sg] (kR (zX F ls av bv cv)):=by
 have hlen:=g.len;have bh:=eW ls;have jU:∀e∈[av,bv,cv],e<ls.length:=fun e h=>by simp at h;rcases h with rfl|rfl|rfl<;>assumption
 generalize hE:[av,bv,cv]=es at*;have di:es.length=3:=by rw[<- hE];rfl
 have Mk:nP [av,bv,cv]=[[.int .i64 av],[.int .i64 bv],[.int .i64 cv]]:=rfl;rw[hE] at Mk;have w3:((3:Nat):Int)=3:=rfl;refine ba c75 ?_;simp only[go_sem,i75];refine cQ (fun j aj blk=>aj 0=.one (.p (dj F ls))/\aj 6=.one (.hsl 4800064384 1 1 0 3)/\aj 22=.one (.hsl 4800064384 1 1 0 3)/\aj 23=vi 3/\aj 24=vi j/\blk 4800064384=(1,some (.arr 3 1 (nP es)))/\(es.take j).all (y7 ls)=true/\
  aj 9=vb ((es.take j).any (lM ls · true))/\aj 10=vb ((es.take j).any (lM ls · false))/\ ∃c7 c8,aj 7=.one c7/\aj 8=.one c8/\grown 4800640256 3 1 (iP (vI ls (es.take j))) (.one c7) blk/\grown 4800705280 3 1 (iP (xt ls (es.take j))) (.one c8) blk) 0 3 (aY _) ?_ ?_
 .simp only[go_sem];exact⟨rfl,rfl,by rw[Mk],rfl,rfl,_,_,rfl,rfl,grown.nil,grown.nil⟩
 rintro j aj blk hj ⟨h0,h6,lR,l5,tM,b6,eK,h9,dm,c7,c8,h7,h8,g7,g8⟩
 by_cases aq:j<3
 .have aJ:((j:Int)<3):=aa;obtain⟨e,he⟩:=aI (ls:=es) (k:=j) aa;have OO:=jU e (aQ he);have hnp:=iA he;have pe:=BW g OO;have hm:=dw (e+1) (show 0<ls.length by omega);obtain⟨P,hP⟩:=aI (ls:=pieces ls) (k:=e) aa;obtain⟨Q,hQ⟩:=aI (ls:=pieces ls) (k:=(e+1)%ls.length) aa;have xU:=iO hP;have haq:=iO hQ;have w1:=bG (n:=j) aa;have po:=HH g OO true;have pu:=HH g OO false;have dX:y7 ls e=((P.l.kind==2)&&(Q.l.kind==2)):=by unfold y7;rw[iW hP,iW hQ]
  have hl7:(iP (vI ls (es.take j))).length<=100:=by unfold vI;rw[wZ,Qr _ (fun _=>rfl),fJ];omega
  have hl8:(iP (xt ls (es.take j))).length<=100:=by unfold xt;rw[wZ,Qr _ (fun _=>rfl),fJ];omega
  have dF:y7 ls e=false->zX F ls av bv cv=none:=fun h=>by
   have:es.all (y7 ls)=false:=by
    cases hh:es.all (y7 ls) with
    |false=>rfl
    |true=>rw[iC.1 hh e (aQ he)] at h;cases h
   unfold zX JZ;rw[hE,this];rfl
  cases k1:(P.l.kind==2) with
  |false=>
   rw[k1] at dX;have k1':(P.l.kind !=2)=true:=by simp only[bne,k1];rfl
   rw[dF dX];simp only[go_sem,i75_l1,h0,lR,l5,tM,b6,aq,aJ,hnp,s104,dB pe iz,xU,Pc.ps,k1'];rfl
  |true=>
   have k1':(P.l.kind !=2)=false:=by simp only[bne,k1];rfl
   cases k2:(Q.l.kind==2) with
   |false=>
    rw[k1,k2] at dX;have k2':(Q.l.kind !=2)=true:=by simp only[bne,k2];rfl
    rw[dF dX];simp only[go_sem,i75_l1,h0,lR,l5,tM,b6,aq,aJ,hnp,s104,dB pe iz,xU,haq,Pc.ps,k1',k2'];rfl
   |true=>
    rw[k1,k2] at dX;have k2':(Q.l.kind !=2)=false:=by simp only[bne,k2];rfl
    simp only[go_sem,i75_l1,h0,h7,lR,l5,tM,b6,aq,aJ,hnp,s104,dB pe iz,xU,haq,Pc.ps,k1',k2'];refine qk (xs:=[[.int .i64 (e:Nat)],[.int .i64 ((e+1)%ls.length:Nat)]]) (g7.of_eq (aN ae)) (by simp only[eT,aS,if_true];rfl) (.inl rfl) (by simp only[cE,dQ];omega) fun d7 bc gd7 aR=>?_;have q6:=aR 4800064384 ae ae;simp only[go_sem,b6] at q6;have g8':=g8.of_eq ((aR 4800705280 ae ae).trans (aN ae));simp only[go_sem,h0,h8,xU,haq,Pc.ps];refine y9 (xs:=[[.int .i64 P.l.id],[.int .i64 Q.l.id]]) (g8'.of_eq (aN ae)) (by simp only[eT,aS,if_true];rfl) (.inl rfl) (by simp only[cE,dQ];omega) fun d8 aT r w gd8 aU hw=>?_
    have p6:=(aU 4800064384 ae ae).trans ((aN ae).trans q6);have ajK:=gd7.of_eq ((aU 4800640256 ae ae).trans (aN ae));simp only[go_sem];refine⟨?_,?_⟩
    .rcases hw with ⟨rfl,rfl⟩|⟨rfl,rfl⟩|⟨rfl,rfl⟩<;>kernel_rfl
    generalize hx9:(es.take j).any (lM ls · true)=x9 at h9;generalize ald:(es.take j).any (lM ls · false)=G9 at dm;have e9:=Xi (lM ls · true) es j e he;have FM:=Xi (lM ls · false) es j e he;have eA:=af7 (y7 ls) es j e he;rw[hx9] at e9;rw[ald] at FM;rw[eK,dX] at eA;have G7:grown 4800640256 3 1 (iP (vI ls (es.take (j+1)))) (.one d7) aT:=by have:=ae5 (fun e:Nat=>[(e:Int),(nx ls e:Int)]) (es.take j) e (nx ls e);have h2:=aag (fun e:Nat=>[(e:Int),(nx ls e:Int)]) es j e he;rw[show vI ls (es.take (j+1))=(es.take j).flatMap (fun e:Nat=>[(e:Int),(nx ls e:Int)])++[(e:Int),(nx ls e:Int)] from h2,<- this];exact ajK
    have G8:grown 4800705280 3 1 (iP (xt ls (es.take (j+1)))) (.one d8) aT:=by have:=ae5 (fun e:Nat=>[(pA ls e).l.id,(pA ls (nx ls e)).l.id]) (es.take j) (pA ls e).l.id (pA ls (nx ls e)).l.id;have h2:=aag (fun e:Nat=>[(pA ls e).l.id,(pA ls (nx ls e)).l.id]) es j e he;rw[show xt ls (es.take (j+1))=(es.take j).flatMap (fun e:Nat=>[(pA ls e).l.id,(pA ls (nx ls e)).l.id])++[(pA ls e).l.id,(pA ls (nx ls e)).l.id] from h2,<- this,iW hP,show pA ls (nx ls e)=Q from iW hQ];exact gd8
    cases x9<;>cases G9<;>simp only[go_sem,h0,h9,dm,lR,l5,tM,s115,cH po,cH pu,w1,aq]<;>exact⟨h6,p6,by rw[eA];rfl,by rw[e9];rfl,by rw[FM];rfl,d7,d8,rfl,rfl,G7,G8⟩
 have:j=3:=aa;subst this;have ht:es.take 3=es:=by rw[<- hE];rfl
 rw[ht] at eK h9 dm g7 g8;have n7:(vI ls es).length=6:=by unfold vI;rw[Qr _ (fun _=>rfl),di]
 have n8:(xt ls es).length=6:=by unfold xt;rw[Qr _ (fun _=>rfl),di]
 rcases g7 with ⟨e,_⟩|⟨_,gg7,e,b7⟩
 .have:=congrArg List.length e;rw[wZ,n7] at this;cases this
 cases e;rcases g8 with ⟨e,_⟩|⟨_,gg8,e,b8⟩
 .have:=congrArg List.length e;rw[wZ,n8] at this;cases this
 cases e;have s506:S.shared 117=true:=ah;have s507:S.shared 118=true:=ah;have Ln:¬(((3:Nat):Int)<3):=ae;simp only[go_sem,i75_l1,i75_r2,h7,l5,tM,Ln,s506,wZ];refine xM b7 (by rfl) (.inl rfl) (P:=Fa tZ 4800640256 gg7 3 (vI ls es) blk) (fun mW h1 h2=>V5 h1 (by rw[h2];kernel_rfl) aa b7) fun v bc hP=>?_;obtain⟨rfl,⟨ws,bw,pw,sw⟩,kw⟩:=hP;have b8':=(kw 4800705280 ae).trans b8;have KB:=(kw 4800064384 ae).trans b6;simp only[go_sem,h8,s506,wZ];refine xM b8' (by rfl) (.inl rfl) (P:=Fa tZ 4800705280 gg8 3 (xt ls es) bc) (fun mW h1 h2=>V5 h1 (by rw[h2];kernel_rfl) aa b8') fun v aT hP=>?_
 obtain⟨rfl,⟨us,bu,pu,su⟩,ku⟩:=hP;have bw':=(ku 4800640256 ae).trans bw;have agV:=(ku 4800064384 ae).trans KB;have wl:=pw.length_eq;have ul:=pu.length_eq;have cw:=X9 pw sw;have cu:=X9 pu su;have pcn:=Rm g es aa (e0:=av) (by rw[<- hE];rfl) ha 0;have c00:((0:Nat):Int)=0:=rfl;rw[c00] at pcn;have psw:=aqN g es jU aa;have ht3:List.take 3 (nP es)=nP es:=fY (by rw[U8];omega);have hB:JZ F ls av bv cv=((((nc (vI ls es)).length:Int)==6)&&((((nc (xt ls es)).length:Int)==3)&&(es.any (lM ls · true)&&(es.any (lM ls · false)&&tF F ls 0 es av)))):=by unfold JZ;rw[hE,eK,Pe,Pe];rfl
 unfold zX;rw[hB];clear hB;simp only[go_sem,h7,s507,wZ,<- wl];refine xM bw' (by rfl) (.inl rfl) (P:=Rc 4800640256 gg7 3 ws aT) (fun mW h1 h2=>Ya h1 aa bw') fun v jz hP=>?_;obtain⟨rfl,_,kc⟩:=hP;have bu':=(kc 4800705280 ae).trans bu;have b63:=(kc 4800064384 ae).trans agV;rw[cw];have lo:S.lone 4801152128=false:=ah;cases q1:(((nc (vI ls es)).length:Int)==6) with
 |false=>
  have q1':(((nc (vI ls es)).length:Int)!=6)=true:=by simp only[bne,q1];rfl
  simp only[go_sem,q1'];rfl
 |true=>
  have q1':(((nc (vI ls es)).length:Int)!=6)=false:=by simp only[bne,q1];rfl
  simp only[go_sem,h8,q1',s507,wZ,<- ul];refine xM bu' (by rfl) (.inl rfl) (P:=Rc 4800705280 gg8 3 us jz) (fun mW h1 h2=>Ya h1 aa bu') fun v qf hP=>?_;obtain⟨rfl,_,kd⟩:=hP;have b64:=(kd 4800064384 ae).trans b63;rw[cu];cases q2:(((nc (xt ls es)).length:Int)==3) with
  |false=>
   have JI:(((nc (xt ls es)).length:Int)!=3)=true:=by simp only[bne,q2];rfl
   simp only[go_sem,JI];rfl
  |true=>
   have JI:(((nc (xt ls es)).length:Int)!=3)=false:=by simp only[bne,q2];rfl
   cases q3:es.any (lM ls · true) with
   |false=>rw[q3] at h9;simp only[go_sem,h9,JI];rfl
   |true=>
    rw[q3] at h9;cases q4:es.any (lM ls · false) with
    |false=>rw[q4] at dm;simp only[go_sem,h9,dm,JI];rfl
    |true=>
     rw[q4] at dm;cases q5:tF F ls 0 es av with
     |false=>rw[q5] at pcn;simp only[go_sem,h0,h6,h9,dm,JI,b64,s112,cH pcn,di,U8,ht3];rfl
     |true=>rw[q5] at pcn;simp only[go_sem,h0,h6,h9,dm,JI,b64,s112,cH pcn,s119,di,U8,ht3];refine jH psw lo (.inr (fh (gk _))) fun cc Ag gc xW=>?_;simp only[go_sem];rw[<- hE] at gc;exact jB gc
abbrev BR(F:Nat):V:=.agg [.p (.int .i64 F),.p (.sl [])]
theorem zz:¬(((0:Int))<((0:Nat):Int)):=ae
theorem zm:IntKind.i64.wrap (2*((0:Nat):Int))=((0:Nat):Int):=ae
theorem zr:(0:Nat)<=140737488355328:=ae
theorem zr8:(0:Nat)*8<=140737488355328:=ae
section
variable {F:Nat}
theorem ahu(hF:F<=40):iD (F:Int) []=0:=by unfold iD;rw[if_neg (by simp[au]),if_neg aa,if_pos rfl]
theorem aot(hF:F<=40):aH S 22 [BR F] (uQ (dgE F) (.int .i64 0)):=by have pr:=VI F [] (aY _);rw[Nc (ahu hF),if_pos rfl] at pr;exact pr
theorem ag3:aH S 65 [.one (.p (dgE F))] (.one (.own 4 1 [])):=by refine ba c65 ?_;simp only[go_sem,i65];refine oU ?_;simp only[go_sem,i65_l1,i65_r2,zz];rfl
theorem ai8(hF:F<=40):aH S 40 [BR F] (.tup [.one (bK An 5 []),.one (.p (.int .i64 0))]):=by
 have pr:=aot hF;have hLB:∀blk:aB,land blk [] 2560384064 ((RV.one (.own 4 1 [])).gV (S.lone 2560384064))=some (.one (.hsl 2560384064 ((blk 2560384064).1+1) 1 0 0),[(2560384064,((blk 2560384064).1+1,some (.arr 4 1 [])))]):=by intro blk;rw[show S.lone 2560384064=false by kernel_rfl];rfl
 refine ba c40 ?_;simp only[go_sem,i40,s22,dB pr iz,s65,dB ag3 (hLB _),zm,zr];refine oU ?_;simp only[go_sem,i40_l1,i40_r2,zz];rfl
theorem Vf(hF:F<=40):aH S 18 [BR F] (uQ (dj F []) (.int .i64 0)):=by
 have pf:=ai8 hF;have pps:aH S 41 [BR F] (ri ((0:Nat):Int)):=Vh F [] (aY _);have pcs:aH S 42 [BR F] (ri ((0:Nat):Int)):=Yl F [] (aY _);have lo:S.lone 1152064064=false:=ah;have wF:=bG (n:=F) aa;have r2:(F+1)*8<=140737488355328:=aa;have e2:List.replicate (F+1) [PV.int .i64 0]=nP (counts [] F):=by rw[<- Rp,dQ,Rq];simp
 refine ba c18 ?_;simp only[go_sem,i18,s40];refine aaw pf lo fun cf jQ vc iL=>?_;have KA:=iL 1152000000 ae;simp only[go_sem] at KA;obtain⟨_,hv⟩|⟨h,_⟩:=vc
 .cases hv;simp only[go_sem,KA,wF,r2,zm,zr,s41,s42,lO pps,lO pcs,e2];refine⟨aD,?_⟩;refine oU ?_;simp only[go_sem,i18_l1,i18_r6,zz];refine oU ?_;simp only[go_sem,i18_l4,i18_r5,zz];have t2:List.take (F+1) (nP (counts [] F))=nP (counts [] F):=fY (by simp[counts]);have n2:F+1<=(counts [] F).length:=by simp[counts]
  simp only[go_sem,kx,tL,wA,oa,mN,lG,t2,n2];rfl
 exact absurd rfl h
end
section
variable {F:Nat}
theorem wz1:IntKind.i64.wrap (1:Int)=1:=ae
theorem wz2:IntKind.i64.wrap (2:Int)=2:=ae
abbrev BM(F:Nat):V:=.one (.p (.box [.int .i64 F,.sl [],.sl [],.sl [],.int .i64 ((0:Nat):Int),.int .i64 ((0:Nat):Int),.sl (nP (counts [] F))]))
theorem agn{b:Nat}(hb:b<=F):aH S 43 [BM F,gK 2 0 b 0 false false 0] (rb true):=by
 have oh:aH S 67 [vi 0,.one (.p (.box [.int .i64 ((0:Nat):Int)]))] (rb false):=abH 0 0;have qt:=iA (FI (ls:=[]) hb);have h1:(0:Int)<=(b:Int):=aa;have h2:(b:Int)<=(F:Int):=aa;have h4:(0:Int)<=(cg [] b:Int):=aa;have h5:b<F+1:=aa;have h6:(counts [] F).length=F+1:=by simp[counts]
 have h7:(((0:Nat):Int)==0)=true:=ae;refine ba c43 ?_;simp only[go_sem,i43,s67,mZ oh,qt,h1,h2,h4,h7];exact aD
abbrev HO(b:Nat):List Pc:=[⟨⟨1,b,1,0,0,false⟩,true⟩,⟨⟨1,b,2,0,0,false⟩,false⟩]
theorem agM{b:Nat}{l o:Bool}{sg:Int}:aH S 69 [BM F,gK 2 0 b 0 l o sg] (kR (some (HO b))):=by have h7:(((0:Nat):Int)==0)=true:=ae;refine ba c69 ?_;simp only[go_sem,i69,h7,wz1,wz2];rfl
end
theorem aio(hlen:ls.length<=400)(dX:au Let.aw ls<=200){a b c:Int}{l o:Bool}{sg:Int}{res:Option (List Pc)}(ha:aH S 43 [.one (.p (dj F ls)),gK 2 a b c l o sg] (rb true))(hm:aH S 69 [.one (.p (dj F ls)),gK 2 a b c l o sg] (kR res))(hL:∀L,res=some L->L.length<=1000000):
  aH S 19 [.one (.p (dj F ls)),gK 2 a b c l o sg] (we F ls 2 res):=by
 have tQ:=Z6 F;have pg:=aaK 2;have pP:S.lone 1216192384=false:=ah;have sB:S.lone 1216576128=false:=ah;have IQ:∀(blk:aB),land blk [] 1216192000 ((RV.agg [.p .vx,.p (.fn 68 [] []),.p (.fn 69 [] []),.p (.fn 70 [] []),.p (.fn 71 [] []),.p (.fn 72 [] []),.p (.fn 73 [] []),.p (.fn 74 [] []),.p (.fn 75 [] []),.p (.fn 76 [] []),.p (.fn 76 [] [])]).gV (S.lone 1216192000))=some (.agg [.p .vx,.p (.fn 68 [] []),.p (.fn 69 [] []),.p (.fn 70 [] []),.p (.fn 71 [] []),.p (.fn 72 [] []),.p (.fn 73 [] []),.p (.fn 74 [] []),.p (.fn 75 [] []),.p (.fn 76 [] []),.p (.fn 76 [] [])],[]):=fun blk=>by cases S.lone 1216192000<;>rfl
 have bh:=eW ls;have w1:IntKind.i64.wrap (((pieces ls).length:Int)+(ig 2).1)=(ls.length:Int)+(ig 2).1:=by rw[bh];exact sF (by simp only[ig];simp;omega) (by simp only[ig];simp;omega)
 have w2:IntKind.i64.wrap (((au Let.aw ls/2:Nat):Int)+(ig 2).2)=((au Let.aw ls/2:Nat):Int)+(ig 2).2:=sF (by simp only[ig];simp;omega) (by simp only[ig];simp;omega);have lg:∀blk:aB,land blk [] 1216384128 ((RV.tup [.one (.p (.int .i64 (ig 2).1)),.one (.p (.int .i64 (ig 2).2))]).gV (S.lone 1216384128))=some (.tup [.one (.p (.int .i64 (ig 2).1)),.one (.p (.int .i64 (ig 2).2))],[]):=fun blk=>iz;unfold kR at hm;refine ba c19 ?_;simp only[go_sem,i19,s43,cH ha,s44,gR abP (IQ _),s69];refine Yq hm pP fun cc bc w gc hb hw=>?_;have b0:=hb 1216000000 ae;have b1:=hb 1216000064 ae;simp only[go_sem] at b0 b1;cases res with
 |none=>simp only[go_sem,b1];refine⟨?_,rfl⟩;rcases hw with rfl|rfl<;>kernel_rfl
 |some L=>
  simp only[kA] at gc;have pfin:=tQ L (hL L rfl) (.sl (bJ (pieces ls))) (.sl (ni (dS F ls))) (.sl (nP (iN F ls))) (.int .i64 (au Let.ay ls:Nat)) (.int .i64 ((au Let.aw ls/2:Nat):Int)) (.sl (nP (counts ls F)));obtain⟨rs,se,_⟩:=gc.dO;by_cases h1:(400:Int)<(ls.length:Int)+(ig 2).1
  .rw[show we F ls 2 (some L)=th 7 from if_pos (.inl h1)];simp only[go_sem,b0,b1,s45,dB pg (lg _),w1,h1];refine⟨?_,rfl⟩;rcases hw with rfl|rfl<;>kernel_rfl
  by_cases h2:(100:Int)<((au Let.aw ls/2:Nat):Int)+(ig 2).2
  .rw[show we F ls 2 (some L)=th 7 from if_pos (.inr h2)];simp only[go_sem,b0,b1,s45,dB pg (lg _),w1,w2,h1,h2];refine⟨?_,rfl⟩;rcases hw with rfl|rfl<;>kernel_rfl
  rw[show we F ls 2 (some L)=uP F (nj L) from if_neg (by rintro (h|h);exact h1 h;exact h2 h)];simp only[go_sem,b0,s45,dB pg (lg _),w1,w2,h1,h2,se,s46];refine⟨?_,?_⟩
  .rcases hw with rfl|rfl<;>kernel_rfl
  refine aay pfin sB rfl (adV _) fun c2 aT oc aU=>?_;have b02:=(aU 1216000064 ae).trans b1;simp only[go_sem,b02];exact OJ (oc.of_eq (aN ae))
abbrev vY(b:Nat):List Let:=[⟨1,b,1,0,0,false⟩,⟨1,b,2,0,0,false⟩]
theorem ahA(b:Nat):nj (HO b)=vY b:=by unfold nj;rw[show rT (HO b)=some 0 from rfl];rfl
theorem doR0(F b:Nat):we F [] 2 (some (HO b))=uP F (vY b):=by rw[<- ahA];rfl
theorem Yw{b:Nat}(hb:b<=F):aH S 19 [BM F,gK 2 0 b 0 false false 0] (uP F (vY b)):=by have:=aio (F:=F) (ls:=[]) ae ae (a:=0) (b:=b) (c:=0) (l:=false) (o:=false) (sg:=0) (res:=some (HO b)) (agn hb) agM (fun L h=>by cases h;exact(by simp:(HO b).length<=1000000));rw[doR0] at this;exact this
theorem agk{b:Nat}(hF:F<=40)(hb:b<=F):aH S 7 [BR F,gK 2 0 b 0 false false 0] (uP F (vY b)):=by have po:aH S 18 [BR F] (uQ (.box [.int .i64 F,.sl [],.sl [],.sl [],.int .i64 ((0:Nat):Int),.int .i64 ((0:Nat):Int),.sl (nP (counts [] F))]) (.int .i64 0)):=Vf hF;have hd:=Yw hb;have lo:S.lone 448256128=false:=ah;refine ba c7 ?_;simp only[go_sem,i7,s18,dB po iz,s19];refine Ld hd lo fun cc bc gc hb=>?_;have b4:=hb 448000128 ae;simp only[go_sem] at b4;simp only[go_sem,b4];exact OJ (gc.of_eq (aN ae))
def ow(F:Nat)(ls:List Let)(k:Int)(a b c:Nat)(l o:Bool)(sg:Int):Option (List Pc):=if k=1 then Bz ls a else if k=2 then u4 F ls a b c else if k=3 then BE F ls a b else if k=4 then CC ls a else if k=5 then some (EG ls a sg o) else if k=6 then CM F ls a b else if k=7 then CR F ls a b l o else if k=8 then zX F ls a b c else if k=9 then Db F ls a else C0 ls a
def vV(F:Nat)(ls:List Let)(k a b c:Int)(l o:Bool)(sg:Int):RV:=if bl F ls k a b c l o sg then we F ls k (ow F ls k a.toNat b.toNat c.toNat l o sg) else th 2
theorem agd{k a b c:Int}{l o:Bool}{sg:Int}:(∃e,vV F ls k a b c l o sg=th e)\/ ∃L,vV F ls k a b c l o sg=uP F L:=by
 unfold vV;split
 .cases ow F ls k a.toNat b.toNat c.toNat l o sg with
  |none=>exact .inl ⟨4,rfl⟩
  |some L=>
   by_cases h:(400:Int)<(ls.length:Int)+(ig k).1\/(100:Int)<((au Let.aw ls/2:Nat):Int)+(ig k).2
   .exact .inl ⟨7,if_pos h⟩
   exact .inr ⟨nj L,if_neg h⟩
 exact .inl ⟨2,rfl⟩
theorem Xj{k a b c:Int}{l o:Bool}{sg:Int}{res:RV}(po:aH S 18 [fP F ls] (uQ (dj F ls) (.int .i64 0)))(hd:aH S 19 [.one (.p (dj F ls)),gK k a b c l o sg] res)(fin:(∃e,res=th e)\/ ∃L,res=uP F L):
  aH S 7 [fP F ls,gK k a b c l o sg] res:=by
 have lo:S.lone 448256128=false:=ah;refine ba c7 ?_;rcases fin with ⟨e,rfl⟩|⟨L,rfl⟩
 .simp only[go_sem,i7,s18,dB po iz,s19,dB hd alV];rfl
 simp only[go_sem,i7,s18,dB po iz,s19];refine Ld hd lo fun cc bc gc hb=>?_;have b4:=hb 448000128 ae;simp only[go_sem] at b4;simp only[go_sem,b4];exact OJ (gc.of_eq (aN ae))
theorem fT{n:Nat}{i:Int}(h:jD n i=true):∃k:Nat,i=(k:Int)/\k<n:=by unfold jD at h;simp at h;exact⟨i.toNat,aa,aa⟩
theorem US(l:List Pc)(drop:Nat->Pc->Bool):(mf l drop).length<=l.length:=Jh l drop l.length
theorem ad2(l:List Pc)(i:Nat)(g r:Int):(tm l i g r).length=l.length:=by simp[tm]
theorem acv{k:Int}{a b c:Nat}{l o:Bool}{sg:Int}{L:List Pc}(h:ow F ls k a b c l o sg=some L):L.length<=ls.length+4:=by
 have hp:=eW ls;unfold ow at h;repeat' split at h
 .unfold Bz at h;simp only at h;split at h
  .cases h;have:=US (pieces ls) (fun k _=>decide (k=a)||decide (k=(a+1)%ls.length));simp only[dT,cF];omega
  cases h
 .unfold u4 at h;split at h
  .cases h;simp only[vU,jh,dT,cF,cE,dQ];omega
  split at h
  .cases h;simp only[vU,jh,dT,cF,cE,dQ];omega
  cases h
 .unfold BE at h;split at h
  .cases h;simp only[Fe,Be];omega
  cases h
 .unfold CC at h;simp only at h;split at h
  .cases h;have:=US (pieces ls) (sN [((pieces ls).getD a ⟨kP,false⟩).l.id]);simp only[FL,cF];omega
  cases h
 .cases h;simp only[EG,jh,cE,dQ];omega
 .unfold CM at h;split at h
  .cases h;have:=US (pieces ls) (sN [(pA ls a).l.id,(pA ls (nx ls a)).l.id]);simp only[FL,cF];omega
  cases h
 .have key:∀s t,gM ls a b l o s t=some L->L.length<=ls.length+4:=fun s t h=>by
   unfold gM at h;split at h
   .cases h
   simp only[fg] at h;subst h;have h2:∀x sg o s,(nN x sg o s).length=2:=fun x sg o s=>by unfold nN;split<;>rfl
   split<;>simp only[jh,h2,cE,dQ]<;>omega
  unfold CR at h;split at h
  .exact key _ _ h
  exact key _ _ h
 .unfold zX at h;split at h
  .cases h;simp only[Fe];omega
  cases h
 .unfold Db at h;split at h
  .cases h;simp only[ad2,dT,cF];omega
  cases h
 unfold C0 at h;split at h
 .cases h;simp only[ad2,dT,cF];omega
 cases h
theorem Yy(g:ct F ls)(k a b c:Int)(l o:Bool)(sg:Int):aH S 19 [.one (.p (dj F ls)),gK k a b c l o sg] (vV F ls k a b c l o sg):=by
 have pa:=Xk (F:=F) (ls:=ls) (a:=a) (b:=b) (c:=c) (l:=l) (o:=o) (sg:=sg) k;have hlen:=g.len;have dX:=g.cr;unfold vV;cases hA:bl F ls k a b c l o sg with
 |false=>rw[hA] at pa;exact Yx pa
 |true=>
  rw[hA] at pa;rw[if_pos rfl];have hL:∀L,ow F ls k a.toNat b.toNat c.toNat l o sg=some L->L.length<=1000000:=fun L h=>by have:=acv h;omega
  have ne:=g.ne;have ir:¬ls.length=0:=by have:=iR.2 ne;omega
  unfold bl at hA;by_cases h1:k=1
  .subst h1;simp only[Int.reduceEq,if_true,if_false,or_false,or_self] at hA;simp only[bQ,gH,beq_iff_eq] at hA;obtain⟨rfl,rfl,rfl,hx,rfl,rfl⟩:=hA;obtain⟨av,rfl,ha⟩:=fT hx;simp only[lJ] at hL ⊢;exact Aj hlen dX (k:=1) rfl ae ah pa (agJ g ha) hL
  by_cases h2:k=2
  .subst h2;simp only[Int.reduceEq,if_true,if_false,or_self] at hA;simp only[bQ,uq,gH,beq_iff_eq,decide_eq_true_eq] at hA;obtain⟨rfl,rfl,rfl,hx,iL,IA,LD,rX⟩:=hA;rcases hx with hx|⟨hx,_⟩
   rotate_left
   .exact absurd hx ir
   obtain⟨av,rfl,ha⟩:=fT hx;obtain⟨bv,rfl⟩:=oL iL;obtain⟨cv,rfl⟩:=oL LD;simp only[lJ] at hL rX ⊢;have:=sM (lY bv) ls;exact Aj hlen dX (k:=2) rfl ae ah pa (agN g ha aa (by simp only[cg] at rX;omega)) hL
  by_cases h3:k=3
  .subst h3;simp only[Int.reduceEq,if_true,if_false,or_false,or_self] at hA;simp only[bQ,gH,beq_iff_eq,decide_eq_true_eq] at hA;obtain⟨rfl,rfl,rfl,hx,rfl,hy,aq⟩:=hA;obtain⟨av,rfl,ha⟩:=fT hx;obtain⟨bv,rfl,hb⟩:=fT hy;simp only[lJ] at hL ⊢;exact Aj hlen dX (k:=3) rfl ae ah pa (agQ g ha hb) hL
  by_cases h4:k=4
  .subst h4;simp only[Int.reduceEq,if_true,if_false,or_false,or_true,or_self] at hA;simp only[bQ,gH,beq_iff_eq] at hA;obtain⟨rfl,rfl,rfl,hx,rfl,rfl⟩:=hA;obtain⟨av,rfl,ha⟩:=fT hx;simp only[lJ] at hL ⊢;exact Aj hlen dX (k:=4) rfl ae ah pa (amx g ha) hL
  by_cases h5:k=5
  .subst h5;simp only[Int.reduceEq,if_true,if_false,or_self] at hA;simp only[bQ,uq,gH,beq_iff_eq] at hA;obtain⟨rfl,hs,hx,rfl,rfl⟩:=hA;obtain⟨av,rfl,ha⟩:=fT hx;simp only[lJ] at hL ⊢;exact Aj hlen dX (k:=5) rfl ae ah pa (amy g ha) hL
  by_cases h6:k=6
  .subst h6;simp only[Int.reduceEq,if_true,if_false,or_true,or_self] at hA;simp only[bQ,gH,beq_iff_eq,decide_eq_true_eq] at hA;obtain⟨rfl,rfl,rfl,hx,rfl,hy,aq⟩:=hA;obtain⟨av,rfl,ha⟩:=fT hx;obtain⟨bv,rfl,hb⟩:=fT hy;simp only[lJ] at hL ⊢;exact Aj hlen dX (k:=6) rfl ae ah pa (ane g ha hb) hL
  by_cases h7:k=7
  .subst h7;simp only[Int.reduceEq,if_true,if_false,or_self] at hA;simp only[bQ,gH,beq_iff_eq,beq_eq_false_iff_ne] at hA;obtain⟨rfl,hx,rfl,hy,aK⟩:=hA;obtain⟨av,rfl,ha⟩:=fT hx;obtain⟨bv,rfl,hb⟩:=fT hy;simp only[lJ] at hL ⊢;exact Aj hlen dX (k:=7) rfl ae ah pa (anf g ha hb aa) hL
  by_cases h8:k=8
  .subst h8;simp only[Int.reduceEq,if_true,if_false,or_self] at hA;simp only[bQ,gH,beq_iff_eq,decide_eq_true_eq] at hA;obtain⟨rfl,rfl,rfl,hx,hy,hz,_,_⟩:=hA;obtain⟨av,rfl,ha⟩:=fT hx;obtain⟨bv,rfl,hb⟩:=fT hy;obtain⟨cv,rfl,hc⟩:=fT hz;simp only[lJ] at hL ⊢;exact Aj hlen dX (k:=8) rfl ae ah pa (aq7 g ha hb hc) hL
  by_cases h9:k=9
  .subst h9;simp only[Int.reduceEq,if_true,if_false,or_false,or_true,or_self] at hA;simp only[bQ,gH,beq_iff_eq] at hA;obtain⟨rfl,rfl,rfl,hx,rfl,rfl⟩:=hA;obtain⟨av,rfl,ha⟩:=fT hx;simp only[lJ] at hL ⊢;exact Aj hlen dX (k:=9) rfl ae ah pa (aqY g ha) hL
  by_cases dm:k=10
  .subst dm;simp only[Int.reduceEq,if_true,if_false,or_true,or_self] at hA;simp only[bQ,gH,beq_iff_eq] at hA;obtain⟨rfl,rfl,rfl,hx,rfl,rfl⟩:=hA;obtain⟨av,rfl,ha⟩:=fT hx;simp only[lJ] at hL ⊢;exact Aj hlen dX (k:=10) rfl ae ah pa (aqX g ha) hL
  simp[h1,h2,h3,h4,h5,h6,h7,h8,h9,dm] at hA
theorem agm(g:ct F ls)(k a b c:Int)(l o:Bool)(sg:Int):aH S 7 [fP F ls,gK k a b c l o sg] (vV F ls k a b c l o sg):=Xj (ac3 g) (Yy g k a b c l o sg) agd
def QU(F:Nat)(k a b c:Int)(l o:Bool)(sg:Int):RV:=if bl F [] k a b c l o sg then uP F (vY b.toNat) else th 2
theorem ago{k a b c:Int}{l o:Bool}{sg:Int}(h:bl F [] k a b c l o sg=true):∃bv:Nat,k=2/\a=0/\b=(bv:Int)/\bv<=F/\c=0/\l=false/\o=false/\sg=0:=by
 have hi:∀i:Int,jD 0 i=false:=fun i=>by unfold jD;simp
 unfold bl at h;by_cases h2:k=2
 .subst h2;simp only[if_true,dQ,hi,Df,bQ,gH,beq_iff_eq,decide_eq_true_eq] at h;obtain⟨rfl,rfl,rfl,⟨_,rfl⟩,iL,IA,LD,rX⟩:=h;obtain⟨bv,rfl⟩:=oL iL;have:cg [] ((bv:Int).toNat)=0:=rfl;rw[this] at rX;exact⟨bv,rfl,rfl,rfl,aa,aa,rfl,rfl,rfl⟩
 simp[h2,hi] at h
theorem agl(hF:F<=40)(k a b c:Int)(l o:Bool)(sg:Int):aH S 7 [fP F [],gK k a b c l o sg] (QU F k a b c l o sg):=by
 unfold QU;cases hA:bl F [] k a b c l o sg with
 |false=>have pa:=Xk (F:=F) (ls:=[]) (a:=a) (b:=b) (c:=c) (l:=l) (o:=o) (sg:=sg) k;rw[hA] at pa;exact Xj (Vf hF) (Yx pa) (.inl ⟨2,rfl⟩)
 |true=>obtain⟨bv,rfl,rfl,rfl,hb,rfl,rfl,rfl,rfl⟩:=ago hA;exact agk hF hb

structure dx where
 k:Int
 a:Int
 b:Int
 c:Int
 l:Bool
 o:Bool
 s:Int
def dx.ps(m:dx):List PV:=[.int .i64 m.k,.int .i64 m.a,.int .i64 m.b,.int .i64 m.c,.bool m.l,.bool m.o,.int .i64 m.s]
theorem MQ{ms:List dx}{k:Nat}{m:dx}(h:ms[k]?=some m):(ms.map dx.ps)[k]?=some m.ps:=by rw[fX,h];rfl
def KM(L:List Let)(c:C)(blk:aB):Prop:=grown 896256128 CG 6 (w9 L) (.one c) blk\/grown 896512129 CG 6 (w9 L) (.one c) blk\/(L=[]/\c=.p (.sl []))
theorem KM.snap{L:List Let}{c:C}{blk:aB}(h:KM L c blk):∃r,Go.Abs.snap blk dO c=some (pR L,r):=by
 rcases h with h|h|⟨rfl,rfl⟩
 .obtain⟨r,h1,_⟩:=h.dO;exact⟨r,h1⟩
 .obtain⟨r,h1,_⟩:=h.dO;exact⟨r,h1⟩
 exact⟨[],rfl⟩
theorem KM.of_eq{L:List Let}{c:C}{blk ak:aB}(h:KM L c blk)(h1:ak 896256128=blk 896256128)(h2:ak 896512129=blk 896512129):KM L c ak:=by
 rcases h with h|h|h
 .exact .inl (h.of_eq h1)
 .exact .inr (.inl (h.of_eq h2))
 exact .inr (.inr h)
theorem alW{blk:aB}{rd:List Nat}{s:Nat}{e:Int}{l:Bool}:land blk rd s ((th e).gV l)=some (.tup [.agg [.p (.int .i64 0),.p .nils],.one (.p (.int .i64 e))],[]):=by cases l<;>(unfold land;rw[if_pos (.inr rfl)];rfl)
def isN(r:RV):Prop:= ∃i:Int,r=ri i
abbrev MP(m:dx):V:=gK m.k m.a m.b m.c m.l m.o m.s
section
variable {Q:ef} {aj:Env} {blk:aB} {os:List ch} {d:Option Nat}
end
def KL(s:Nat)(L:List Let)(c:C)(blk:aB):Prop:=grown s CG 6 (w9 L) (.one c) blk\/(L=[]/\c=.p (.sl []))
theorem KL.snap{s:Nat}{L:List Let}{c:C}{blk:aB}(h:KL s L c blk):∃r,Go.Abs.snap blk dO c=some (pR L,r):=by
 rcases h with h|⟨rfl,rfl⟩
 .obtain⟨r,h1,_⟩:=h.dO;exact⟨r,h1⟩
 exact⟨[],rfl⟩
theorem KL.of_eq{s:Nat}{L:List Let}{c:C}{blk ak:aB}(h:KL s L c blk)(h1:ak s=blk s):KL s L c ak:=by
 rcases h with h|h
 .exact .inl (h.of_eq h1)
 exact .inr h
section
variable {Q:ef} {aj:Env} {blk:aB} {os:List ch} {d:Option Nat}
end
end
end Go.Abs
