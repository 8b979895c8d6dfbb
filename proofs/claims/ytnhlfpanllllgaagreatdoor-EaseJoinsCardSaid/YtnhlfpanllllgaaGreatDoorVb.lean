/- A part. -/
import Derived.Test.YtnhlfpanllllgaaGreatDoorWw
set_option linter.all false
open List renaming length->I
set_option maxRecDepth 100000
set_option maxHeartbeats 16000000
namespace Go.Abs
variable{y:Int}{j g f F:Nat}{u z:cV}{L:ae}
section
variable{h:ae}{x:Int}{A:Nat}{m:cV}
section
attribute [local go_sem ↓] Vo R3
def dc(F:Nat)(h:ae)(k a b c:Int)(l o:Bool)(sg:Int):Bool:=
 if k=2 then !l&&(!o&&(sg==0&&((kR (I h) a||(I h==0&&a==0))&&(decide (0<=b)&&(decide (b<=(F:Int))&&(decide (0<=c)&&decide (c<=(di h b.toNat:Int))))))))
 else if k=3\/k=6 then !l&&(!o&&(sg==0&&(kR (I h) a&&(c==0&&(kR (I h) b&&decide (a<b))))))
 else if k=5 then !l&&((sg==1||sg== -1)&&(kR (I h) a&&(b==0&&c==0)))
 else if k=7 then sg==0&&(kR (I h) a&&(c==0&&(kR (I h) b&& !(a==b))))
 else if k=8 then !l&&(!o&&(sg==0&&(kR (I h) a&&(kR (I h) b&&(kR (I h) c&&(decide (a<b)&&decide (b<c)))))))
 else if k=1\/k=4\/k=9\/k=10 then !l&&(!o&&(sg==0&&(kR (I h) a&&(b==0&&c==0))))
 else false
def qd{i:Int}{x:Bool}(H:kR (I h) i=x):aJ S 145 [aC i,.one (.p (.box [.int .i64 (I h)]))] (dn x):=H▸auS i (I h)
def r8(h:¬x=0):(x==0)=false/\(x !=0):=by simp[h]
def wA(h:¬x=y):(x==y)=false/\(x !=y):=by simp[h]
section
variable {F:Nat} {h:ae} {a b c:Int} {l o:Bool} {sg:Int}
def Rg{k:Int}(B:k=1\/k=4\/k=9\/k=10):aJ S 121 [.one (.p (gT F h)),gP k a b c l o sg] (dn (dc F h k a b c l o sg)):=by
 obtain⟨v,hv⟩:∃v,dc F h k a b c l o sg=v:=⟨_,rfl⟩;rw[hv];rcases B with rfl|rfl|rfl|rfl
 all_goals
  refine bt GV ?_;simp only[go_sem,Fk,dU,cU,af,au];refine kr [0,3,4,5,6,7,8,9,10,41] λe1 m=>?_;simp only[go_sem]at m;cases l with
  |true=>
   obtain rfl:v=false:=by rw[<-hv];simp[dc]
   simp only[go_sem,dU,cU,m,af,au]
  |false=>
   simp only[go_sem,dU,cU,m,af,au];refine kr [0,3,4,5,6,7,8,9,10,53] λe2 j=>?_;simp only[go_sem,m]at j;cases o with
   |true=>
    obtain rfl:v=false:=by rw[<-hv];simp[dc]
    simp only[go_sem,dU,cU,j,af,au]
   |false=>
    simp only[go_sem,dU,cU,j,af,au];refine kr [0,3,4,5,6,7,8,9,10,60] λE f=>?_;simp only[go_sem,j]at f;by_cases hs:sg=0
    rotate_left
    .have D:=(r8 hs).1;have A:=(r8 hs).2;obtain rfl:v=false:=by rw[<-hv];simp[dc,hs]
     simp only[go_sem,dU,cU,f,A,af,au]
    subst hs;cases H:kR (I h) a with
    |false=>
     have aW:=qd H;obtain rfl:v=false:=by rw[<-hv];simp[dc,H]
     simp only[go_sem,dU,cU,f,aD aW,af,au]
    |true=>
     have aW:=qd H;simp only[go_sem,dU,cU,f,aD aW,af,au];refine kr [3,4,6,7,9,133] λe4 Q=>?_;simp only[go_sem,f,aD aW]at Q;by_cases g:b=0
     rotate_left
     .have z:=(r8 g).2;obtain rfl:v=false:=by rw[<-hv];simp[dc,H,g]
      simp only[go_sem,dU,cU,aD aW,Q,z,af,au]
     subst g;simp only[go_sem,dU,cU,aD aW,Q,af,au];refine kr [3,4,6,7,9,142] λe5 u=>?_;simp only[go_sem,aD aW,Q]at u;by_cases x:c=0
     rotate_left
     .have y:=(r8 x).2;obtain rfl:v=false:=by rw[<-hv];simp[dc,H,x]
      simp only[go_sem,dU,cU,aD aW,u,y,af,au]
     subst x;obtain rfl:v:=by rw[<-hv];simp[dc,H]
     simp only[go_sem,dU,cU,aD aW,u,af,au]
def axa:aJ S 121 [.one (.p (gT F h)),gP 2 a b c l o sg] (dn (dc F h 2 a b c l o sg)):=by
 obtain⟨v,hv⟩:∃v,dc F h 2 a b c l o sg=v:=⟨_,rfl⟩;rw[hv];refine bt GV ?_;simp only[go_sem,Fk,dU,cU,af,au];refine kr [0,3,4,5,6,7,8,9,10,41] λe1 R=>?_;simp only[go_sem]at R;cases l with
 |true=>
  obtain rfl:v=false:=by rw[<-hv];simp[dc]
  simp only[go_sem,dU,cU,R,af,au]
 |false=>
  simp only[go_sem,dU,cU,R,af,au];refine kr [0,3,4,5,6,7,8,9,10,53] λe2 O=>?_;simp only[go_sem,R]at O;cases o with
  |true=>
   obtain rfl:v=false:=by rw[<-hv];simp[dc]
   simp only[go_sem,dU,cU,O,af,au]
  |false=>
   simp only[go_sem,dU,cU,O,af,au];refine kr [0,3,4,5,6,7,8,9,10,60] λe3 D=>?_;simp only[go_sem,O]at D;by_cases hs:sg=0
   rotate_left
   .have jU:=(r8 hs).1;have gV:=(r8 hs).2;obtain rfl:v=false:=by rw[<-hv];simp[dc,hs]
    simp only[go_sem,dU,cU,D,gV,af,au]
   subst hs;cases H:kR (I h) a with
   |true=>
    have aW:=qd H;simp only[go_sem,dU,cU,D,dC aW,af,au];refine v7 [0,3,4,6,7,9,92] λe4 N=>?_;simp only[go_sem,D,dC aW]at N;by_cases L:0<=b
    rotate_left
    .obtain rfl:v=false:=by rw[<-hv];simp[dc,H,L]
     simp only[go_sem,dU,cU,dC aW,N,L,af,au];exact aI
    simp only[go_sem,dU,cU,dC aW,N,L,af,au];refine v7 [0,3,4,6,7,9,101] λe5 M=>?_;simp only[go_sem,dC aW,N,L]at M;by_cases Q:b<=(F:Int)
    rotate_left
    .obtain rfl:v=false:=by rw[<-hv];simp[dc,H,L,Q]
     simp only[go_sem,dU,cU,dC aW,L,M,Q,af,au];exact aI
    obtain⟨B,rfl⟩:=qX L;have E:B<=F:=J;have T:=jZ (Tm (L:=h) E);have f:B<F+1:=J;have g:I (jh h F)=F+1:=by simp[jh]
    simp only[go_sem,dU,cU,dC aW,L,M,Q,T,f,g,af,au];refine v7 [0,3,4,6,7,9,106] λe6 X=>?_;simp only[go_sem,dC aW,L,M,Q,T,f,g]at X;by_cases z:0<=c
    rotate_left
    .obtain rfl:v=false:=by rw[<-hv];simp[dc,H,L,Q,z]
     simp only[go_sem,dU,cU,dC aW,L,Q,T,f,g,X,z,af,au];exact aI
    by_cases A:c<=(di h B:Int)
    rotate_left
    .obtain rfl:v=false:=by rw[<-hv];simp[dc,H,L,Q,z,A]
     simp only[go_sem,dU,cU,dC aW,L,Q,T,f,g,X,z,A,af,au];exact aI
    obtain rfl:v:=by rw[<-hv];simp[dc,H,L,Q,z,A]
    simp only[go_sem,dU,cU,dC aW,L,Q,T,f,g,X,z,A,af,au];exact aI
   |false=>
    have aW:=qd H;by_cases j:I h=0
    rotate_left
    .have m:((I h:Int)==0)=false:=beq_false_of_ne J;have Z:h≠[]:=λab=>j (by rw[ab];rfl);obtain rfl:v=false:=by rw[<-hv];simp[dc,H,j,Z]
     simp only[go_sem,dU,cU,D,dC aW,m,af,au];exact aI
    have m:((I h:Int)==0):=by rw[j];rfl
    have Z:=uE.mp j;by_cases Y:a=0
    rotate_left
    .have FH:=(r8 Y).1;obtain rfl:v=false:=by rw[<-hv];simp[dc,H,Z,Y,show kR 0 a=false by rw[<-j];exact H]
     simp only[go_sem,dU,cU,D,dC aW,m,FH,af,au];exact aI
    subst Y;simp only[go_sem,dU,cU,D,dC aW,m,af,au];refine v7 [0,3,4,6,7,9,92] λe7 y=>?_;simp only[go_sem,D,dC aW,m]at y;by_cases L:0<=b
    rotate_left
    .obtain rfl:v=false:=by rw[<-hv];simp[dc,H,j,L]
     simp only[go_sem,dU,cU,dC aW,m,y,L,af,au];exact aI
    simp only[go_sem,dU,cU,dC aW,m,y,L,af,au];refine v7 [0,3,4,6,7,9,101] λe8 x=>?_;simp only[go_sem,dC aW,m,y,L]at x;by_cases Q:b<=(F:Int)
    rotate_left
    .obtain rfl:v=false:=by rw[<-hv];simp[dc,H,j,L,Q]
     simp only[go_sem,dU,cU,dC aW,m,L,x,Q,af,au];exact aI
    obtain⟨B,rfl⟩:=qX L;have E:B<=F:=J;have T:=jZ (Tm (L:=h) E);have f:B<F+1:=J;have g:I (jh h F)=F+1:=by simp[jh]
    simp only[go_sem,dU,cU,dC aW,m,L,x,Q,T,f,g,af,au];refine v7 [0,3,4,6,7,9,106] λe9 u=>?_;simp only[go_sem,dC aW,m,L,x,Q,T,f,g]at u;by_cases z:0<=c
    rotate_left
    .obtain rfl:v=false:=by rw[<-hv];simp[dc,H,j,L,Q,z]
     simp only[go_sem,dU,cU,dC aW,m,L,Q,T,f,g,u,z,af,au];exact aI
    by_cases A:c<=(di h B:Int)
    rotate_left
    .obtain rfl:v=false:=by rw[<-hv];simp[dc,H,j,L,Q,z,A]
     simp only[go_sem,dU,cU,dC aW,m,L,Q,T,f,g,u,z,A,af,au];exact aI
    obtain rfl:v:=by rw[<-hv];simp[dc,H,j,L,Q,z,A]
    simp only[go_sem,dU,cU,dC aW,m,L,Q,T,f,g,u,z,A,af,au];exact aI
def apF{k:Int}(A:k=3\/k=6):aJ S 121 [.one (.p (gT F h)),gP k a b c l o sg] (dn (dc F h k a b c l o sg)):=by
 obtain⟨v,hv⟩:∃v,dc F h k a b c l o sg=v:=⟨_,rfl⟩;rw[hv];rcases A with rfl|rfl
 all_goals
  refine bt GV ?_;simp only[go_sem,Fk,dU,cU,af,au];refine kr [0,3,4,5,6,7,8,9,10,41] λe1 M=>?_;simp only[go_sem]at M;cases l with
  |true=>
   obtain rfl:v=false:=by rw[<-hv];simp[dc]
   simp only[go_sem,dU,cU,M,af,au]
  |false=>
   simp only[go_sem,dU,cU,M,af,au];refine kr [0,3,4,5,6,7,8,9,10,53] λe2 m=>?_;simp only[go_sem,M]at m;cases o with
   |true=>
    obtain rfl:v=false:=by rw[<-hv];simp[dc]
    simp only[go_sem,dU,cU,m,af,au]
   |false=>
    simp only[go_sem,dU,cU,m,af,au];refine kr [0,3,4,5,6,7,8,9,10,60] λE j=>?_;simp only[go_sem,m]at j;by_cases hs:sg=0
    rotate_left
    .have B:=(r8 hs).1;have z:=(r8 hs).2;obtain rfl:v=false:=by rw[<-hv];simp[dc,hs]
     simp only[go_sem,dU,cU,j,z,af,au]
    subst hs;cases H:kR (I h) a with
    |false=>
     have aW:=qd H;obtain rfl:v=false:=by rw[<-hv];simp[dc,H]
     simp only[go_sem,dU,cU,j,aD aW,af,au]
    |true=>
     have aW:=qd H;simp only[go_sem,dU,cU,j,aD aW,af,au];refine kr [3,4,6,7,9,142] λe4 Q=>?_;simp only[go_sem,j,aD aW]at Q;by_cases x:c=0
     rotate_left
     .have y:=(r8 x).2;obtain rfl:v=false:=by rw[<-hv];simp[dc,H,x]
      simp only[go_sem,dU,cU,aD aW,Q,y,af,au]
     subst x;cases g:kR (I h) b with
     |false=>
      have f:=qd g;obtain rfl:v=false:=by rw[<-hv];simp[dc,H,g]
      simp only[go_sem,dU,cU,aD aW,Q,aD f,af,au]
     |true=>
      have f:=qd g;simp only[go_sem,dU,cU,aD aW,Q,aD f,af,au];refine kr [3,4,7,172,178] λe5 u=>?_;simp only[go_sem,aD aW,Q,aD f]at u;by_cases hl:a<b
      rotate_left
      .obtain rfl:v=false:=by rw[<-hv];simp[dc,H,g,hl]
       simp only[go_sem,dU,cU,aD aW,aD f,u,hl,af,au]
      obtain rfl:v:=by rw[<-hv];simp[dc,H,g,hl]
      simp only[go_sem,dU,cU,aD aW,aD f,u,hl,af,au]
def awQ:aJ S 121 [.one (.p (gT F h)),gP 5 a b c l o sg] (dn (dc F h 5 a b c l o sg)):=by
 obtain⟨v,hv⟩:∃v,dc F h 5 a b c l o sg=v:=⟨_,rfl⟩;rw[hv];refine bt GV ?_;simp only[go_sem,Fk,dU,cU,af,au];refine kr [0,3,4,5,6,7,8,9,10,41] λe1 M=>?_;simp only[go_sem]at M;cases l with
 |true=>
  obtain rfl:v=false:=by rw[<-hv];simp[dc]
  simp only[go_sem,dU,cU,M,af,au]
 |false=>
  simp only[go_sem,dU,cU,M,af,au];refine kr [0,3,4,5,6,7,8,9,10,60] λe2 j=>?_;simp only[go_sem,M]at j;by_cases Q:sg=0
  .subst Q;obtain rfl:v=false:=by rw[<-hv];simp[dc]
   simp only[go_sem,dU,cU,j,af,au]
  by_cases B:sg=1
  rotate_left;by_cases D:sg= -1
  rotate_left
  .have E:=(r8 Q).2;have fe:=(wA B).2;have L:=(wA D).2;obtain rfl:v=false:=by rw[<-hv];simp[dc,Q,B,D]
   simp only[go_sem,dU,cU,j,E,fe,L,af,au]
  .subst B;cases H:kR (I h) a with
   |false=>
    have aW:=qd H;obtain rfl:v=false:=by rw[<-hv];simp[dc,H]
    simp only[go_sem,dU,cU,j,aD aW,af,au]
   |true=>
    have aW:=qd H;simp only[go_sem,dU,cU,j,aD aW,af,au];refine kr [3,4,6,7,9,133] λN u=>?_;simp only[go_sem,j,aD aW]at u;by_cases f:b=0
    rotate_left
    .have z:=(r8 f).2;obtain rfl:v=false:=by rw[<-hv];simp[dc,H,f]
     simp only[go_sem,dU,cU,aD aW,u,z,af,au]
    subst f;simp only[go_sem,dU,cU,aD aW,u,af,au];refine kr [3,4,6,7,9,142] λe4 y=>?_;simp only[go_sem,aD aW,u]at y;by_cases g:c=0
    rotate_left
    .have x:=(r8 g).2;obtain rfl:v=false:=by rw[<-hv];simp[dc,H,g]
     simp only[go_sem,dU,cU,aD aW,y,x,af,au]
    subst g;obtain rfl:v:=by rw[<-hv];simp[dc,H]
    simp only[go_sem,dU,cU,aD aW,y,af,au]
  subst D;cases H:kR (I h) a with
  |false=>
   have aW:=qd H;obtain rfl:v=false:=by rw[<-hv];simp[dc,H]
   simp only[go_sem,dU,cU,j,aD aW,af,au]
  |true=>
   have aW:=qd H;simp only[go_sem,dU,cU,j,aD aW,af,au];refine kr [3,4,6,7,9,133] λe5 m=>?_;simp only[go_sem,j,aD aW]at m;by_cases f:b=0
   rotate_left
   .have z:=(r8 f).2;obtain rfl:v=false:=by rw[<-hv];simp[dc,H,f]
    simp only[go_sem,dU,cU,aD aW,m,z,af,au]
   subst f;simp only[go_sem,dU,cU,aD aW,m,af,au];refine kr [3,4,6,7,9,142] λe6 A=>?_;simp only[go_sem,aD aW,m]at A;by_cases g:c=0
   rotate_left
   .have x:=(r8 g).2;obtain rfl:v=false:=by rw[<-hv];simp[dc,H,g]
    simp only[go_sem,dU,cU,aD aW,A,x,af,au]
   subst g;obtain rfl:v:=by rw[<-hv];simp[dc,H]
   simp only[go_sem,dU,cU,aD aW,A,af,au]
end
end
section
attribute [local go_sem ↓] Vo R3
section
variable {F:Nat} {h:ae} {a b c:Int} {l o:Bool} {sg:Int}
def azv:aJ S 121 [.one (.p (gT F h)),gP 7 a b c l o sg] (dn (dc F h 7 a b c l o sg)):=by
 obtain⟨v,hv⟩:∃v,dc F h 7 a b c l o sg=v:=⟨_,rfl⟩;rw[hv];refine bt GV ?_;simp only[go_sem,Fk,dU,cU,af,au];refine kr [0,3,4,5,6,7,8,9,10,60] λe1 m=>?_;simp only[go_sem]at m;by_cases hs:sg=0
 rotate_left
 .have B:=(r8 hs).1;have z:=(r8 hs).2;obtain rfl:v=false:=by rw[<-hv];simp[dc,hs]
  simp only[go_sem,dU,cU,m,z,af,au]
 subst hs;cases H:kR (I h) a with
 |false=>
  have aW:=qd H;obtain rfl:v=false:=by rw[<-hv];simp[dc,H]
  simp only[go_sem,dU,cU,m,aD aW,af,au]
 |true=>
  have aW:=qd H;simp only[go_sem,dU,cU,m,aD aW,af,au];refine kr [3,4,6,7,9,142] λe2 j=>?_;simp only[go_sem,m,aD aW]at j;by_cases x:c=0
  rotate_left
  .have y:=(r8 x).2;obtain rfl:v=false:=by rw[<-hv];simp[dc,H,x]
   simp only[go_sem,dU,cU,aD aW,j,y,af,au]
  subst x;cases g:kR (I h) b with
  |false=>
   have f:=qd g;obtain rfl:v=false:=by rw[<-hv];simp[dc,H,g]
   simp only[go_sem,dU,cU,aD aW,j,aD f,af,au]
  |true=>
   have f:=qd g;simp only[go_sem,dU,cU,aD aW,j,aD f,af,au];by_cases u:a=b
   .subst u;obtain rfl:v=false:=by rw[<-hv];simp[dc,H,g]
    simp only[go_sem,dU,cU,aD aW,j,aD f,af,au]
   have A:=(wA u).2;obtain rfl:v:=by rw[<-hv];simp[dc,H,g,u]
   simp only[go_sem,dU,cU,aD aW,j,aD f,A,af,au]
def auA:aJ S 121 [.one (.p (gT F h)),gP 8 a b c l o sg] (dn (dc F h 8 a b c l o sg)):=by
 obtain⟨v,hv⟩:∃v,dc F h 8 a b c l o sg=v:=⟨_,rfl⟩;rw[hv];refine bt GV ?_;simp only[go_sem,Fk,dU,cU,af,au];refine kr [0,3,4,5,6,7,8,9,10,41] λe1 M=>?_;simp only[go_sem]at M;cases l with
 |true=>
  obtain rfl:v=false:=by rw[<-hv];simp[dc]
  simp only[go_sem,dU,cU,M,af,au]
 |false=>
  simp only[go_sem,dU,cU,M,af,au];refine kr [0,3,4,5,6,7,8,9,10,53] λe2 x=>?_;simp only[go_sem,M]at x;cases o with
  |true=>
   obtain rfl:v=false:=by rw[<-hv];simp[dc]
   simp only[go_sem,dU,cU,x,af,au]
  |false=>
   simp only[go_sem,dU,cU,x,af,au];refine kr [0,3,4,5,6,7,8,9,10,60] λE g=>?_;simp only[go_sem,x]at g;by_cases hs:sg=0
   rotate_left
   .have A:=(r8 hs).1;have z:=(r8 hs).2;obtain rfl:v=false:=by rw[<-hv];simp[dc,hs]
    simp only[go_sem,dU,cU,g,z,af,au]
   subst hs;cases H:kR (I h) a with
   |false=>
    have aW:=qd H;obtain rfl:v=false:=by rw[<-hv];simp[dc,H]
    simp only[go_sem,dU,cU,g,aD aW,af,au]
   |true=>
    have aW:=qd H;simp only[go_sem,dU,cU,g,aD aW,af,au];cases j:kR (I h) b with
    |false=>
     have f:=qd j;obtain rfl:v=false:=by rw[<-hv];simp[dc,H,j]
     simp only[go_sem,dU,cU,g,aD aW,aD f,af,au]
    |true=>
     have f:=qd j;cases u:kR (I h) c with
     |false=>
      have m:=qd u;obtain rfl:v=false:=by rw[<-hv];simp[dc,H,j,u]
      simp only[go_sem,dU,cU,g,aD aW,aD f,aD m,af,au]
     |true=>
      have m:=qd u;simp only[go_sem,dU,cU,g,aD aW,aD f,aD m,af,au];refine kr [3,4,7,172,178] λe4 Q=>?_;simp only[go_sem,g,aD aW,aD f,aD m]at Q;by_cases hl:a<b
      rotate_left
      .obtain rfl:v=false:=by rw[<-hv];simp[dc,H,j,u,hl]
       simp only[go_sem,dU,cU,aD aW,aD f,aD m,Q,hl,af,au]
      by_cases y:b<c
      rotate_left
      .obtain rfl:v=false:=by rw[<-hv];simp[dc,H,j,u,hl,y]
       simp only[go_sem,dU,cU,aD aW,aD f,aD m,Q,hl,y,af,au]
      obtain rfl:v:=by rw[<-hv];simp[dc,H,j,u,hl,y]
      simp only[go_sem,dU,cU,aD aW,aD f,aD m,Q,hl,y,af,au]
def aqs(k:Int):aJ S 121 [.one (.p (gT F h)),gP k a b c l o sg] (dn (dc F h k a b c l o sg)):=by
 by_cases x:k=1
 .subst x;exact Rg U
 by_cases f:k=2
 .subst f;exact axa
 by_cases g:k=3
 .subst g;exact apF U
 by_cases u:k=4
 .subst u;exact Rg U
 by_cases z:k=5
 .subst z;exact awQ
 by_cases j:k=6
 .subst j;exact apF U
 by_cases y:k=7
 .subst y;exact azv
 by_cases H:k=8
 .subst H;exact auA
 by_cases m:k=9
 .subst m;exact Rg U
 by_cases D:k=10
 .subst D;exact Rg U
 rw[show dc F h k a b c l o sg=false by simp[dc,x,f,g,u,z,j,y,H,m,D]];have e1:=(wA x).1;have e2:=(wA f).1;have E:=(wA g).1;have e4:=(wA u).1;have e5:=(wA z).1;have e6:=(wA j).1;have e7:=(wA y).1;have e8:=(wA H).1;have e9:=(wA m).1;have fD:=(wA D).1;refine bt GV ?_;simp only[go_sem,Fk,dU,cU,e1,e2,E,e4,e5,e6,e7,e8,e9,fD,af,au]
end
end
structure Vq {α:Type} (lt:α->α->Bool):Prop where
 asym:∀a b,lt a b->lt b a=false
 ntrans:∀a b c,lt b a=false->lt c b=false->lt c a=false
def xj{α:Type}(lt:α->α->Bool)(m:List α)(a b:Nat):Prop:=∀p q x y,a<=p->p<q->q<b->m[p]?=some x->m[q]?=some y->lt y x=false
structure AL {α:Type} (lt:α->α->Bool) (zs ws:List α) (x:α) (a i j:Nat):Prop where
 perm:ws.Perm zs
 le:a<=j/\j<=i/\i<I ws
 at':ws[j]?=some x
 up:∀p y,j<p->p<=i->ws[p]?=some y->lt x y
 so:∀p q y z,a<=p->p<q->q<=i->p≠j->q≠j->ws[p]?=some y->ws[q]?=some z->lt z y=false
 out:∀p,p<a\/i<p->ws[p]?=zs[p]?
def AL.start{α:Type}{lt:α->α->Bool}{zs:List α}{x:α}{a i:Nat}(j:a<=i)(h:zs[i]?=some x)(hs:xj lt zs a i):AL lt zs zs x a i i:=
 ⟨.refl _,⟨j,cT _,(cD.1 h).1⟩,h,λp y H f=>J,λp q y z g H f m u=>hs p q y z g H J,λ_ _=>rfl⟩
def awi{α:Type}{m:List α}{i:Nat}{x y:α}(g:m[i]?=some x)(h:m[j]?=some y):((m.set i y).set j x).Perm m:=by obtain⟨f,e1⟩:=cD.1 g;obtain⟨H,e2⟩:=cD.1 h;have:=List.set_set_perm f H;rwa[e1,e2]at this
def AL.step{α:Type}{lt:α->α->Bool}{zs m:List α}{x y:α}{a i:Nat}(o:Vq lt)(h:AL lt zs m x a i (j+1))(L:a<=j)(B:m[j]?=some y)(Q:lt x y):
  AL lt zs ((m.set (j+1) y).set j x) x a i j:=by
 obtain⟨hp,⟨_,Z,hl⟩,O,N,M,T⟩:=h;have D:j<I m:=(cD.1 B).1;have get:∀p,((m.set (j+1) y).set j x)[p]?=if p=j then some x else if p=j+1 then some y else m[p]? :=λp=>by
  rw[mA,mA,kI];by_cases e1:j=p
  .subst e1;simp[D]
  by_cases e2:j+1=p
  .subst e2;have:¬(j+1=j):=J;rw[aw e1,aH rfl,aH J,aw this,aH rfl]
  rw[aw e1,aw e2,aw (λh=>e1 h.symm),aw (λh=>e2 h.symm)]
 refine⟨(awi O B).trans hp,⟨L,J,by simp;omega⟩,by rw[get];simp,?_,?_,?_⟩
 .intro p z F A g;rw[get,aw J]at g;by_cases e:p=j+1
  .rw[aH e]at g;cases g;exact Q
  rw[aw e]at g;exact N p z J A g
 .intro p q u v E F A Y R f H;rw[get,aw Y]at f;rw[get,aw R]at H;by_cases e:p=j+1
  .rw[aH e]at f;cases f;rw[aw J]at H;exact M j q _ _ L J A J J B H
  rw[aw e]at f;by_cases e2:q=j+1
  .rw[aH e2]at H;cases H;exact M p j _ _ E J J e J f B
  rw[aw e2]at H;exact M p q _ _ E F A e e2 f H
 intro p X;rw[get,aw J,aw J,T p X]
def AL.stop{α:Type}{lt:α->α->Bool}{zs m:List α}{x:α}{a i:Nat}(o:Vq lt)(h:AL lt zs m x a i j)(B:j=a\/ ∃y,a<j/\m[j-1]?=some y/\lt x y=false):xj lt m a (i+1):=by
 obtain⟨hp,⟨F,O,hl⟩,z,L,M,Q⟩:=h;intro p q u v A D R H f;by_cases e:q=j
 .subst e;rw[z]at f;cases f;rcases B with B|⟨y,T,g,E⟩
  .omega
  by_cases N:p=q-1
  .subst N;rw[g]at H;cases H;exact E
  exact o.ntrans _ _ _ (M p (q-1) _ _ A J J J J H g) E
 by_cases e2:p=j
 .subst e2;rw[z]at H;cases H;exact o.asym _ _ (L q v D J f)
 exact M p q u v A D J e2 e H f
def xj.mono{α:Type}{lt:α->α->Bool}{m:List α}{a b c:Nat}(h:xj lt m a c)(H:b<=c\/I m<=c):xj lt m a b:=λp q x y j g z u f=>h p q x y j g (by
 rcases H with H|H
 .omega
 have:=(cD.1 f).1;omega) u f
abbrev s6(a b:Int):Bool:=decide (a<b)
def aeN:Vq s6:=⟨λa b h=>by simp at*;omega,λa b c h k=>by simp at*;omega⟩
def aAd(a:Int):aJ S 262 [aC a] (dn false):=by refine bt avN ?_;have h:(a !=a)=false:=aQ;simp only[go_sem,ahd,h,af,au]
def aD6(a b:Int):aJ S 239 [aC a,aC b] (dn (s6 a b)):=by have f:=aAd a;refine bt azL ?_;simp only[go_sem,ajC,aA9,aD f,s6,af,au]
def acW(n:Nat)(h:n<=1000000):∃k:Int,aJ S 194 [.one (.p (.int .u64 n))] (fQ k):=by
 refine⟨((Lib.bitLen n:Nat):Int),⟨1,?_⟩⟩;have hp:S.prim 194 [.one (.p (.int .u64 (n:Int)))]=some (some (fQ ((Lib.bitLen n:Nat):Int))):=by show some (Nx [.one (.p (.int .u64 (n:Int)))])=_;simp only[Nx];rw[aH ⟨J,J⟩];rfl
 rw[jd,hp]
def WQ(o:cV)(k:Nat)(v:Int):(dR o).set k [.int .i64 v]=dR (o.set k v):=by simp[xf]
def qy(o:cV):I (dR o)=I o:=cH _
def E0(lt:Int->Int->Bool)(id g A:Nat)(u:cV)(aj:aB)(v:V)(f:aB):Prop:=v=.tup []/\(∃m:cV,f id=(g,some (.arr A 1 (dR m)))/\m.Perm u/\xj lt m 0 (I m))/\dG (· =id) aj f
def atj{al:cG}{aj:aB}{id:Nat}(o:al.ok id)(hl:I u<=1000000)(hC:aj id=(g,some (.arr A 1 (dR u)))):
  ∃v z,je S 233 [.one (.hsl id g 1 0 (I u)),aC 0,aC (I u)] al aj v z/\E0 s6 id g A u aj v z:=by
 refine nc aEj (jn rfl) ?_;have w0:IntKind.i64.wrap (0+1)=((0+1:Nat):Int):=U;simp only[go_sem,i233,w0,af,au];refine c_ (λk f z=>f 0=.one (.hsl id g 1 0 (I u))/\f 1=aC 0/\f 2=aC (I u)/\f 6=aC ((k+1:Nat):Int)/\ ∃zs:cV,z id=(g,some (.arr A 1 (dR zs)))/\zs.Perm u/\xj s6 zs 0 (k+1)/\dG (· =id) aj z) 0 (I u) (cE _) ?_ ?_
 .simp only[go_sem];exact⟨rfl,u,hC,.refl _,λp q x y _ E B=>J,dG.refl _ _⟩
 rintro k f bY hk ⟨M,E,B,h6,zs,hZ,hp,hs,dD⟩
 have pW:=hp.length_eq;by_cases aq:k+1<I u
 .have R:((k+1:Nat):Int)<(I u:Int):=J;obtain⟨x,hx⟩:=aR (L:=zs) (k:=k+1) J;simp only[go_sem,aa6,M,E,B,h6,R,af,au];refine c_ (λq f z=>f 0=.one (.hsl id g 1 0 (I u))/\f 1=aC 0/\f 2=aC (I u)/\f 6=aC ((k+1:Nat):Int)/\f 7=aC ((k+1-q:Nat):Int)/\ ∃m:cV,z id=(g,some (.arr A 1 (dR m)))/\AL s6 zs m x 0 (k+1) (k+1-q)/\dG (· =id) aj z) 0 (k+1) (cE _) ?_ ?_
  .simp only[go_sem,M,E,B,h6];exact⟨zs,hZ,AL.start (cE _) hx hs,dD⟩
  rintro q dz bJ hq ⟨O,L,k2,Y,D,m,N,H,Ja⟩
  have iX:I m=I u:=H.perm.length_eq.trans pW;have Q:IntKind.i64.wrap (((k+1:Nat):Int)+1)=((k+1+1:Nat):Int):=cP (n:=k+1) J;by_cases Z:k+1-q=0
  .have e7:¬((0:Int)<((k+1-q:Nat):Int)):=J;simp only[go_sem,TB,SM,O,L,k2,Y,D,e7,Q,af,au];refine⟨aI,J,m,N,H.perm.trans hp,H.stop aeN (.inl Z),Ja⟩
  obtain⟨j,hj⟩:∃j,k+1-q=j+1:=⟨k-q,J⟩;have e7:((0:Int)<((j+1:Nat):Int)):=J;obtain⟨y,X⟩:=aR (L:=m) (k:=j) J;rw[hj]at H D;have wj:IntKind.i64.wrap (((j+1:Nat):Int)-1)=(j:Int):=by rw[u9 J];omega
  have wR:=vT H.at';have F2:=vT X;have j1:j+1<I u:=by have:=H.le;omega
  have j2:j<I u:=J;have pl:=aD6 x y;cases F:s6 x y with
  |false=>rw[F]at pl;simp only[go_sem,TB,SM,O,L,k2,Y,D,e7,Q,wj,N,wR,F2,j1,j2,o,apV,T2 pl,af,au];refine⟨aI,J,m,rfl,H.perm.trans hp,H.stop aeN (.inr ⟨y,J,X,F⟩),Ja⟩
  |true=>rw[F]at pl;have zH:=H.step aeN (cE _) X F;have T:¬(j+1=j):=J;have l1:j+1<I m:=J;have l2:j<I m:=J;simp only[go_sem,TB,SM,O,L,k2,Y,D,e7,Q,wj,N,wR,F2,j1,j2,l1,l2,T,o,apV,T2 pl,mA,kI,qy,af,au];have PU:k+1-(q+1)=j:=J;refine⟨aI,aI,J,by rw[PU],(m.set (j+1) y).set j x,by rw[WQ,WQ],by rw[PU];exact zH,(Ja.dE rfl _).dE rfl _⟩
 have R:¬(((k+1:Nat):Int)<(I u:Int)):=J;simp only[go_sem,aa6,M,E,B,h6,R,af,au];exact⟨rfl,⟨zs,hZ,hp,hs.mono (.inl J)⟩,dD⟩
def Bl{Q:fM}{al:cG}{x:bn}{aj:aB}{os:eZ}{d:eh}{id A z o n:Nat}{j:dN}{u:s_}{P:V->aB->Prop}(y:aj id=(g,some (.arr A z u)))(E:(j.map (jA aj)).flatten=[])(D:al=.all\/al.ok id/\(S.sites f).all al.fs.contains)
  (h:∀T,T.ok id->T.fs=S.sites f->∃v m,je S f (.one (.hsl id g z o n)::j) T aj v m/\P v m)
  (F:∀v m,P v m->iH S al os Q (dF x d v) m):iU S al (.sc f (.one (.hsl id g z o n)::j)) d os Q x aj:=by
 have H:((V.one (.hsl id g z o n)::j).map (jA aj)).flatten=[id]:=by rw[eR,lI,E,KH y];rfl
 refine qq (P:=P) ?_ (h _ (qf (by rw[H];simp)) rfl) F;rcases D with rfl|⟨L,B⟩
 .rfl
 refine E9 ?_ B;show al.gH ((V.one (.hsl id g z o n)::j).map (jA aj)).flatten=true;rw[H];simp[cG.gH,L]
def aw6{al:cG}{aj:aB}{id:Nat}(o:al.ok id)(F:al.fs.contains 233)(hl:I u<=12)(h:aj id=(g,some (.arr A 1 (dR u))))(lim:Int):
  ∃v f,je S 207 [.one (.hsl id g 1 0 (I u)),aC 0,aC (I u),aC lim] al aj v f/\E0 s6 id g A u aj v f:=by
 refine nc ar6 (jn rfl) ?_;have j:IntKind.i64.wrap ((I u:Int)-0)=(I u:Int):=by rw[Int.sub_zero];exact nK J J
 have y:(I u:Int)<=12:=J;simp only[go_sem,ank,af,au];refine mx ?_;simp only[go_sem,aqc,j,y,awG,af,au];refine Bl h (by rfl) (.inr ⟨o,by rw[show S.sites 233=[233] by kernel_rfl];simp only[mN,oc,F,wX]⟩) (P:=E0 s6 id g A u aj) (λT x _=>atj x J h) λv f m=>?_;obtain⟨rfl,H⟩:=m;simp only[go_sem,af,au];exact⟨rfl,H⟩
def abe{al:cG}{aj:aB}{id:Nat}(o:al.ok id)(F:(S.sites 207).all al.fs.contains)(hl:I u<=12)(H:aj id=(g,some (.arr A 1 (dR u)))):
  ∃v j,je S 186 [.one (.hsl id g 1 0 (I u))] al aj v j/\E0 s6 id g A u aj v j:=by
 obtain⟨k,pb⟩:=acW (I u) J;have x:IntKind.u64.wrap (I u:Int)=(I u:Int):=by
  have e:IntKind.u64.wrap (I u:Int)=(I u:Int)%18446744073709551616:=by unfold IntKind.wrap;rfl
  rw[e];omega
 refine nc aDm (jn rfl) ?_;have f:S.shared 194=false:=ah;simp only[go_sem,amo,x,f,G4 pb,at3,af,au];refine Bl H (by rfl) (.inr ⟨o,F⟩) (P:=E0 s6 id g A u aj) (λT y h=>aw6 y (by rw[h];kernel_rfl) hl H k) λv j m=>?_;obtain⟨rfl,h⟩:=m;simp only[go_sem,af,au];exact⟨rfl,h⟩
def oa(m:cV):Nat->cV
 |0=>[]
 |k+1=>match m[k]? with
  |some x=>if 0<k/\m[k-1]?=some x then oa m k else oa m k++[x]
  |none=>oa m k
def ajx(m:cV):∀k,I (oa m k)<=k:=by
 intro k
 induction k with
 |zero=>exact cT _
 |succ k f=>
  unfold oa;split
  .split
   .omega
   simp;omega
  omega
def adZ{k:Nat}(h:m[k+1]?=some x)(hp:m[k]?=some x):oa m (k+2)=oa m (k+1):=by
 conv=>lhs;unfold oa
 rw[h];simp[hp]
def aaD{k:Nat}(h:m[k+1]?=some x)(hp:m[k]?=some y)(H:¬x=y):oa m (k+2)=oa m (k+1)++[x]:=by
 conv=>lhs;unfold oa
 rw[h];have:¬y=x:=λe=>H e.symm;simp[hp,this]
def aEm(h:m[0]?=some x):oa m 1=[x]:=by simp[oa,h]
def Vk(m:cV)(k:Nat):Prop:=∀i x y,i+1<k->m[i]?=some x->m[i+1]?=some y-> ¬y=x
def abQ:∀k,k<=I m->Vk m k->oa m k=m.take k:=by
 intro k
 induction k with
 |zero=>intro _ _;rfl
 |succ k j=>
  intro z u;obtain⟨x,H⟩:=aR (L:=m) (k:=k) J;have e:=j J λi x y A=>u i x y J;have g:m.take (k+1)=m.take k++[x]:=by rw[iJ,H];rfl
  rcases k with _|k
  .rw[aEm H,g];rfl
  obtain⟨y,f⟩:=aR (L:=m) (k:=k) J;rw[aaD H f (u k y x J f H),e,g]
structure Be (ws cs:cV) (k q:Nat):Prop where
 len:I cs=I ws
 kl:k=I (oa ws q)
 pre:cs.take k=oa ws q
 out:∀p,q-1<=p->cs[p]?=ws[p]?
 kq:k<q
def Be.step{k q:Nat}(h:Be m z k (q+1))(H:m[q+1]?=some x)(f:m[q]?=some y)(g:¬x=y):Be m (z.set k x) (k+1) (q+2):=by
 obtain⟨A,j,B,u,E⟩:=h;have hl:=ajx m (q+1);have D:q+1<I m:=(cD.1 H).1;refine⟨by simpa using A,by rw[aaD H f g,fv,<-j];rfl,?_,λp hp=>?_,J⟩
 .rw[aaD H f g,iJ,mA];have:k<I z:=J;rw[aH rfl,aH this,List.take_set_of_le (cT _),B];rfl
 rw[mA,aw J];exact u p J
def Be.skip{k q:Nat}(h:Be m z k (q+1))(f:m[q+1]?=some x)(H:m[q]?=some x):Be m z k (q+2):=by obtain⟨u,g,y,j,A⟩:=h;exact⟨u,by rw[adZ f H];exact g,by rw[adZ f H];exact y,λp hp=>j p J,J⟩
def Be.start{k:Nat}(g:k+1<I m)(h:Vk m (k+1))(f:m[k+1]?=some x)(H:m[k]?=some x):Be m m (k+1) (k+2):=by have e:=abQ (k+1) J h;have e2:oa m (k+2)=m.take (k+1):=(adZ f H).trans e;exact⟨rfl,by rw[e2];simp;omega,by rw[e2],λ_ _=>rfl,J⟩
def Z3(id g A:Nat)(m:cV)(aj:aB)(v:V)(f:aB):Prop:=v=.one (.hsl id g 1 0 (I (oa m (I m))))/\(∃z:cV,f id=(g,some (.arr A 1 (dR z)))/\I z=I m/\z.take (I (oa m (I m)))=oa m (I m))/\dG (· =id) aj f
def aqK{k:Nat}(h:k<=I z):List.take k (dR z)++List.replicate (I z-k) [PV.int .i64 0]++List.drop (k+(I z-k)) (dR z)=dR (z.take k++List.replicate (I z-k) 0):=by rw[NQ (by simp;omega),lg];simp only[dR,lU,List.map_replicate,Ex]
def aiv{al:cG}{aj:aB}{id:Nat}(o:al.ok id)(hl:I m<=1000000)(E:aj id=(g,some (.arr A 1 (dR m)))):
  ∃v j,je S 187 [.one (.hsl id g 1 0 (I m))] al aj v j/\Z3 id g A m aj v j:=by
 refine nc aGY (jn rfl) ?_;by_cases h2:I m<2
 .have j7:((I m:Int)<2):=J;have F:Vk m (I m):=λi x y ar=>J;have e:=abQ (I m) (cT _) F;rw[jN]at e;simp only[go_sem,Xl,j7,af,au];exact⟨by rw[e],⟨m,E,rfl,by rw[e,jN]⟩,dG.refl _ _⟩
 have j7:¬((I m:Int)<2):=J;simp only[go_sem,Xl,j7,af,au];refine c_ (λq f j=>f 0=.one (.hsl id g 1 0 (I m))/\f 3=aC ((q+1:Nat):Int)/\Vk m (q+1)/\j=aj) 0 (I m) (cE _) ?_ ?_
 .simp only[go_sem];exact⟨rfl,λi x y ar=>J⟩
 rintro q f bY hq ⟨O,N,F,rfl⟩
 by_cases L:q+1<I m
 .have M:(((q+1:Nat):Int)<(I m:Int)):=J;obtain⟨x,hx⟩:=aR (L:=m) (k:=q+1) L;obtain⟨y,hy⟩:=aR (L:=m) (k:=q) J;have wR:=vT hx;have F2:=vT hy;have wj:IntKind.i64.wrap (((q+1:Nat):Int)-1)=(q:Int):=by rw[u9 J];omega
  have wk:=cP (n:=q+1) J;have q1:q<I m:=J;have q2:q+1<=I m:=J;by_cases e:x=y
  .subst e;simp only[go_sem,Q9,O,N,L,M,wR,F2,wj,q1,q2,E,o,af,au];refine⟨aI,?_⟩;refine c_ (λr f j=>f 0=.one (.hsl id g 1 0 (I m))/\f 4=.one (.hsl id g 1 (q+1) (I m-(q+1)))/\f 5=aC ((r+1:Nat):Int)/\ ∃(z:cV) (k:Nat),f 3=aC (k:Nat)/\j id=(g,some (.arr A 1 (dR z)))/\Be m z k (q+2+r)/\q+2+r<=I m/\dG (· =id) bY j) 0 (I m) (cE _) ?_ ?_
   .simp only[go_sem,O];exact⟨rfl,m,q+1,N,E,Be.start L F hx hy,J,dG.refl _ _⟩
   rintro r dz bJ hr ⟨k0,k4,ef,z,k,R,hB,H,an,Q⟩
   have cN:=H.len;have ff:=H.kl;have ag:=ajx m (q+2+r);have ap:=H.kq;have DK:Be m z k (q+1+r+1):=by rw[show q+1+r+1=q+2+r by omega];exact H
   by_cases TW:r+1<I m-(q+1)
   .have T:(((r+1:Nat):Int)<((I m-(q+1):Nat):Int)):=J;obtain⟨u,Y⟩:=aR (L:=m) (k:=q+1+(r+1)) J;obtain⟨v,hv⟩:=aR (L:=m) (k:=q+1+r) J;have cu:=vT ((H.out (q+1+(r+1)) J).trans Y);have cv:=vT ((H.out (q+1+r) J).trans hv);have wr:IntKind.i64.wrap (((r+1:Nat):Int)-1)=(r:Int):=by rw[u9 J];omega
    have D:=cP (n:=r+1) J;have ab:=cP (n:=k) J;have r1:r<I m-(q+1):=J;have kk:k<I m:=J;have B:k<I z:=J;obtain⟨av,hz⟩:=aR B;have cz:=vT hz;by_cases e2:u=v
    .subst e2;have HD:(u !=u)=false:=aQ;have Z:=DK.skip (by rw[show q+1+r+1=q+1+(r+1) by omega];exact Y) hv;simp only[go_sem,RC,k0,k4,ef,R,TW,T,r1,hB,cu,cv,wr,D,HD,o,af,au];refine⟨aI,J,z,k,rfl,rfl,by rw[show q+2+(r+1)=q+1+r+2 by omega];exact Z,J,Q⟩
    have HD:=(show(u !=v)=true by simp[e2]);simp only[go_sem,RC,k0,k4,ef,R,TW,T,r1,hB,cu,cv,wr,D,ab,kk,B,cz,HD,o,qy,af,au];have Z:=DK.step (by rw[show q+1+r+1=q+1+(r+1) by omega];exact Y) hv e2;refine⟨aI,J,z.set k u,k+1,rfl,by rw[WQ],by rw[show q+2+(r+1)=q+1+r+2 by omega];exact Z,J,Q.dE rfl _⟩
   have T:¬(((r+1:Nat):Int)<((I m-(q+1):Nat):Int)):=J;have ac:k<=I m:=J;have ad:k+(I m-k)<=I z:=J;have aN:¬(I m-k=0):=J;have I2:q+2+r=I m:=J;rw[I2]at H;have rI:=aqK (z:=z) (k:=k) J;rw[cN]at rI;simp only[go_sem,RC,aff,k0,k4,ef,R,T,hB,o,ac,ad,aN,Tq,qy,rI,af,au];obtain⟨i1,i2,i3,i4,i5⟩:=H;refine⟨by rw[<-i2],⟨_,sW,by simp;omega,?_⟩,Q.dE rfl _⟩;rw[<-i2,List.take_left' (by simp;omega),i3]
  have e1:=(show(x==y)=false by simp[e]);simp only[go_sem,Q9,amM,O,N,L,M,wR,F2,wj,wk,q1,E,o,e1,af,au];refine⟨aI,λi u v ar X h5=>?_⟩;by_cases e2:i=q
  .subst e2;rw[hy]at X;rw[hx]at h5;cases X;cases h5;exact e
  exact F i u v J X h5
 have M:¬(((q+1:Nat):Int)<(I m:Int)):=J;have e:=abQ (I m) (cT _) (λi x y ar=>F i x y J);rw[jN]at e;simp only[go_sem,Q9,afW,O,N,M,af,au];exact⟨by rw[e],⟨m,E,rfl,by rw[e,jN]⟩,dG.refl _ _⟩
def me:cV->cV
 |[]=>[]
 |x::r=>if x∈r then me r else x::me r
def GB:∀ {l:cV},x∈me l↔x∈l:=by
 intro l
 induction l with
 |nil=>simp[me]
 |cons y r f=>
  unfold me;split
  .rename_i h;rw[f,dk];constructor
   .exact .inr
   rintro(rfl|H)
   .exact h
   exact H
  rw[dk,dk,f]
def ay9:∀l:cV,(me l).Nodup:=by
 intro l
 induction l with
 |nil=>exact tA
 |cons y r f=>
  unfold me;split
  .exact f
  rename_i h;exact o0.2 ⟨λH=>h (GB.1 H),f⟩
def aoa:∀k,k<=I m->(x∈oa m k↔x∈m.take k):=by
 intro k
 induction k with
 |zero=>intro _;simp[oa]
 |succ k f=>
  intro B;obtain⟨y,g⟩:=aR (L:=m) (k:=k) J;have A:m.take (k+1)=m.take k++[y]:=by rw[iJ,g];rfl
  have f:=f J;unfold oa;rw[g,A];simp only;split
  .rename_i H;obtain⟨D,u⟩:=H;have j:y∈m.take k:=by
    rw[List.mem_take_iff_getElem];obtain⟨E,z⟩:=cD.1 u;exact⟨k-1,J,z⟩
   rw[f,fc];constructor
   .exact .inl
   rintro(H|H)
   .exact H
   simp at H;subst H;exact j
  rw[fc,fc,f]
def ase(hs:xj s6 m 0 (I m)):∀k,k<=I m->(oa m k).Nodup:=by
 intro k
 induction k with
 |zero=>intro _;exact tA
 |succ k f=>
  intro F;obtain⟨y,A⟩:=aR (L:=m) (k:=k) J;have f:=f J;unfold oa;rw[A];simp only;split
  .exact f
  rename_i L;rw[BI];refine⟨f,aQ,λz B w x=>?_⟩;simp at x;subst x;rintro rfl
  rw[aoa k J,List.mem_take_iff_getElem]at B;obtain⟨p,hp,j⟩:=B;have Y:p<k:=J;have O:m[p]?=some z:=by rw[sT J,j]
  obtain⟨u,H⟩:=aR (L:=m) (k:=k-1) J;have D:=hs (k-1) k u z (cE _) J J H A;have g:u=z:=by
   by_cases e:p=k-1
   .rw[e,H]at O;cases O;rfl
   have E:=hs p (k-1) z u (cE _) J J O H;simp at D E;omega
  rw[g]at H;exact L ⟨J,H⟩
def ahl(hp:m.Perm u)(hs:xj s6 m 0 (I m)):I (oa m (I m))=I (me u):=by refine List.Perm.length_eq ((List.perm_ext_iff_of_nodup (ase hs _ (cT _)) (ay9 u)).2 λx=>?_);rw[aoa _ (cT _),jN,GB,hp.mem_iff]
def xy(h:ae)(e:Nat):Bool:=((aW h e).l.kind==2)&&((aW h (aK h e)).l.kind==2)
def s0(h:ae)(u:aG):cV:=u.flatMap λe:Nat=>[(e:Int),(aK h e:Int)]
def vn(h:ae)(u:aG):cV:=u.flatMap λe:Nat=>[(aW h e).l.id,(aW h (aK h e)).l.id]
def EO(F:Nat)(h:ae)(a b c:Nat):Bool:=[a,b,c].all (xy h)&&((I (me (s0 h [a,b,c]))==6)&&((I (me (vn h [a,b,c]))==3)&&([a,b,c].any (jY h · true)&&([a,b,c].any (jY h · false)&&oT F h 0 [a,b,c] a))))
def ui(F:Nat)(h:ae)(a b c:Nat):Option cY:=if EO F h a b c then some (jQ h (cq h) [a,b,c])else none
def U1(f:Nat->cV)(h:∀e,I (f e)=2):∀l:aG,I (l.flatMap f)=2*I l:=by
 intro l
 induction l with
 |nil=>rfl
 |cons a r g=>rw[Bw,fv,g,h,dw];omega
def amu(f:Nat->cV)(l:aG)(k e:Nat)(h:l[k]?=some e):(l.take (k+1)).flatMap f=(l.take k).flatMap f++f e:=by rw[iJ,h];simp
def an6(f:Nat->Bool)(l:aG)(k e:Nat)(h:l[k]?=some e):(l.take (k+1)).any f=((l.take k).any f||f e):=by rw[iJ,h];simp
def auX(f:Nat->Bool)(l:aG)(k e:Nat)(h:l[k]?=some e):(l.take (k+1)).all f=((l.take k).all f&&f e):=by rw[iJ,h];simp
def aln(f:Nat->cV)(u:aG)(x y:Int):dR (u.flatMap f)++[[PV.int .i64 x],[PV.int .i64 y]]=dR (u.flatMap f++[x,y]):=aQ
def aqt(g:cK F h){A bv L:Nat}(ha:A<I h)(hb:bv<I h)(hc:L<I h){k:Int}{l o:Bool}{sg:Int}:
  aJ S 153 [.one (.p (gT F h)),gP k A bv L l o sg] (Gw (ui F h A bv L)):=by
 have a4:=g.len;have bN:=cU h;have mQ:∀e∈[A,bv,L],e<I h:=λe a5=>by simp at a5;rcases a5 with rfl|rfl|rfl<;>assumption
 generalize X:[A,bv,L]=u at*;have dY:I u=3:=by rw[<-X];rfl
 have Hu:cg [A,bv,L]=[[.int .i64 A],[.int .i64 bv],[.int .i64 L]]:=rfl;rw[X]at Hu;have w3:((3:Nat):Int)=3:=rfl;refine bt aCz ?_;simp only[go_sem,apu,af,au];refine c_ (λj B aj=>B 0=.one (.p (gT F h))/\B 6=.one (.hsl 9792064384 1 1 0 3)/\B 22=.one (.hsl 9792064384 1 1 0 3)/\B 23=aC 3/\B 24=aC j/\aj 9792064384=(1,some (.arr 3 1 (cg u)))/\(u.take j).all (xy h)/\
  B 9=fT ((u.take j).any (jY h · true))/\B 10=fT ((u.take j).any (jY h · false))/\ ∃c7 Dt,B 7=.one c7/\B 8=.one Dt/\aY 9792640256 3 1 (dR (s0 h (u.take j))) (.one c7) aj/\aY 9792705280 3 1 (dR (vn h (u.take j))) (.one Dt) aj) 0 3 (cE _) ?_ ?_
 .simp only[go_sem];exact⟨rfl,rfl,by rw[Hu],rfl,rfl,_,_,rfl,rfl,aY.nil,aY.nil⟩
 rintro j B aj hj ⟨H,f,pN,rA,oQ,b6,dp,x,D,c7,Dt,h7,h8,g7,g8⟩
 by_cases aq:j<3
 .have aO:((j:Int)<3):=J;obtain⟨e,T⟩:=aR (L:=u) (k:=j) J;have Z:=mQ e (ch T);have xI:=jZ T;have pe:=Di g Z;have hm:=fC (e+1) (show 0<I h by omega);obtain⟨P,z⟩:=aR (L:=cq h) (k:=e) J;obtain⟨Q,hQ⟩:=aR (L:=cq h) (k:=(e+1)%I h) J;have qm:=lQ z;have M:=lQ hQ;have w1:=cP (n:=j) J;have po:=JN g Z true;have pu:=JN g Z false;have hU:xy h e=((P.l.kind==2)&&(Q.l.kind==2)):=by unfold xy;rw[ml z,ml hQ]
  have a7:I (dR (s0 h (u.take j)))<=100:=by unfold s0;rw[qy,U1 _ (λ_=>rfl),iM];omega
  have a6:I (dR (vn h (u.take j)))<=100:=by unfold vn;rw[qy,U1 _ (λ_=>rfl),iM];omega
  have dL:xy h e=false->ui F h A bv L=none:=λa5=>by
   have:u.all (xy h)=false:=by
    cases hh:u.all (xy h)with
    |false=>rfl
    |true=>rw[jP.1 hh e (ch T)]at a5;cases a5
   unfold ui EO;rw[X,this];rfl
  cases k1:(P.l.kind==2)with
  |false=>
   rw[k1]at hU;have N:(P.l.kind !=2):=by simp only[bne,k1];rfl
   rw[dL hU];simp only[go_sem,On,H,f,pN,rA,oQ,b6,aq,aO,xI,eJ,a_ pe cS,Z,qm,M,aU.ps,N,bN];rfl
  |true=>
   have N:(P.l.kind !=2)=false:=by simp only[bne,k1];rfl
   cases k2:(Q.l.kind==2)with
   |false=>
    rw[k1,k2]at hU;have Y:(Q.l.kind !=2):=by simp only[bne,k2];rfl
    rw[dL hU];simp only[go_sem,On,H,f,pN,rA,oQ,b6,aq,aO,xI,eJ,a_ pe cS,Z,hm,qm,M,aU.ps,N,Y,bN];rfl
   |true=>
    rw[k1,k2]at hU;have Y:(Q.l.kind !=2)=false:=by simp only[bne,k2];rfl
    simp only[go_sem,On,H,f,h7,pN,rA,oQ,b6,aq,aO,xI,eJ,a_ pe cS,Z,hm,qm,M,aU.ps,N,Y,bN];refine l_ (B:=[[.int .i64 (e:Nat)],[.int .i64 ((e+1)%I h:Nat)]]) (g7.of_eq (bU U)) (by simp only[fz,aT,if_true];rfl) (.inl rfl) (by simp only[dw,eK];omega) λd7 bY ao cF=>?_;have q6:=cF 9792064384 U U;simp only[go_sem,b6]at q6;have az:=g8.of_eq ((cF 9792705280 U U).trans (bU U));simp only[go_sem,H,f,h8,qm,M,aU.ps,bN,Z,hm];refine nP (B:=[[.int .i64 P.l.id],[.int .i64 Q.l.id]]) (az.of_eq (bU U)) (by simp only[fz,aT,if_true];rfl) (.inl rfl) (by simp only[dw,eK];omega) λd8 bJ r w a3 bl hw=>?_
    have p6:=(bl 9792064384 U U).trans ((bU U).trans q6);have a0:=ao.of_eq ((bl 9792640256 U U).trans (bU U));simp only[go_sem];refine⟨?_,?_⟩
    .rcases hw with⟨rfl,rfl⟩|⟨rfl,rfl⟩|⟨rfl,rfl⟩<;>kernel_rfl
    generalize aN:(u.take j).any (jY h · true)=x9 at x;generalize a1:(u.take j).any (jY h · false)=Kf at D;have e9:=an6 (jY h · true) u j e T;have fD:=an6 (jY h · false) u j e T;have eA:=auX (xy h) u j e T;rw[aN]at e9;rw[a1]at fD;rw[dp,hU]at eA;have G7:aY 9792640256 3 1 (dR (s0 h (u.take (j+1)))) (.one d7) bJ:=by have:=aln (λe:Nat=>[(e:Int),(aK h e:Int)]) (u.take j) e (aK h e);have E:=amu (λe:Nat=>[(e:Int),(aK h e:Int)]) u j e T;rw[show s0 h (u.take (j+1))=(u.take j).flatMap (λe:Nat=>[(e:Int),(aK h e:Int)])++[(e:Int),(aK h e:Int)]from E,<-this];exact a0
    have G8:aY 9792705280 3 1 (dR (vn h (u.take (j+1)))) (.one d8) bJ:=by have:=aln (λe:Nat=>[(aW h e).l.id,(aW h (aK h e)).l.id]) (u.take j) (aW h e).l.id (aW h (aK h e)).l.id;have E:=amu (λe:Nat=>[(aW h e).l.id,(aW h (aK h e)).l.id]) u j e T;rw[show vn h (u.take (j+1))=(u.take j).flatMap (λe:Nat=>[(aW h e).l.id,(aW h (aK h e)).l.id])++[(aW h e).l.id,(aW h (aK h e)).l.id]from E,<-this,ml z,show aW h (aK h e)=Q from ml hQ];exact a3
    cases x9<;>cases Kf<;>simp only[go_sem,H,x,D,pN,rA,oQ,ir,aD po,aD pu,w1,aq]<;>exact⟨f,p6,by rw[eA];rfl,by rw[e9];rfl,by rw[fD];rfl,d7,d8,rfl,rfl,G7,G8⟩
 have:j=3:=J;subst this;have ht:u.take 3=u:=by rw[<-X];rfl
 rw[ht]at dp x D g7 g8;have n7:I (s0 h u)=6:=by unfold s0;rw[U1 _ (λ_=>rfl),dY]
 have n8:I (vn h u)=6:=by unfold vn;rw[U1 _ (λ_=>rfl),dY]
 rcases g7 with⟨e,_⟩|⟨_,ad,e,b7⟩
 .have:=congrArg List.length e;rw[qy,n7]at this;cases this
 cases e;rcases g8 with⟨e,_⟩|⟨_,an,e,b8⟩
 .have:=congrArg List.length e;rw[qy,n8]at this;cases this
 cases e;have R:S.shared 186:=ah;have O:S.shared 187:=ah;have xB:¬(((3:Nat):Int)<3):=U;simp only[go_sem,On,ah7,H,f,h7,h8,x,D,pN,rA,oQ,xB,R,qy];refine Bl b7 (by rfl) (.inl rfl) (P:=E0 s6 9792640256 ad 3 (s0 h u) aj) (λtO h1 E=>abe h1 (by rw[E];kernel_rfl) J b7) λv bY z=>?_;obtain⟨rfl,⟨m,bw,pw,sw⟩,kw⟩:=z;have ag:=(kw 9792705280 U).trans b8;have aA:=(kw 9792064384 U).trans b6;simp only[go_sem,H,f,h7,h8,x,D,R,qy];refine Bl ag (by rfl) (.inl rfl) (P:=E0 s6 9792705280 an 3 (vn h u) bY) (λtO h1 E=>abe h1 (by rw[E];kernel_rfl) J ag) λv bJ z=>?_
 obtain⟨rfl,⟨us,bu,pu,su⟩,ku⟩:=z;have ab:=(ku 9792640256 U).trans bw;have ap:=(ku 9792064384 U).trans aA;have uJ:=pw.length_eq;have ul:=pu.length_eq;have cw:=ahl pw sw;have cu:=ahl pu su;have y:=adh g u J (h:=A) (by rw[<-X];rfl) ha 0;have aE:((0:Nat):Int)=0:=rfl;rw[aE]at y;have a2:=aze g u mQ J;have Jh:List.take 3 (cg u)=cg u:=e_ (by rw[MF];omega);have hB:EO F h A bv L=(((I (me (s0 h u)):Int)==6)&&(((I (me (vn h u)):Int)==3)&&(u.any (jY h · true)&&(u.any (jY h · false)&&oT F h 0 u A)))):=by unfold EO;rw[X,dp,HV,HV];rfl
 unfold ui;rw[hB];clear hB;simp only[go_sem,H,f,h7,h8,x,D,O,qy,<-uJ];refine Bl ab (by rfl) (.inl rfl) (P:=Z3 9792640256 ad 3 m bJ) (λtO h1 E=>aiv h1 J ab) λv fy z=>?_;obtain⟨rfl,_,kc⟩:=z;have ac:=(kc 9792705280 U).trans bu;have ar:=(kc 9792064384 U).trans ap;rw[cw];have lo:S.lone 9793152128=false:=ah;cases q1:((I (me (s0 h u)):Int)==6)with
 |false=>
  have JR:((I (me (s0 h u)):Int)!=6):=by simp only[bne,q1];rfl
  simp only[go_sem,H,f,h7,h8,x,D,JR];rfl
 |true=>
  have JR:((I (me (s0 h u)):Int)!=6)=false:=by simp only[bne,q1];rfl
  simp only[go_sem,H,f,h7,h8,x,D,JR,O,qy,<-ul];refine Bl ac (by rfl) (.inl rfl) (P:=Z3 9792705280 an 3 us fy) (λtO h1 E=>aiv h1 J ac) λv jF z=>?_;obtain⟨rfl,_,kd⟩:=z;have qh:=(kd 9792064384 U).trans ar;rw[cu];cases q2:((I (me (vn h u)):Int)==3)with
  |false=>
   have MY:((I (me (vn h u)):Int)!=3):=by simp only[bne,q2];rfl
   simp only[go_sem,H,f,x,D,MY];rfl
  |true=>
   have MY:((I (me (vn h u)):Int)!=3)=false:=by simp only[bne,q2];rfl
   cases q3:u.any (jY h · true)with
   |false=>rw[q3]at x;simp only[go_sem,H,f,x,D,MY];rfl
   |true=>
    rw[q3]at x;cases q4:u.any (jY h · false)with
    |false=>rw[q4]at D;simp only[go_sem,H,f,x,D,MY];rfl
    |true=>
     rw[q4]at D;cases q5:oT F h 0 u A with
     |false=>rw[q5]at y;simp only[go_sem,H,f,x,D,MY,qh,h_,aD y,dY,MF,Jh];rfl
     |true=>rw[q5]at y;simp only[go_sem,H,f,x,D,MY,qh,h_,aD y,asT,dY,MF,Jh];refine qW a2 lo (.inr (pA (CX _))) λcc Fm gc He=>?_;simp only[go_sem];rw[<-X]at gc;exact zU gc
abbrev abK:eG:=[.p .Bm,.p (.fn 146 [] []),.p (.fn 147 [] []),.p (.fn 148 [] []),.p (.fn 149 [] []),.p (.fn 150 [] []),.p (.fn 151 [] []),.p (.fn 152 [] []),.p (.fn 153 [] []),.p (.fn 154 [] []),.p (.fn 154 [] [])]
def az1(k:Int):0<=(og k).1/\(og k).1<=4/\0<=(og k).2/\(og k).2<=2:=by
 unfold og;split
 .simp
 split
 .simp
 split<;>simp
def OL(Z:I h<=400)(hU:ai aa.aF h<=200){k:Nat}{u:eG}(Q:abK.drop k=.p (.fn f [] [])::u)(jk:k<11)(Ma:S.shared f=false){a b c:Int}{l o:Bool}{sg:Int}{R:Option cY}(ha:aJ S 121 [.one (.p (gT F h)),gP k a b c l o sg] (dn true))(hm:aJ S f [.one (.p (gT F h)),gP k a b c l o sg] (Gw R))(hL:∀L,R=some L->I L<=1000000):
  aJ S 83 [.one (.p (gT F h)),gP k a b c l o sg] (AJ F h k R):=by
 have Cl:=au3 F;have m:=aAG k;have iI:S.lone 5312192384=false:=ah;have mU:S.lone 5312576128=false:=ah;have Y:∀(aj:aB),eF aj [] 5312192000 ((RV.agg [.p .Bm,.p (.fn 146 [] []),.p (.fn 147 [] []),.p (.fn 148 [] []),.p (.fn 149 [] []),.p (.fn 150 [] []),.p (.fn 151 [] []),.p (.fn 152 [] []),.p (.fn 153 [] []),.p (.fn 154 [] []),.p (.fn 154 [] [])]).fi (S.lone 5312192000))=some (.agg abK,[]):=λaj=>by cases S.lone 5312192000<;>rfl
 have bN:=cU h;obtain⟨g1,T,g3,g4⟩:=az1 k;have g:∀aj:aB,eF aj [] 5312384128 ((RV.tup [.one (.p (.int .i64 (og k).1)),.one (.p (.int .i64 (og k).2))]).fi (S.lone 5312384128))=some (.tup [.one (.p (.int .i64 (og k).1)),.one (.p (.int .i64 (og k).2))],[]):=λaj=>cS;obtain⟨O4,O5,uN⟩:∃x y,og k=(x,y):=⟨_,_,rfl⟩;have d4:AJ F h k none=sV 4:=rfl;have X:∀L,((400:Int)<(I h:Int)+O4\/(100:Int)<((ai aa.aF h/2:Nat):Int)+O5)->AJ F h k (some L)=sV 7:=λL M=>by unfold AJ;rw[uN];exact aH M
 have d0:∀L,¬((400:Int)<(I h:Int)+O4\/(100:Int)<((ai aa.aF h/2:Nat):Int)+O5)->AJ F h k (some L)=nm F (oo L):=λL M=>by unfold AJ;rw[uN];exact aw M
 rw[uN]at g1 T g3 g4 m;simp only[uN]at g;simp only at g1 T g3 g4 g m;have D:IntKind.i64.wrap ((I (cq h):Int)+O4)=(I h:Int)+O4:=by rw[bN];exact nK J J
 have N:IntKind.i64.wrap (((ai aa.aF h/2:Nat):Int)+O5)=((ai aa.aF h/2:Nat):Int)+O5:=nK J J;unfold Gw at hm;generalize abK=kg at Q Y;refine bt ajD ?_;simp only[go_sem,aa5,aga,aD ha,aFy,ow azs (Y _),Q,jk,Ma];refine aCb hm iI λcc bY w gc O A=>?_;have b0:=O 5312000000 U;have B:=O 5312000064 U;simp only[go_sem]at b0 B;cases R with
 |none=>rw[d4];simp only[go_sem,b0,B];refine⟨?_,rfl⟩;rcases A with rfl|rfl<;>kernel_rfl
 |some L=>
  simp only[mO]at gc;have j:=Cl L (hL L rfl) (.sl (fA (cq h))) (.sl (mv (eD F h))) (.sl (cg (p_ F h))) (.int .i64 (ai aa.aM h:Nat)) (.int .i64 ((ai aa.aF h/2:Nat):Int)) (.sl (cg (jh h F)));obtain⟨rs,km,_⟩:=gc.ia;by_cases H:(400:Int)<(I h:Int)+O4
  .rw[X L (.inl H)];simp only[go_sem,b0,B,ad8,a_ m (g _),D,N,H];refine⟨?_,rfl⟩;rcases A with rfl|rfl<;>kernel_rfl
  by_cases z:(100:Int)<((ai aa.aF h/2:Nat):Int)+O5
  .rw[X L (.inr z)];simp only[go_sem,b0,B,ad8,a_ m (g _),D,N,H,z];refine⟨?_,rfl⟩;rcases A with rfl|rfl<;>kernel_rfl
  rw[d0 L (by rintro(M|M);exact H M;exact z M)];simp only[go_sem,b0,B,ad8,a_ m (g _),D,N,H,z,km,aDW];refine⟨?_,?_⟩
  .rcases A with rfl|rfl<;>kernel_rfl
  refine Qc j mU rfl (zf _) λc2 bJ uK bl=>?_;have E:=(bl 5312000064 U).trans B;simp only[go_sem,E];exact akQ (uK.of_eq (bU U))
def aBN{k a b c:Int}{l o:Bool}{sg:Int}(H:aJ S 121 [.one (.p (gT F h)),gP k a b c l o sg] (dn false)):aJ S 83 [.one (.p (gT F h)),gP k a b c l o sg] (sV 2):=by refine bt ajD ?_;simp only[go_sem,aa5,aga,aD H,af,au];try rfl
def qi(F:Nat)(h:ae)(k:Int)(a b c:Nat)(l o:Bool)(sg:Int):Option cY:=if k=1 then yz h a else if k=2 then ahy F h a b c else if k=3 then vQ F h a b else if k=4 then yj h a else if k=5 then some (ahU h a sg o)else if k=6 then vS F h a b else if k=7 then afr F h a b l o else if k=8 then ui F h a b c else if k=9 then aoc F h a else amY h a
def rj(F:Nat)(h:ae)(k a b c:Int)(l o:Bool)(sg:Int):RV:=if dc F h k a b c l o sg then AJ F h k (qi F h k a.toNat b.toNat c.toNat l o sg)else sV 2
def awI{k a b c:Int}{l o:Bool}{sg:Int}:(∃e,rj F h k a b c l o sg=sV e)\/ ∃L,rj F h k a b c l o sg=nm F L:=by
 unfold rj;split
 .cases qi F h k a.toNat b.toNat c.toNat l o sg with
  |none=>exact .inl ⟨4,rfl⟩
  |some L=>
   by_cases H:(400:Int)<(I h:Int)+(og k).1\/(100:Int)<((ai aa.aF h/2:Nat):Int)+(og k).2
   .exact .inl ⟨7,aH H⟩
   exact .inr ⟨oo L,aw H⟩
 exact .inl ⟨2,rfl⟩
def aBt{k a b c:Int}{l o:Bool}{sg:Int}{R:RV}(f:aJ S 82 [df F h] (AM (gT F h) (.int .i64 0)))(H:aJ S 83 [.one (.p (gT F h)),gP k a b c l o sg] R)(fin:(∃e,R=sV e)\/ ∃L,R=nm F L):
  aJ S 41 [df F h,gP k a b c l o sg] R:=by
 have lo:S.lone 2624256128=false:=ah;refine bt arD ?_;rcases fin with⟨e,rfl⟩|⟨L,rfl⟩
 .simp only[go_sem,abm,U4,a_ f cS,U3,a_ H aEE,af,au];rfl
 simp only[go_sem,abm,U4,a_ f cS,U3];refine alN H lo λm u g j=>?_;have B:=j 2624000128 U;simp only[go_sem]at B;simp only[go_sem,B];exact akQ (g.of_eq (bU U))
def oY{n:Nat}{i:Int}(h:kR n i):∃k:Nat,i=(k:Int)/\k<n:=by unfold kR at h;simp at h;exact⟨i.toNat,J,J⟩
def ady(l:cY)(drop:Nat->aU->Bool):I (nb l drop)<=I l:=GF l drop (I l)
def anR(l:cY)(i:Nat)(g r:Int):I (VL l i g r)=I l:=by simp[VL]
def aGL{k:Int}{a b c:Nat}{l o:Bool}{sg:Int}{L:cY}(H:qi F h k a b c l o sg=some L):I L<=I h+4:=by
 have hp:=cU h;unfold qi at H;repeat' split at H
 .unfold yz at H;simp only at H;split at H
  .cases H;have:=ady (cq h) (λk _=>decide (k=a)||decide (k=(a+1)%I h));simp only[lz,cH];omega
  cases H
 .unfold ahy at H;split at H
  .cases H;simp only[RQ,RY,lz,cH,dw,eK];omega
  split at H
  .cases H;simp only[RQ,RY,lz,cH,dw,eK];omega
  cases H
 .unfold vQ at H;split at H
  .cases H;simp only[B9,Bq];omega
  cases H
 .unfold yj at H;simp only at H;split at H
  .cases H;have:=ady (cq h) (ri [((cq h).getD a ⟨lD,false⟩).l.id]);simp only[Fy,cH];omega
  cases H
 .cases H;simp only[ahU,RY,dw,eK];omega
 .unfold vS at H;split at H
  .cases H;have:=ady (cq h) (ri [(aW h a).l.id,(aW h (aK h a)).l.id]);simp only[Fy,cH];omega
  cases H
 .have key:∀s t,RA h a b l o s t=some L->I L<=I h+4:=λs t H=>by
   unfold RA at H;split at H
   .cases H
   simp only[iL]at H;subst H;have f:∀x sg o s,I (adf x sg o s)=2:=λx sg o s=>by unfold adf;split<;>rfl
   split<;>simp only[RY,f,dw,eK]<;>omega
  unfold afr at H;split at H
  .exact key _ _ H
  exact key _ _ H
 .unfold ui at H;split at H
  .cases H;simp only[B9];omega
  cases H
 .unfold aoc at H;split at H
  .cases H;simp only[anR,lz,cH];omega
  cases H
 unfold amY at H;split at H
 .cases H;simp only[anR,lz,cH];omega
 cases H
abbrev aZ(ls:ae)(i:Nat):aa:=ls.getD i lD
def amp{i:Nat}{l:aa}(H:h[i]?=some l):aZ h i=l:=by rw[aZ,dS,H];rfl
def js{i:Nat}(H:i<I h):h[i]?=some (aZ h i):=by obtain⟨l,hl⟩:=aR H;rw[amp hl,hl]
def y7(l:ae):au 6 (bQ l):=by simp[au,aa.ps]
def V3(a b:ae):bQ (a++b)=bQ a++bQ b:=lU
def Gs(h:L≠[]):bQ L≠[]:=by simpa [bQ]using h
def oE(a b:aa):Bool:=(a.kind==b.kind)&&((a.gate==b.gate)&&((a.ay==b.ay)&&((a.id==b.id)&&((a.sign==b.sign)&&(a.over==b.over)))))
def ap7(x y:aa):vD [true,true,true,true,true,false] [.p (.int .i64 x.kind),.p (.int .i64 x.gate),.p (.int .i64 x.ay),.p (.int .i64 x.id),.p (.int .i64 x.sign),.p (.bool x.over)] [.p (.int .i64 y.kind),.p (.int .i64 y.gate),.p (.int .i64 y.ay),.p (.int .i64 y.id),.p (.int .i64 y.sign),.p (.bool y.over)]=some (oE x y):=by
 have e:∀a b:Int,uF true (.int .i64 a) (.int .i64 b)=some (a==b):=λa b=>by simp[uF]
 have e2:∀a b:Bool,uF false (.bool a) (.bool b)=some (a==b):=λa b=>by simp[uF]
 simp only[vD,oE,e,e2];cases(x.kind==y.kind)<;>cases(x.gate==y.gate)<;>cases(x.ay==y.ay)<;>cases(x.id==y.id)<;>cases(x.sign==y.sign)<;>cases(x.over==y.over)<;>rfl
def OR(x:aa):oE x x:=by simp[oE]
def af2(L:ae)(k:Nat)(h:k<=I L)(hl:I L<=1000000):aJ S 80 [.one (.p (c8 L)),aC k] (.one (aX fI 6 (bQ (L.drop k++L.take k)))):=by
 have Q:=y7 L;have z:List.take (I L-k) (List.drop k (bQ L))=bQ (L.drop k):=by rw[e_ aQ];simp[E_]
 have g:List.take k (bQ L)=bQ (L.take k):=by simp[Ex]
 rw[V3];refine bt aG2 ?_;simp only[go_sem,amH,h,Q,z];refine nP (id:=5120064192) (bytes:=48) aY.nil (B:=bQ (L.drop k)) (rd:=[]) rfl (.inr (y7 _)) (by simp;omega) λD y r w g1 u H=>?_;rw[fN]at g1;simp only[go_sem,h,Q,g];refine nP (bytes:=48) g1 (B:=bQ (L.take k)) (rd:=[]) rfl (.inr (y7 _)) (by simp;omega) λm x R A f B j=>?_;simp only[go_sem];refine⟨?_,uX f⟩;rcases H with⟨rfl,rfl⟩|⟨rfl,rfl⟩|⟨rfl,rfl⟩<;>rcases j with⟨rfl,rfl⟩|⟨rfl,rfl⟩|⟨rfl,rfl⟩<;>kernel_rfl

def JP{S:Sys}{fn:aV}{A:dN}{P:RV->Prop}(hp:S.prim f A=none)(H:S.fns f=some fn)(hl:I A<=fn.ntmps)
  (h:bP S .all fn.body (ns .all fn.results λv aj=>∃r,P r/\gr aj v=some r) (tp A) AE):∃r,P r/\aJ S f A r:=by
 obtain⟨n,v,u,j,r,m,g⟩:=aaa h;refine⟨r,m,n+1,?_⟩;rw[jd];simp only[hp,H,hl,if_true];unfold EJ;simp only[j,g]
def aeZ{l:ae}(A:l≠[])(hl:I l<=1000000):aJ S 69 [.one (.p (c8 l))] (.one (aX fI 6 (bQ l))):=by
 have hs:((bQ l).all λe=>I e==6):=y7 l;have h:(0+I (bQ l))*48<=mi:=by unfold mi;rw[cH];omega
 show aJ S _ [.one (.p (.sl (bQ l)))] _;obtain⟨E,u,hq⟩:∃E u,bQ l=E::u:=by cases l with
  |nil=>exact absurd rfl A
  |cons a t=>exact⟨_,_,rfl⟩
 rw[hq]at hs h |-;refine bt aER ?_;have A:E::u≠[]:=aQ;have f:aX fI 6 (E::u)=.own fI 6 (E::u):=aw A;rw[f];unfold mi at h;simp only[kA,dw]at h;simp only[au,mN]at hs;simp only[go_sem,agH,af,au];simp only[hs,h,not_true_eq_false,if_true,if_false];simp only[go_sem,af,au];exact E3 sW rfl
abbrev P_(M:sK):w_:=M.map λe=>(PV.int .i64 e.1,[PV.int .i64 e.2])
def NX:sK->Int->Nat->Option (Nat×Int)
 |[],_,_=>none
 |(a,v)::r,x,i=>if x==a then some (i,v)else NX r x (i+1)
def amJ(M:sK)(x:Int):∀i,sZ (.int .i64 x) (P_ M) i=some ((NX M x i).map λp=>(p.1,[PV.int .i64 p.2])):=by
 induction M with
 |nil=>intro i;rfl
 |cons e M f=>
  intro i;obtain⟨a,v⟩:=e;show sZ (.int .i64 x) ((PV.int .i64 a,[PV.int .i64 v])::P_ M) i=_;unfold sZ;have hs:Dq (.int .i64 x) (.int .i64 a)=some (x==a):=by simp[Dq]
  rw[hs];unfold NX;cases(x==a)with
  |true=>rfl
  |false=>exact f (i+1)
def anV(M:sK)(x v:Int):P_ M++[(PV.int .i64 x,[PV.int .i64 v])]=P_ (M++[(x,v)]):=aQ
def amr(l:ae)(k:Nat)(p:aa):(bQ l).set k p.ps=bQ (l.set k p):=by simp[xf]
def aow{e:b_}(h:I e=6):∃x X g f x4 j,e=[x,X,g,f,x4,j]:=by
 match e,h with
 |[x,X,g,f,x4,j],_=>exact⟨_,_,_,_,_,_,rfl⟩
def awW{al:cG}{aj:aB}{id:Nat}{u:s_}{c:c6}(o:u=[]\/al.ok id)(hl:I u<=1000000)(mQ:∀e∈u,I e=6/\ ∀v∈e,v.norm=v)(h:aY id A 6 u (.one c) aj):
  ∃v f,je S 116 [.one c] al aj v f/\GZ id A 6 u c aj v f:=by
 refine nc apm (jn rfl) ?_;rcases h with⟨rfl,H⟩|⟨aN,g,H,hC⟩
 .cases H;have R:IntKind.i64.wrap (((0:Nat):Int)-1)= -1:=U;have hz:¬((0:Int)< -1):=U;simp only[go_sem,U_,R,af,au];refine c_ (λk j f=>k=0/\j 2=aC 0/\j 3=aC (-1)/\f=aj) 0 0 (cT _) ?_ ?_
  .simp only[go_sem]
  rintro k j f _ ⟨rfl,H,m,rfl⟩
  simp only[go_sem,Pm,H,m,hz,af,au];exact⟨rfl,.inl ⟨rfl,rfl⟩,λ_ _=>rfl⟩
 cases H;have o:=o.resolve_left aN;have R:=u9 (a:=I u) J;simp only[go_sem,U_,R,af,au];refine c_ (λk j f=>j 0=.one (.hsl id g 6 0 (I u))/\j 2=aC k/\j 3=aC ((I u:Int)-1-(k:Int))/\ ∃fs,f id=(g,some (.arr A 6 fs))/\xU u fs k/\dG (· =id) aj f) 0 (I u) (cE _) ?_ ?_
 .simp only[go_sem];refine⟨rfl,aQ,u,hC,xU.start u,dG.refl _ _⟩
 rintro k j f hk ⟨h0,H,m,fs,O,Q,dD⟩
 by_cases Z:k<I u-1-k
 .have e1:((I u:Int)-1-(k:Int))=((I u-1-k:Nat):Int):=J;rw[e1]at m;have y:((k:Int)<((I u-1-k:Nat):Int)):=J;have w1:=cP (n:=k) J;have w2:IntKind.i64.wrap (((I u-1-k:Nat):Int)-1)=((I u:Int)-1-((k+1:Nat):Int)):=by
   rw[u9 J];omega
  obtain⟨a,ha⟩:=aR (show k<I u by omega);obtain⟨b,Y⟩:=aR (show I u-1-k<I u by omega);obtain⟨fa,fb,zH⟩:=Q.step Z ha Y;obtain⟨la,N⟩:=mQ a (ch ha);obtain⟨lb,fg⟩:=mQ b (ch Y);obtain⟨x0,x1,x2,x3,x4,x5,rfl⟩:=aow la;obtain⟨y0,y1,y2,y3,y4,y5,rfl⟩:=aow lb;have PM:=N x0 aQ;have L:=N x1 aQ;have M:=N x2 aQ;have X:=N x3 aQ;have z:=N x4 aQ;have T:=N x5 aQ;have PN:=fg y0 aQ;have B:=fg y1 aQ;have x:=fg y2 aQ;have D:=fg y3 aQ;have F:=fg y4 aQ;have E:=fg y5 aQ;have xD:=Q.len;have I9:¬(k=I u-1-k):=J;have PC:¬(I u-1-k=k):=J;have l1:k<I fs:=J;have l2:I u-1-k<I fs:=J;have l3:k<I u:=J;have l4:I u-1-k<I u:=J
  simp only[go_sem,Pm,h0,H,m,O,y,fa,fb,w1,w2,o,l1,l2,l3,l4,I9,PC,PM,L,M,X,z,T,PN,B,x,D,F,E,mA,kI,af,au];refine⟨aI,_,rfl,zH,?_⟩;exact(dD.dE rfl _).dE rfl _
 have y:¬((k:Int)<(I u:Int)-1-(k:Int)):=J;simp only[go_sem,Pm,h0,H,m,y,af,au];refine⟨rfl,?_,dD⟩;rw[Q.done Z]at O;exact .inr ⟨by simpa using aN,g,by rw[lK],O⟩
def aBa(l:ae):∀e∈bQ l,I e=6/\ ∀v∈e,v.norm=v:=λe H=>by obtain⟨x,_,rfl⟩:=eg.1 H;refine⟨rfl,λv h=>?_⟩;simp only[aa.ps,dk,iu,or_false]at h;rcases h with rfl|rfl|rfl|rfl|rfl|rfl<;>rfl
def arB(l:ae):(bQ l).reverse=bQ l.reverse:=aQ
def abL{s:Nat}(h:s/64000000=40):S.lone s:=by show HP apA (s/64000000)=true;rw[h];kernel_rfl
def HI{aj:aB}{s:Nat}(A:L≠[])(hs:S.lone s):eF aj [] s ((RV.one (aX fI 6 (bQ L))).fi (S.lone s))=some (.one (.p (c8 L)),[]):=by rw[hs,vq (Gs A)];unfold eF;rw[aH (.inl rfl)];rfl

abbrev pI:Prop:=aJ S 69 [.one (.p (.sl []))] (.one (.p (.sl [])))
def av1{al:cG}{aj:aB}:∃v A,je S 116 [.one (.p (.sl []))] al aj v A/\(v=.tup []/\A=aj):=by
 refine nc apm (jn rfl) ?_;have g:IntKind.i64.wrap (((0:Nat):Int)-1)= -1:=U;have j:¬((0:Int)< -1):=U;simp only[go_sem,U_,g,af,au];refine c_ (λk f A=>k=0/\f 2=aC 0/\f 3=aC (-1)/\A=aj) 0 0 (cT _) ?_ ?_
 .simp only[go_sem]
 rintro k f A _ ⟨rfl,h,H,rfl⟩
 simp only[go_sem,Pm,h,H,j,af,au]
def ag3{aj:aB}{s:Nat}{x:PV}{l:Bool}:eF aj [] s ((RV.one (.p x)).fi l)=some (.one (.p x),[]):=by cases l<;>rfl
def aCJ(g:pI)(F:Int):aJ S 78 [.one (.p (As F))] (.one (.p (.sl []))):=by
 refine bt ajt ?_;simp only[go_sem,ad9,ac4,a_ g ag3,afa];refine qq (P:=λv f=>v=.tup []/\f=AE) uR av1 ?_;rintro v f ⟨rfl,rfl⟩
 simp only[go_sem];refine c_ (λk A aj=>k=0/\A 3=.one (.p (.sl []))/\A 15=aC 0/\A 16=aC 0) 0 0 (cT _) ?_ ?_
 .simp only[go_sem];rfl
 rintro k A aj _ ⟨rfl,h,T,x⟩
 have H:¬((0:Int)<0):=U;simp only[go_sem,JZ,aam,h,T,x,H]
def azM(X:pI)(F:Int):aJ S 40 [.one (.p (As F))] (.agg [.p (.int .i64 F),.p .nils]):=by
 have pb:=aCJ X F;refine bt afc ?_;simp only[go_sem,adO,ahv,ow pb ag3,af,au];refine⟨aI,?_⟩;refine c_ (λk f aj=>f 0=.one (.p (As F))/\f 2=.one (.bh 2560000000 1 0)/\f 17=.one (.hsl 2560128448 1 1 0 2)/\f 18=aC 2/\f 19=aC k/\f 3=.one (.p .nils)/\
  aj 2560000000=(1,some (.var [.p (.int .i64 0),.p .nils]))/\aj 2560128448=(1,some (.arr 22 1 [[.sl []],[.sl []]]))) 0 2 (cE _) ?_ ?_
 .simp only[go_sem,af,au];first|done|rfl|exact⟨rfl,rfl⟩
 rintro k f aj Z ⟨j,H,u,x,z,y,b0,bB⟩
 by_cases Y:k<2
 .have N:k=0\/k=1:=J;have M:((0:Nat):Int)<2:=U;have L:((1:Nat):Int)<2:=U;have T:¬((0:Int)<0):=U;rcases N with rfl|rfl
  .simp only[go_sem,H9,j,H,y,u,x,z,bB,M,af,au];refine c_ (λi A m=>i=0/\m=aj/\A 0=f 0/\A 2=f 2/\A 17=f 17/\A 18=f 18/\A 19=f 19/\A 3=f 3/\A 24=aC 0/\A 25=aC 0) 0 0 (cT _) ?_ ?_
   .simp only[go_sem,af,au];first|done|rfl|exact⟨rfl,rfl⟩
   rintro i A m _ ⟨rfl,rfl,B,e2,O,R,g,Q,E,h⟩
   simp only[go_sem,BB,OK,B,e2,O,R,g,Q,E,h,j,H,y,u,x,z,b0,bB,T,af,au];first|done|rfl|exact⟨rfl,rfl⟩
  simp only[go_sem,H9,j,H,y,u,x,z,bB,L,af,au];refine c_ (λi A m=>i=0/\m=aj/\A 0=f 0/\A 2=f 2/\A 17=f 17/\A 18=f 18/\A 19=f 19/\A 3=f 3/\A 24=aC 0/\A 25=aC 0) 0 0 (cT _) ?_ ?_
  .simp only[go_sem,af,au];first|done|rfl|exact⟨rfl,rfl⟩
  rintro i A m _ ⟨rfl,rfl,B,e2,O,R,g,Q,E,h⟩
  simp only[go_sem,BB,OK,B,e2,O,R,g,Q,E,h,j,H,y,u,x,z,b0,bB,T,af,au];first|done|rfl|exact⟨rfl,rfl⟩
 have:k=2:=J;subst this;have D:¬(((2:Nat):Int)<2):=U;simp only[go_sem,H9,acY,j,H,y,u,x,z,b0,D,af,au];first|done|rfl|exact⟨rfl,rfl⟩
def axU:pI:=⟨1,ah⟩
def aFQ{aj:aB}{s:Nat}{x c:PV}{l:Bool}:eF aj [] s ((RV.agg [.p x,.p c]).fi l)=some (.agg [.p x,.p c],[]):=by cases l<;>rfl
def avD(x y:aa):oE x y↔x=y:=by
 constructor
 .intro h;unfold oE at h;simp only[dj,dI]at h;obtain⟨j,f,u,g,m,H⟩:=h;cases x;cases y;simp only at j f u g m H;subst j f u g m H;rfl
 rintro rfl;exact OR x
def apU{aj:aB}{s:Nat}{x c e:PV}{l:Bool}:eF aj [] s ((RV.tup [.agg [.p x,.p c],.one (.p e)]).fi l)=some (.tup [.agg [.p x,.p c],.one (.p e)],[]):=by cases l<;>rfl

structure dx where
 k:Int
 a:Int
 b:Int
 c:Int
 l:Bool
 o:Bool
 s:Int
abbrev dB:=List dx
def dx.ps(m:dx):b_:=[.int .i64 m.k,.int .i64 m.a,.int .i64 m.b,.int .i64 m.c,.bool m.l,.bool m.o,.int .i64 m.s]
abbrev ob(ms:dB):PV:=.sl (ms.map dx.ps)
def Ii{M:dB}{k:Nat}{m:dx}(h:M[k]?=some m):(M.map dx.ps)[k]?=some m.ps:=by rw[fY,h];rfl
def Qq(L:ae)(c:c6)(aj:aB):Prop:=aY 4736256128 fI 6 (bQ L) (.one c) aj\/aY 4736512129 fI 6 (bQ L) (.one c) aj\/(L=[]/\c=.p (.sl []))
def Qq.snap{c:c6}{aj:aB}(h:Qq L c aj):∃r,Go.Abs.snap aj ia c=some (c8 L,r):=by
 rcases h with h|h|⟨rfl,rfl⟩
 .obtain⟨r,H,_⟩:=h.ia;exact⟨r,H⟩
 .obtain⟨r,H,_⟩:=h.ia;exact⟨r,H⟩
 exact⟨[],rfl⟩
def Qq.of_eq{c:c6}{aj ao:aB}(h:Qq L c aj)(H:ao 4736256128=aj 4736256128)(f:ao 4736512129=aj 4736512129):Qq L c ao:=by
 rcases h with h|h|h
 .exact .inl (h.of_eq H)
 .exact .inr (.inl (h.of_eq f))
 exact .inr (.inr h)
def aBn{aj:aB}{rd:aG}{s:Nat}{e:Int}{l:Bool}:eF aj rd s ((sV e).fi l)=some (.tup [.agg [.p (.int .i64 0),.p .nils],.one (.p (.int .i64 e))],[]):=by cases l<;>(unfold eF;rw[aH (.inr rfl)];rfl)
abbrev D_(m:dx):V:=gP m.k m.a m.b m.c m.l m.o m.s
def Qr(s:Nat)(L:ae)(c:c6)(aj:aB):Prop:=aY s fI 6 (bQ L) (.one c) aj\/(L=[]/\c=.p (.sl []))
def Qr.snap{s:Nat}{c:c6}{aj:aB}(h:Qr s L c aj):∃r,Go.Abs.snap aj ia c=some (c8 L,r):=by
 rcases h with h|⟨rfl,rfl⟩
 .obtain⟨r,H,_⟩:=h.ia;exact⟨r,H⟩
 exact⟨[],rfl⟩
def Qr.of_eq{s:Nat}{c:c6}{aj ao:aB}(h:Qr s L c aj)(H:ao s=aj s):Qr s L c ao:=by
 rcases h with h|h
 .exact .inl (h.of_eq H)
 exact .inr h
end
end Go.Abs
