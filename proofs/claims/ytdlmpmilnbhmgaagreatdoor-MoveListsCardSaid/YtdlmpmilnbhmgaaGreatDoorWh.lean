/- A part. -/
import Derived.Test.YtdlmpmilnbhmgaaGreatDoorWg
set_option linter.all false
open List renaming length->I
set_option maxRecDepth 100000
set_option maxHeartbeats 16000000
namespace Go.Abs
variable{m:aI}{y:Int}{F f j g u q:Nat}{n r:cS}
section
variable{x:Int}{h:cS}


section
attribute [local go_sem ↓] GY Fg
def bV(F:Nat)(m:aI)(k a b c:Int)(l o:Bool)(aP:Int):Bool:=
 if k=2 then !l&&(!o&&(aP==0&&((gW (I m) a||(I m==0&&a==0))&&(decide (0<=b)&&(decide (b<=(F:Int))&&(decide (0<=c)&&decide (c<=(dY m b.toNat:Int))))))))
 else if k=3\/k=6 then !l&&(!o&&(aP==0&&(gW (I m) a&&(c==0&&(gW (I m) b&&decide (a<b))))))
 else if k=5 then !l&&((aP==1||aP== -1)&&(gW (I m) a&&(b==0&&c==0)))
 else if k=7 then aP==0&&(gW (I m) a&&(c==0&&(gW (I m) b&& !(a==b))))
 else if k=8 then !l&&(!o&&(aP==0&&(gW (I m) a&&(gW (I m) b&&(gW (I m) c&&(decide (a<b)&&decide (b<c)))))))
 else if k=1\/k=4\/k=9\/k=10 then !l&&(!o&&(aP==0&&(gW (I m) a&&(b==0&&c==0))))
 else false
def l8{i:Int}{x:Bool}(h:gW (I m) i=x):aC S 73 [aq i,.one (.p (.box [.int .i64 (I m)]))] (bK x):=h▸VN i (I m)
def nx(h:¬x=0):(x==0)=false/\(x !=0):=by simp[h]
def rN(h:¬x=y):(x==y)=false/\(x !=y):=by simp[h]
section
variable {F:Nat} {m:aI} {a b c:Int} {l o:Bool} {aP:Int}
def KA{k:Int}(r:k=1\/k=4\/k=9\/k=10):aC S 48 [.one (.p (df F m)),dp k a b c l o aP] (bK (bV F m k a b c l o aP)):=by
 obtain⟨v,hv⟩:∃v,bV F m k a b c l o aP=v:=⟨_,rfl⟩;rw[hv];rcases r with rfl|rfl|rfl|rfl
 all_goals
  refine bG yR ?_;simp only[go_sem,xi,cV,bR,ae,ao];refine gY [0,3,4,5,6,7,8,9,10,41] λy f=>?_;simp only[go_sem]at f;cases l with
  |true=>
   obtain rfl:v=false:=by rw[<-hv];simp[bV]
   simp only[go_sem,cV,bR,f,ae,ao]
  |false=>
   simp only[go_sem,cV,bR,f,ae,ao];refine gY [0,3,4,5,6,7,8,9,10,53] λL D=>?_;simp only[go_sem,f]at D;cases o with
   |true=>
    obtain rfl:v=false:=by rw[<-hv];simp[bV]
    simp only[go_sem,cV,bR,D,ae,ao]
   |false=>
    simp only[go_sem,cV,bR,D,ae,ao];refine gY [0,3,4,5,6,7,8,9,10,60] λz E=>?_;simp only[go_sem,D]at E;by_cases aa:aP=0
    rotate_left
    .have N:=(nx aa).1;have u:=(nx aa).2;obtain rfl:v=false:=by rw[<-hv];simp[bV,aa]
     simp only[go_sem,cV,bR,E,u,ae,ao]
    subst aa;cases h:gW (I m) a with
    |false=>
     have aQ:=l8 h;obtain rfl:v=false:=by rw[<-hv];simp[bV,h]
     simp only[go_sem,cV,bR,E,ai aQ,ae,ao]
    |true=>
     have aQ:=l8 h;simp only[go_sem,cV,bR,E,ai aQ,ae,ao];refine gY [3,4,6,7,9,133] λA g=>?_;simp only[go_sem,E,ai aQ]at g;by_cases H:b=0
     rotate_left
     .have B:=(nx H).2;obtain rfl:v=false:=by rw[<-hv];simp[bV,h,H]
      simp only[go_sem,cV,bR,ai aQ,g,B,ae,ao]
     subst H;simp only[go_sem,cV,bR,ai aQ,g,ae,ao];refine gY [3,4,6,7,9,142] λx q=>?_;simp only[go_sem,ai aQ,g]at q;by_cases j:c=0
     rotate_left
     .have n:=(nx j).2;obtain rfl:v=false:=by rw[<-hv];simp[bV,h,j]
      simp only[go_sem,cV,bR,ai aQ,q,n,ae,ao]
     subst j;obtain rfl:v:=by rw[<-hv];simp[bV,h]
     simp only[go_sem,cV,bR,ai aQ,q,ae,ao]
def anD:aC S 48 [.one (.p (df F m)),dp 2 a b c l o aP] (bK (bV F m 2 a b c l o aP)):=by
 obtain⟨v,hv⟩:∃v,bV F m 2 a b c l o aP=v:=⟨_,rfl⟩;rw[hv];refine bG yR ?_;simp only[go_sem,xi,cV,bR,ae,ao];refine gY [0,3,4,5,6,7,8,9,10,41] λe1 D=>?_;simp only[go_sem]at D;cases l with
 |true=>
  obtain rfl:v=false:=by rw[<-hv];simp[bV]
  simp only[go_sem,cV,bR,D,ae,ao]
 |false=>
  simp only[go_sem,cV,bR,D,ae,ao];refine gY [0,3,4,5,6,7,8,9,10,53] λe2 N=>?_;simp only[go_sem,D]at N;cases o with
  |true=>
   obtain rfl:v=false:=by rw[<-hv];simp[bV]
   simp only[go_sem,cV,bR,N,ae,ao]
  |false=>
   simp only[go_sem,cV,bR,N,ae,ao];refine gY [0,3,4,5,6,7,8,9,10,60] λe3 E=>?_;simp only[go_sem,N]at E;by_cases aa:aP=0
   rotate_left
   .have ni:=(nx aa).1;have Z:=(nx aa).2;obtain rfl:v=false:=by rw[<-hv];simp[bV,aa]
    simp only[go_sem,cV,bR,E,Z,ae,ao]
   subst aa;cases H:gW (I m) a with
   |true=>
    have aQ:=l8 H;simp only[go_sem,cV,bR,E,cN aQ,ae,ao];refine oH [0,3,4,6,7,9,92] λe4 M=>?_;simp only[go_sem,E,cN aQ]at M;by_cases j:0<=b
    rotate_left
    .obtain rfl:v=false:=by rw[<-hv];simp[bV,H,j]
     simp only[go_sem,cV,bR,cN aQ,M,j,ae,ao];exact aw
    simp only[go_sem,cV,bR,cN aQ,M,j,ae,ao];refine oH [0,3,4,6,7,9,101] λe5 Q=>?_;simp only[go_sem,cN aQ,M,j]at Q;by_cases L:b<=(F:Int)
    rotate_left
    .obtain rfl:v=false:=by rw[<-hv];simp[bV,H,j,L]
     simp only[go_sem,cV,bR,cN aQ,j,Q,L,ae,ao];exact aw
    obtain⟨B,rfl⟩:=lM j;have A:B<=F:=J;have g:=fC (Bt (h:=m) A);have n:B<F+1:=J;have q:I (eF m F)=F+1:=by simp[eF]
    simp only[go_sem,cV,bR,cN aQ,j,Q,L,g,n,q,ae,ao];refine oH [0,3,4,6,7,9,106] λe6 O=>?_;simp only[go_sem,cN aQ,j,Q,L,g,n,q]at O;by_cases T:0<=c
    rotate_left
    .obtain rfl:v=false:=by rw[<-hv];simp[bV,H,j,L,T]
     simp only[go_sem,cV,bR,cN aQ,j,L,g,n,q,O,T,ae,ao];exact aw
    by_cases z:c<=(dY m B:Int)
    rotate_left
    .obtain rfl:v=false:=by rw[<-hv];simp[bV,H,j,L,T,z]
     simp only[go_sem,cV,bR,cN aQ,j,L,g,n,q,O,T,z,ae,ao];exact aw
    obtain rfl:v:=by rw[<-hv];simp[bV,H,j,L,T,z]
    simp only[go_sem,cV,bR,cN aQ,j,L,g,n,q,O,T,z,ae,ao];exact aw
   |false=>
    have aQ:=l8 H;by_cases r:I m=0
    rotate_left
    .have f:((I m:Int)==0)=false:=beq_false_of_ne J;have R:m≠[]:=λh=>r (by rw[h];rfl);obtain rfl:v=false:=by rw[<-hv];simp[bV,H,r,R]
     simp only[go_sem,cV,bR,E,cN aQ,f,ae,ao];exact aw
    have f:((I m:Int)==0):=by rw[r];rfl
    have R:=List.length_eq_zero_iff.mp r;by_cases X:a=0
    rotate_left
    .have Y:=(nx X).1;obtain rfl:v=false:=by rw[<-hv];simp[bV,H,R,X,show gW 0 a=false by rw[<-r];exact H]
     simp only[go_sem,cV,bR,E,cN aQ,f,Y,ae,ao];exact aw
    subst X;simp only[go_sem,cV,bR,E,cN aQ,f,ae,ao];refine oH [0,3,4,6,7,9,92] λe7 y=>?_;simp only[go_sem,E,cN aQ,f]at y;by_cases j:0<=b
    rotate_left
    .obtain rfl:v=false:=by rw[<-hv];simp[bV,H,r,j]
     simp only[go_sem,cV,bR,cN aQ,f,y,j,ae,ao];exact aw
    simp only[go_sem,cV,bR,cN aQ,f,y,j,ae,ao];refine oH [0,3,4,6,7,9,101] λe8 x=>?_;simp only[go_sem,cN aQ,f,y,j]at x;by_cases L:b<=(F:Int)
    rotate_left
    .obtain rfl:v=false:=by rw[<-hv];simp[bV,H,r,j,L]
     simp only[go_sem,cV,bR,cN aQ,f,j,x,L,ae,ao];exact aw
    obtain⟨B,rfl⟩:=lM j;have A:B<=F:=J;have g:=fC (Bt (h:=m) A);have n:B<F+1:=J;have q:I (eF m F)=F+1:=by simp[eF]
    simp only[go_sem,cV,bR,cN aQ,f,j,x,L,g,n,q,ae,ao];refine oH [0,3,4,6,7,9,106] λe9 u=>?_;simp only[go_sem,cN aQ,f,j,x,L,g,n,q]at u;by_cases T:0<=c
    rotate_left
    .obtain rfl:v=false:=by rw[<-hv];simp[bV,H,r,j,L,T]
     simp only[go_sem,cV,bR,cN aQ,f,j,L,g,n,q,u,T,ae,ao];exact aw
    by_cases z:c<=(dY m B:Int)
    rotate_left
    .obtain rfl:v=false:=by rw[<-hv];simp[bV,H,r,j,L,T,z]
     simp only[go_sem,cV,bR,cN aQ,f,j,L,g,n,q,u,T,z,ae,ao];exact aw
    obtain rfl:v:=by rw[<-hv];simp[bV,H,r,j,L,T,z]
    simp only[go_sem,cV,bR,cN aQ,f,j,L,g,n,q,u,T,z,ae,ao];exact aw
def Zf{k:Int}(u:k=3\/k=6):aC S 48 [.one (.p (df F m)),dp k a b c l o aP] (bK (bV F m k a b c l o aP)):=by
 obtain⟨v,hv⟩:∃v,bV F m k a b c l o aP=v:=⟨_,rfl⟩;rw[hv];rcases u with rfl|rfl
 all_goals
  refine bG yR ?_;simp only[go_sem,xi,cV,bR,ae,ao];refine gY [0,3,4,5,6,7,8,9,10,41] λz j=>?_;simp only[go_sem]at j;cases l with
  |true=>
   obtain rfl:v=false:=by rw[<-hv];simp[bV]
   simp only[go_sem,cV,bR,j,ae,ao]
  |false=>
   simp only[go_sem,cV,bR,j,ae,ao];refine gY [0,3,4,5,6,7,8,9,10,53] λL D=>?_;simp only[go_sem,j]at D;cases o with
   |true=>
    obtain rfl:v=false:=by rw[<-hv];simp[bV]
    simp only[go_sem,cV,bR,D,ae,ao]
   |false=>
    simp only[go_sem,cV,bR,D,ae,ao];refine gY [0,3,4,5,6,7,8,9,10,60] λA E=>?_;simp only[go_sem,D]at E;by_cases aa:aP=0
    rotate_left
    .have N:=(nx aa).1;have x:=(nx aa).2;obtain rfl:v=false:=by rw[<-hv];simp[bV,aa]
     simp only[go_sem,cV,bR,E,x,ae,ao]
    subst aa;cases h:gW (I m) a with
    |false=>
     have aQ:=l8 h;obtain rfl:v=false:=by rw[<-hv];simp[bV,h]
     simp only[go_sem,cV,bR,E,ai aQ,ae,ao]
    |true=>
     have aQ:=l8 h;simp only[go_sem,cV,bR,E,ai aQ,ae,ao];refine gY [3,4,6,7,9,142] λB g=>?_;simp only[go_sem,E,ai aQ]at g;by_cases n:c=0
     rotate_left
     .have r:=(nx n).2;obtain rfl:v=false:=by rw[<-hv];simp[bV,h,n]
      simp only[go_sem,cV,bR,ai aQ,g,r,ae,ao]
     subst n;cases H:gW (I m) b with
     |false=>
      have f:=l8 H;obtain rfl:v=false:=by rw[<-hv];simp[bV,h,H]
      simp only[go_sem,cV,bR,ai aQ,g,ai f,ae,ao]
     |true=>
      have f:=l8 H;simp only[go_sem,cV,bR,ai aQ,g,ai f,ae,ao];refine gY [3,4,7,172,178] λy q=>?_;simp only[go_sem,ai aQ,g,ai f]at q;by_cases hl:a<b
      rotate_left
      .obtain rfl:v=false:=by rw[<-hv];simp[bV,h,H,hl]
       simp only[go_sem,cV,bR,ai aQ,ai f,q,hl,ae,ao]
      obtain rfl:v:=by rw[<-hv];simp[bV,h,H,hl]
      simp only[go_sem,cV,bR,ai aQ,ai f,q,hl,ae,ao]
def aox:aC S 48 [.one (.p (df F m)),dp 5 a b c l o aP] (bK (bV F m 5 a b c l o aP)):=by
 obtain⟨v,hv⟩:∃v,bV F m 5 a b c l o aP=v:=⟨_,rfl⟩;rw[hv];refine bG yR ?_;simp only[go_sem,xi,cV,bR,ae,ao];refine gY [0,3,4,5,6,7,8,9,10,41] λM E=>?_;simp only[go_sem]at E;cases l with
 |true=>
  obtain rfl:v=false:=by rw[<-hv];simp[bV]
  simp only[go_sem,cV,bR,E,ae,ao]
 |false=>
  simp only[go_sem,cV,bR,E,ae,ao];refine gY [0,3,4,5,6,7,8,9,10,60] λT D=>?_;simp only[go_sem,E]at D;by_cases Q:aP=0
  .subst Q;obtain rfl:v=false:=by rw[<-hv];simp[bV]
   simp only[go_sem,cV,bR,D,ae,ao]
  by_cases r:aP=1
  rotate_left;by_cases x:aP= -1
  rotate_left
  .have u:=(nx Q).2;have y:=(rN r).2;have L:=(rN x).2;obtain rfl:v=false:=by rw[<-hv];simp[bV,Q,r,x]
   simp only[go_sem,cV,bR,D,u,y,L,ae,ao]
  .subst r;cases h:gW (I m) a with
   |false=>
    have aQ:=l8 h;obtain rfl:v=false:=by rw[<-hv];simp[bV,h]
    simp only[go_sem,cV,bR,D,ai aQ,ae,ao]
   |true=>
    have aQ:=l8 h;simp only[go_sem,cV,bR,D,ai aQ,ae,ao];refine gY [3,4,6,7,9,133] λN g=>?_;simp only[go_sem,D,ai aQ]at g;by_cases H:b=0
    rotate_left
    .have B:=(nx H).2;obtain rfl:v=false:=by rw[<-hv];simp[bV,h,H]
     simp only[go_sem,cV,bR,ai aQ,g,B,ae,ao]
    subst H;simp only[go_sem,cV,bR,ai aQ,g,ae,ao];refine gY [3,4,6,7,9,142] λR n=>?_;simp only[go_sem,ai aQ,g]at n;by_cases f:c=0
    rotate_left
    .have j:=(nx f).2;obtain rfl:v=false:=by rw[<-hv];simp[bV,h,f]
     simp only[go_sem,cV,bR,ai aQ,n,j,ae,ao]
    subst f;obtain rfl:v:=by rw[<-hv];simp[bV,h]
    simp only[go_sem,cV,bR,ai aQ,n,ae,ao]
  subst x;cases h:gW (I m) a with
  |false=>
   have aQ:=l8 h;obtain rfl:v=false:=by rw[<-hv];simp[bV,h]
   simp only[go_sem,cV,bR,D,ai aQ,ae,ao]
  |true=>
   have aQ:=l8 h;simp only[go_sem,cV,bR,D,ai aQ,ae,ao];refine gY [3,4,6,7,9,133] λz q=>?_;simp only[go_sem,D,ai aQ]at q;by_cases H:b=0
   rotate_left
   .have B:=(nx H).2;obtain rfl:v=false:=by rw[<-hv];simp[bV,h,H]
    simp only[go_sem,cV,bR,ai aQ,q,B,ae,ao]
   subst H;simp only[go_sem,cV,bR,ai aQ,q,ae,ao];refine gY [3,4,6,7,9,142] λO A=>?_;simp only[go_sem,ai aQ,q]at A;by_cases f:c=0
   rotate_left
   .have j:=(nx f).2;obtain rfl:v=false:=by rw[<-hv];simp[bV,h,f]
    simp only[go_sem,cV,bR,ai aQ,A,j,ae,ao]
   subst f;obtain rfl:v:=by rw[<-hv];simp[bV,h]
   simp only[go_sem,cV,bR,ai aQ,A,ae,ao]
end
end
section
attribute [local go_sem ↓] GY Fg
section
variable {F:Nat} {m:aI} {a b c:Int} {l o:Bool} {aP:Int}
def aeX:aC S 48 [.one (.p (df F m)),dp 7 a b c l o aP] (bK (bV F m 7 a b c l o aP)):=by
 obtain⟨v,hv⟩:∃v,bV F m 7 a b c l o aP=v:=⟨_,rfl⟩;rw[hv];refine bG yR ?_;simp only[go_sem,xi,cV,bR,ae,ao];refine gY [0,3,4,5,6,7,8,9,10,60] λu E=>?_;simp only[go_sem]at E;by_cases aa:aP=0
 rotate_left
 .have N:=(nx aa).1;have r:=(nx aa).2;obtain rfl:v=false:=by rw[<-hv];simp[bV,aa]
  simp only[go_sem,cV,bR,E,r,ae,ao]
 subst aa;cases h:gW (I m) a with
 |false=>
  have aQ:=l8 h;obtain rfl:v=false:=by rw[<-hv];simp[bV,h]
  simp only[go_sem,cV,bR,E,ai aQ,ae,ao]
 |true=>
  have aQ:=l8 h;simp only[go_sem,cV,bR,E,ai aQ,ae,ao];refine gY [3,4,6,7,9,142] λx D=>?_;simp only[go_sem,E,ai aQ]at D;by_cases j:c=0
  rotate_left
  .have n:=(nx j).2;obtain rfl:v=false:=by rw[<-hv];simp[bV,h,j]
   simp only[go_sem,cV,bR,ai aQ,D,n,ae,ao]
  subst j;cases H:gW (I m) b with
  |false=>
   have f:=l8 H;obtain rfl:v=false:=by rw[<-hv];simp[bV,h,H]
   simp only[go_sem,cV,bR,ai aQ,D,ai f,ae,ao]
  |true=>
   have f:=l8 H;simp only[go_sem,cV,bR,ai aQ,D,ai f,ae,ao];by_cases g:a=b
   .subst g;obtain rfl:v=false:=by rw[<-hv];simp[bV,h,H]
    simp only[go_sem,cV,bR,ai aQ,D,ai f,ae,ao]
   have q:=(rN g).2;obtain rfl:v:=by rw[<-hv];simp[bV,h,H,g]
   simp only[go_sem,cV,bR,ai aQ,D,ai f,q,ae,ao]
def aeo:aC S 48 [.one (.p (df F m)),dp 8 a b c l o aP] (bK (bV F m 8 a b c l o aP)):=by
 obtain⟨v,hv⟩:∃v,bV F m 8 a b c l o aP=v:=⟨_,rfl⟩;rw[hv];refine bG yR ?_;simp only[go_sem,xi,cV,bR,ae,ao];refine gY [0,3,4,5,6,7,8,9,10,41] λx n=>?_;simp only[go_sem]at n;cases l with
 |true=>
  obtain rfl:v=false:=by rw[<-hv];simp[bV]
  simp only[go_sem,cV,bR,n,ae,ao]
 |false=>
  simp only[go_sem,cV,bR,n,ae,ao];refine gY [0,3,4,5,6,7,8,9,10,53] λA D=>?_;simp only[go_sem,n]at D;cases o with
  |true=>
   obtain rfl:v=false:=by rw[<-hv];simp[bV]
   simp only[go_sem,cV,bR,D,ae,ao]
  |false=>
   simp only[go_sem,cV,bR,D,ae,ao];refine gY [0,3,4,5,6,7,8,9,10,60] λy E=>?_;simp only[go_sem,D]at E;by_cases aa:aP=0
   rotate_left
   .have N:=(nx aa).1;have u:=(nx aa).2;obtain rfl:v=false:=by rw[<-hv];simp[bV,aa]
    simp only[go_sem,cV,bR,E,u,ae,ao]
   subst aa;cases h:gW (I m) a with
   |false=>
    have aQ:=l8 h;obtain rfl:v=false:=by rw[<-hv];simp[bV,h]
    simp only[go_sem,cV,bR,E,ai aQ,ae,ao]
   |true=>
    have aQ:=l8 h;simp only[go_sem,cV,bR,E,ai aQ,ae,ao];cases H:gW (I m) b with
    |false=>
     have f:=l8 H;obtain rfl:v=false:=by rw[<-hv];simp[bV,h,H]
     simp only[go_sem,cV,bR,E,ai aQ,ai f,ae,ao]
    |true=>
     have f:=l8 H;cases j:gW (I m) c with
     |false=>
      have g:=l8 j;obtain rfl:v=false:=by rw[<-hv];simp[bV,h,H,j]
      simp only[go_sem,cV,bR,E,ai aQ,ai f,ai g,ae,ao]
     |true=>
      have g:=l8 j;simp only[go_sem,cV,bR,E,ai aQ,ai f,ai g,ae,ao];refine gY [3,4,7,172,178] λz q=>?_;simp only[go_sem,E,ai aQ,ai f,ai g]at q;by_cases hl:a<b
      rotate_left
      .obtain rfl:v=false:=by rw[<-hv];simp[bV,h,H,j,hl]
       simp only[go_sem,cV,bR,ai aQ,ai f,ai g,q,hl,ae,ao]
      by_cases r:b<c
      rotate_left
      .obtain rfl:v=false:=by rw[<-hv];simp[bV,h,H,j,hl,r]
       simp only[go_sem,cV,bR,ai aQ,ai f,ai g,q,hl,r,ae,ao]
      obtain rfl:v:=by rw[<-hv];simp[bV,h,H,j,hl,r]
      simp only[go_sem,cV,bR,ai aQ,ai f,ai g,q,hl,r,ae,ao]
def akB(k:Int):aC S 48 [.one (.p (df F m)),dp k a b c l o aP] (bK (bV F m k a b c l o aP)):=by
 by_cases r:k=1
 .subst r;exact KA U
 by_cases H:k=2
 .subst H;exact anD
 by_cases g:k=3
 .subst g;exact Zf U
 by_cases q:k=4
 .subst q;exact KA U
 by_cases v:k=5
 .subst v;exact aox
 by_cases j:k=6
 .subst j;exact Zf U
 by_cases u:k=7
 .subst u;exact aeX
 by_cases h:k=8
 .subst h;exact aeo
 by_cases n:k=9
 .subst n;exact KA U
 by_cases f:k=10
 .subst f;exact KA U
 rw[show bV F m k a b c l o aP=false by simp[bV,r,H,g,q,v,j,u,h,n,f]];have A:=(rN r).1;have N:=(rN H).1;have D:=(rN g).1;have M:=(rN q).1;have E:=(rN v).1;have B:=(rN j).1;have x:=(rN u).1;have y:=(rN h).1;have z:=(rN n).1;have L:=(rN f).1;refine bG yR ?_;simp only[go_sem,xi,cV,bR,A,N,D,M,E,B,x,y,z,L,ae,ao]
end
end
abbrev S_:dk:=[.p .tj,.p (.fn 74 [] []),.p (.fn 75 [] []),.p (.fn 76 [] []),.p (.fn 77 [] []),.p (.fn 78 [] []),.p (.fn 79 [] []),.p (.fn 80 [] []),.p (.fn 81 [] []),.p (.fn 82 [] []),.p (.fn 82 [] [])]
def anL(k:Int):0<=(iG k).1/\(iG k).1<=4/\0<=(iG k).2/\(iG k).2<=2:=by
 unfold iG;split
 .simp
 split
 .simp
 split<;>simp
def vJ(O:I m<=400)(fY:aF af.aJ m<=200){k:Nat}{R:dk}(E:S_.drop k=.p (.fn f [] [])::R)(py:k<11)(Fz:S.shared f=false){a b c:Int}{l o:Bool}{aP:Int}{r:Option cO}(ha:aC S 48 [.one (.p (df F m)),dp k a b c l o aP] (bK true))(Y:aC S f [.one (.p (df F m)),dp k a b c l o aP] (pZ r))(hL:∀L,r=some L->I L<=1000000):
  aC S 25 [.one (.p (df F m)),dp k a b c l o aP] (tQ F m k r):=by
 have qR:=aaP F;have n:=acJ k;have nW:S.lone 1600192384=false:=ah;have pG:S.lone 1600576128=false:=ah;have X:∀(blk:aB),d_ blk [] 1600192000 ((RV.agg [.p .tj,.p (.fn 74 [] []),.p (.fn 75 [] []),.p (.fn 76 [] []),.p (.fn 77 [] []),.p (.fn 78 [] []),.p (.fn 79 [] []),.p (.fn 80 [] []),.p (.fn 81 [] []),.p (.fn 82 [] []),.p (.fn 82 [] [])]).eU (S.lone 1600192000))=some (.agg S_,[]):=λblk=>by cases S.lone 1600192000<;>rfl
 have bd:=bR m;obtain⟨g1,M,Z,Q⟩:=anL k;have g:∀blk:aB,d_ blk [] 1600384128 ((RV.tup [.one (.p (.int .i64 (iG k).1)),.one (.p (.int .i64 (iG k).2))]).eU (S.lone 1600384128))=some (.tup [.one (.p (.int .i64 (iG k).1)),.one (.p (.int .i64 (iG k).2))],[]):=λblk=>bQ;obtain⟨H3,H4,A7⟩:∃x y,iG k=(x,y):=⟨_,_,rfl⟩;have d4:tQ F m k none=rm 4:=rfl;have N:∀L,((400:Int)<(I m:Int)+H3\/(100:Int)<((aF af.aJ m/2:Nat):Int)+H4)->tQ F m k (some L)=rm 7:=λL h=>by unfold tQ;rw[A7];exact aM h
 have d0:∀L,¬((400:Int)<(I m:Int)+H3\/(100:Int)<((aF af.aJ m/2:Nat):Int)+H4)->tQ F m k (some L)=s9 F (tP L):=λL h=>by unfold tQ;rw[A7];exact aD h
 rw[A7]at g1 M Z Q n;simp only[A7]at g;simp only at g1 M Z Q g n;have v:IntKind.i64.wrap ((I (a_ m):Int)+H3)=(I m:Int)+H3:=by rw[bd];exact j_ J J
 have A:IntKind.i64.wrap (((aF af.aJ m/2:Nat):Int)+H4)=((aF af.aJ m/2:Nat):Int)+H4:=j_ J J;unfold pZ at Y;generalize S_=kg at E X;refine bG NK ?_;simp only[go_sem,KQ,TP,ai ha,acW,fT adP (X _),E,py,Fz];refine Zg Y nW λcc bp w T D u=>?_;have b0:=D 1600000000 U;have B:=D 1600000064 U;simp only[go_sem]at b0 B;cases r with
 |none=>rw[d4];simp only[go_sem,b0,B];refine⟨?_,rfl⟩;rcases u with rfl|rfl<;>kernel_rfl
 |some L=>
  simp only[jV]at T;have j:=qR L (hL L rfl) (.sl (bX (a_ m))) (.sl (g_ (cZ F m))) (.sl (aS (gK F m))) (.int .i64 (aF af.aN m:Nat)) (.int .i64 ((aF af.aJ m/2:Nat):Int)) (.sl (aS (eF m F)));obtain⟨rs,ou,_⟩:=T.dS;by_cases H:(400:Int)<(I m:Int)+H3
  .rw[N L (.inl H)];simp only[go_sem,b0,B,CA,bl n (g _),v,A,H];refine⟨?_,rfl⟩;rcases u with rfl|rfl<;>kernel_rfl
  by_cases q:(100:Int)<((aF af.aJ m/2:Nat):Int)+H4
  .rw[N L (.inr q)];simp only[go_sem,b0,B,CA,bl n (g _),v,A,H,q];refine⟨?_,rfl⟩;rcases u with rfl|rfl<;>kernel_rfl
  rw[d0 L (by rintro(h|h);exact H h;exact q h)];simp only[go_sem,b0,B,CA,bl n (g _),v,A,H,q,ou,Xa];refine⟨?_,?_⟩
  .rcases u with rfl|rfl<;>kernel_rfl
  refine WE j pG rfl (abo _) λc2 aV sT bc=>?_;have z:=(bc 1600000064 U).trans B;simp only[go_sem,z];exact Zn (sT.of_eq (bo U))
def ap5{k a b c:Int}{l o:Bool}{aP:Int}(h:aC S 48 [.one (.p (df F m)),dp k a b c l o aP] (bK false)):aC S 25 [.one (.p (df F m)),dp k a b c l o aP] (rm 2):=by refine bG NK ?_;simp only[go_sem,KQ,TP,ai h,ae,ao];try rfl
structure MG {α:Type} (lt:α->α->Bool):Prop where
 asym:∀a b,lt a b->lt b a=false
 ntrans:∀a b c,lt b a=false->lt c b=false->lt c a=false
def ry{α:Type}(lt:α->α->Bool)(h:List α)(a b:Nat):Prop:=∀p q x y,a<=p->p<q->q<b->h[p]?=some x->h[q]?=some y->lt y x=false
structure uQ {α:Type} (lt:α->α->Bool) (zs ws:List α) (x:α) (a i j:Nat):Prop where
 perm:ws.Perm zs
 le:a<=j/\j<=i/\i<I ws
 at':ws[j]?=some x
 up:∀p y,j<p->p<=i->ws[p]?=some y->lt x y
 so:∀p q y z,a<=p->p<q->q<=i->p≠j->q≠j->ws[p]?=some y->ws[q]?=some z->lt z y=false
 out:∀p,p<a\/i<p->ws[p]?=zs[p]?
def uQ.start{α:Type}{lt:α->α->Bool}{zs:List α}{x:α}{a i:Nat}(j:a<=i)(h:zs[i]?=some x)(aa:ry lt zs a i):uQ lt zs zs x a i i:=
 ⟨.refl _,⟨j,cH _,(ct.1 h).1⟩,h,λp y H f=>J,λp q y z g H f m n=>aa p q y z g H J,λ_ _=>rfl⟩
def ais{α:Type}{h:List α}{i:Nat}{x y:α}(n:h[i]?=some x)(H:h[j]?=some y):((h.set i y).set j x).Perm h:=by obtain⟨g,E⟩:=ct.1 n;obtain⟨f,m⟩:=ct.1 H;have:=List.set_set_perm g f;rwa[E,m]at this
def uQ.step{α:Type}{lt:α->α->Bool}{zs h:List α}{x y:α}{a i:Nat}(o:MG lt)(D:uQ lt zs h x a i (j+1))(F:a<=j)(n:h[j]?=some y)(X:lt x y):
  uQ lt zs ((h.set (j+1) y).set j x) x a i j:=by
 obtain⟨hp,⟨_,R,hl⟩,M,Y,Z,T⟩:=D;have N:j<I h:=(ct.1 n).1;have get:∀p,((h.set (j+1) y).set j x)[p]?=if p=j then some x else if p=j+1 then some y else h[p]? :=λp=>by
  rw[lC,lC,jc];by_cases r:j=p
  .subst r;simp[N]
  by_cases E:j+1=p
  .subst E;have:¬(j+1=j):=J;rw[aD r,aM rfl,aM J,aD this,aM rfl]
  rw[aD r,aD E,aD (λD=>r D.symm),aD (λD=>E D.symm)]
 refine⟨(ais M n).trans hp,⟨F,J,by simp;omega⟩,by rw[get];simp,?_,?_,?_⟩
 .intro p z B m g;rw[get,aD J]at g;by_cases e:p=j+1
  .rw[aM e]at g;cases g;exact X
  rw[aD e]at g;exact Y p z J m g
 .intro p q u v A B m O L f H;rw[get,aD O]at f;rw[get,aD L]at H;by_cases e:p=j+1
  .rw[aM e]at f;cases f;rw[aD J]at H;exact Z j q _ _ F J m J J n H
  rw[aD e]at f;by_cases E:q=j+1
  .rw[aM E]at H;cases H;exact Z p j _ _ A J J e J f n
  rw[aD E]at H;exact Z p q _ _ A B m e E f H
 intro p Q;rw[get,aD J,aD J,T p Q]
def uQ.stop{α:Type}{lt:α->α->Bool}{zs h:List α}{x:α}{a i:Nat}(o:MG lt)(N:uQ lt zs h x a i j)(r:j=a\/ ∃y,a<j/\h[j-1]?=some y/\lt x y=false):ry lt h a (i+1):=by
 obtain⟨hp,⟨B,F,hl⟩,g,Y,z,M⟩:=N;intro p q u v n A L H f;by_cases e:q=j
 .subst e;rw[g]at f;cases f;rcases r with r|⟨y,T,m,Q⟩
  .omega
  by_cases D:p=q-1
  .subst D;rw[m]at H;cases H;exact Q
  exact o.ntrans _ _ _ (z p (q-1) _ _ n J J J J H m) Q
 by_cases E:p=j
 .subst E;rw[g]at H;cases H;exact o.asym _ _ (Y q v A J f)
 exact z p q u v n A J E e H f
def ry.mono{α:Type}{lt:α->α->Bool}{h:List α}{a b c:Nat}(n:ry lt h a c)(H:b<=c\/I h<=c):ry lt h a b:=λp q x y j g r m f=>n p q x y j g (by
 rcases H with H|H
 .omega
 have:=(ct.1 f).1;omega) m f
abbrev oI(a b:Int):Bool:=decide (a<b)
def St:MG oI:=⟨λa b h=>by simp at*;omega,λa b c h k=>by simp at*;omega⟩
def apv(a:Int):aC S 205 [aq a] (bK false):=by refine bG ajx ?_;have h:(a !=a)=false:=aG;simp only[go_sem,ZT,h,ae,ao]
def arl(a b:Int):aC S 185 [aq a,aq b] (bK (oI a b)):=by have f:=apv a;refine bG alZ ?_;simp only[go_sem,Xm,aiW,ai f,oI,ae,ao]
def Ow(n:Nat)(h:n<=1000000):∃k:Int,aC S 100 [.one (.p (.int .u64 n))] (fy k):=by
 refine⟨((Lib.bitLen n:Nat):Int),⟨1,?_⟩⟩;have hp:S.prim 100 [.one (.p (.int .u64 (n:Int)))]=some (some (fy ((Lib.bitLen n:Nat):Int))):=by show some (HM [.one (.p (.int .u64 (n:Int)))])=_;simp only[HM];rw[aM ⟨J,J⟩];rfl
 rw[iu,hp]
def Sh(o:cS)(k:Nat)(v:Int):(dz o).set k [.int .i64 v]=dz (o.set k v):=by simp[tK]
def mD(o:cS):I (dz o)=I o:=cT _
def z_(lt:Int->Int->Bool)(id g u:Nat)(n:cS)(blk:aB)(v:V)(A:aB):Prop:=v=.tup []/\(∃h:cS,A id=(g,some (.arr u 1 (dz h)))/\h.Perm n/\ry lt h 0 (I h))/\c8 (· =id) blk A
def aol{al:bP}{blk:aB}{id:Nat}(o:al.ok id)(hl:I n<=1000000)(hC:blk id=(g,some (.arr u 1 (dz n)))):
  ∃v f,ia S 179 [.one (.hsl id g 1 0 (I n)),aq 0,aq (I n)] al blk v f/\z_ oI id g u n blk v f:=by
 refine mU ah3 (gU rfl) ?_;have w0:IntKind.i64.wrap (0+1)=((0+1:Nat):Int):=U;simp only[go_sem,Y4,w0,ae,ao];refine cD (λk A f=>A 0=.one (.hsl id g 1 0 (I n))/\A 1=aq 0/\A 2=aq (I n)/\A 6=aq ((k+1:Nat):Int)/\ ∃zs:cS,f id=(g,some (.arr u 1 (dz zs)))/\zs.Perm n/\ry oI zs 0 (k+1)/\c8 (· =id) blk f) 0 (I n) (bC _) ?_ ?_
 .simp only[go_sem];exact⟨rfl,n,hC,.refl _,λp q x y _ B r=>J,c8.refl _ _⟩
 rintro k A bp hk ⟨L,B,r,h6,zs,hZ,hp,aa,cR⟩
 have mI:=hp.length_eq;by_cases au:k+1<I n
 .have M:((k+1:Nat):Int)<(I n:Int):=J;obtain⟨x,hx⟩:=bq (h:=zs) (k:=k+1) J;simp only[go_sem,Ol,L,B,r,h6,M,ae,ao];refine cD (λq A f=>A 0=.one (.hsl id g 1 0 (I n))/\A 1=aq 0/\A 2=aq (I n)/\A 6=aq ((k+1:Nat):Int)/\A 7=aq ((k+1-q:Nat):Int)/\ ∃h:cS,f id=(g,some (.arr u 1 (dz h)))/\uQ oI zs h x 0 (k+1) (k+1-q)/\c8 (· =id) blk f) 0 (k+1) (bC _) ?_ ?_
  .simp only[go_sem,L,B,r,h6];exact⟨zs,hZ,uQ.start (bC _) hx aa,cR⟩
  rintro q cF aV hq ⟨O,F,k2,Y,z,h,N,H,Z⟩
  have nj:I h=I n:=H.perm.length_eq.trans mI;have R:IntKind.i64.wrap (((k+1:Nat):Int)+1)=((k+1+1:Nat):Int):=bJ (n:=k+1) J;by_cases ab:k+1-q=0
  .have E:¬((0:Int)<((k+1-q:Nat):Int)):=J;simp only[go_sem,Ju,M7,O,F,k2,Y,z,E,R,ae,ao];refine⟨aw,J,h,N,H.perm.trans hp,H.stop St (.inl ab),Z⟩
  obtain⟨j,hj⟩:∃j,k+1-q=j+1:=⟨k-q,J⟩;have E:((0:Int)<((j+1:Nat):Int)):=J;obtain⟨y,X⟩:=bq (h:=h) (k:=j) J;rw[hj]at H z;have wj:IntKind.i64.wrap (((j+1:Nat):Int)-1)=(j:Int):=by rw[oe J];omega
  have kY:=sQ H.at';have th:=sQ X;have j1:j+1<I n:=by have:=H.le;omega
  have j2:j<I n:=J;have D:=arl x y;cases Q:oI x y with
  |false=>rw[Q]at D;simp only[go_sem,Ju,M7,O,F,k2,Y,z,E,R,wj,N,kY,th,j1,j2,o,XK,JU D,ae,ao];refine⟨aw,J,h,rfl,H.perm.trans hp,H.stop St (.inr ⟨y,J,X,Q⟩),Z⟩
  |true=>rw[Q]at D;have tY:=H.step St (bC _) X Q;have T:¬(j+1=j):=J;have l1:j+1<I h:=J;have l2:j<I h:=J;simp only[go_sem,Ju,M7,O,F,k2,Y,z,E,R,wj,N,kY,th,j1,j2,l1,l2,T,o,XK,JU D,lC,jc,mD,ae,ao];have IZ:k+1-(q+1)=j:=J;refine⟨aw,aw,J,by rw[IZ],(h.set (j+1) y).set j x,by rw[Sh,Sh],by rw[IZ];exact tY,(Z.cQ rfl _).cQ rfl _⟩
 have M:¬(((k+1:Nat):Int)<(I n:Int)):=J;simp only[go_sem,Ol,L,B,r,h6,M,ae,ao];exact⟨rfl,⟨zs,hZ,hp,aa.mono (.inl J)⟩,cR⟩
def tJ{Q:fp}{al:bP}{m:bD}{blk:aB}{os:en}{d:my}{id z o N:Nat}{j:c7}{n:dC}{P:V->aB->Prop}(q:blk id=(g,some (.arr u z n)))(O:(j.map (kr blk)).flatten=[])(x:al=.all\/al.ok id/\(S.sites f).all al.fs.contains)
  (h:∀L,L.ok id->L.fs=S.sites f->∃v A,ia S f (.one (.hsl id g z o N)::j) L blk v A/\P v A)
  (y:∀v A,P v A->gV S al os Q (dx m d v) A):iM S al (.sc f (.one (.hsl id g z o N)::j)) d os Q m blk:=by
 have H:((V.one (.hsl id g z o N)::j).map (kr blk)).flatten=[id]:=by rw[ew,kT,O,RF q];rfl
 refine sf (P:=P) ?_ (h _ (wY (by rw[H];simp)) rfl) y;rcases x with rfl|⟨B,r⟩
 .rfl
 refine GL ?_ r;show al.fG ((V.one (.hsl id g z o N)::j).map (kr blk)).flatten=true;rw[H];simp[bP.fG,B]
def alY{al:bP}{blk:aB}{id:Nat}(o:al.ok id)(F:al.fs.contains 179)(hl:I n<=12)(h:blk id=(g,some (.arr u 1 (dz n))))(L:Int):
  ∃v A,ia S 156 [.one (.hsl id g 1 0 (I n)),aq 0,aq (I n),aq L] al blk v A/\z_ oI id g u n blk v A:=by
 refine mU aqt (gU rfl) ?_;have f:IntKind.i64.wrap ((I n:Int)-0)=(I n:Int):=by rw[Int.sub_zero];exact j_ J J
 have m:(I n:Int)<=12:=J;simp only[go_sem,Z6,ae,ao];refine mu ?_;simp only[go_sem,acp,f,m,aen,ae,ao];refine tJ h (by rfl) (.inr ⟨o,by rw[show S.sites 179=[179] by kernel_rfl];simp only[oQ,qF,F,Ba]⟩) (P:=z_ oI id g u n blk) (λr q _=>aol q J h) λv A j=>?_;obtain⟨rfl,H⟩:=j;simp only[go_sem,ae,ao];exact⟨rfl,H⟩
def TE{al:bP}{blk:aB}{id:Nat}(o:al.ok id)(F:(S.sites 156).all al.fs.contains)(hl:I n<=12)(H:blk id=(g,some (.arr u 1 (dz n)))):
  ∃v A,ia S 101 [.one (.hsl id g 1 0 (I n))] al blk v A/\z_ oI id g u n blk v A:=by
 obtain⟨k,r⟩:=Ow (I n) J;have m:IntKind.u64.wrap (I n:Int)=(I n:Int):=by
  have e:IntKind.u64.wrap (I n:Int)=(I n:Int)%18446744073709551616:=by unfold IntKind.wrap;rfl
  rw[e];omega
 refine mU agN (gU rfl) ?_;have f:S.shared 100=false:=ah;simp only[go_sem,VU,m,f,Uv r,aeO,ae,ao];refine tJ H (by rfl) (.inr ⟨o,F⟩) (P:=z_ oI id g u n blk) (λL q h=>alY q (by rw[h];kernel_rfl) hl H k) λv A j=>?_;obtain⟨rfl,h⟩:=j;simp only[go_sem,ae,ao];exact⟨rfl,h⟩
def ko(h:cS):Nat->cS
 |0=>[]
 |k+1=>match h[k]? with
  |some x=>if 0<k/\h[k-1]?=some x then ko h k else ko h k++[x]
  |none=>ko h k
def W5(h:cS):∀k,I (ko h k)<=k:=by
 intro k
 induction k with
 |zero=>exact cH _
 |succ k f=>
  unfold ko;split
  .split
   .omega
   simp;omega
  omega
def Uw{k:Nat}(H:h[k+1]?=some x)(hp:h[k]?=some x):ko h (k+2)=ko h (k+1):=by
 conv=>lhs;unfold ko
 rw[H];simp[hp]
def T5{k:Nat}(f:h[k+1]?=some x)(hp:h[k]?=some y)(H:¬x=y):ko h (k+2)=ko h (k+1)++[x]:=by
 conv=>lhs;unfold ko
 rw[f];have:¬y=x:=λe=>H e.symm;simp[hp,this]
def aok(H:h[0]?=some x):ko h 1=[x]:=by simp[ko,H]
def J6(h:cS)(k:Nat):Prop:=∀i x y,i+1<k->h[i]?=some x->h[i+1]?=some y-> ¬y=x
def NT:∀k,k<=I h->J6 h k->ko h k=h.take k:=by
 intro k
 induction k with
 |zero=>intro _ _;rfl
 |succ k j=>
  intro q n;obtain⟨x,H⟩:=bq (h:=h) (k:=k) J;have e:=j J λi x y r=>n i x y J;have g:h.take (k+1)=h.take k++[x]:=by rw[jN,H];rfl
  rcases k with _|k
  .rw[aok H,g];rfl
  obtain⟨y,f⟩:=bq (h:=h) (k:=k) J;rw[T5 H f (n k y x J f H),e,g]
structure uC (ws cs:cS) (k q:Nat):Prop where
 len:I cs=I ws
 kl:k=I (ko ws q)
 pre:cs.take k=ko ws q
 out:∀p,q-1<=p->cs[p]?=ws[p]?
 kq:k<q
def uC.step{k:Nat}(z:uC h r k (q+1))(H:h[q+1]?=some x)(f:h[q]?=some y)(g:¬x=y):uC h (r.set k x) (k+1) (q+2):=by
 obtain⟨n,j,u,m,A⟩:=z;have hl:=W5 h (q+1);have v:q+1<I h:=(ct.1 H).1;refine⟨by simpa using n,by rw[T5 H f g,ep,<-j];rfl,?_,λp hp=>?_,J⟩
 .rw[T5 H f g,jN,lC];have:k<I r:=J;rw[aM rfl,aM this,T9 (cH _),u];rfl
 rw[lC,aD J];exact m p J
def uC.skip{k:Nat}(u:uC h r k (q+1))(f:h[q+1]?=some x)(H:h[q]?=some x):uC h r k (q+2):=by obtain⟨m,g,n,j,v⟩:=u;exact⟨m,by rw[Uw f H];exact g,by rw[Uw f H];exact n,λp hp=>j p J,J⟩
def uC.start{k:Nat}(g:k+1<I h)(j:J6 h (k+1))(f:h[k+1]?=some x)(H:h[k]?=some x):uC h h (k+1) (k+2):=by have e:=NT (k+1) J j;have E:ko h (k+2)=h.take (k+1):=(Uw f H).trans e;exact⟨rfl,by rw[E];simp;omega,by rw[E],λ_ _=>rfl,J⟩
def Ot(id g u:Nat)(h:cS)(blk:aB)(v:V)(A:aB):Prop:=v=.one (.hsl id g 1 0 (I (ko h (I h))))/\(∃r:cS,A id=(g,some (.arr u 1 (dz r)))/\I r=I h/\r.take (I (ko h (I h)))=ko h (I h))/\c8 (· =id) blk A
def apM{k:Nat}(h:k<=I r):List.take k (dz r)++List.replicate (I r-k) [PV.int .i64 0]++List.drop (k+(I r-k)) (dz r)=dz (r.take k++List.replicate (I r-k) 0):=by rw[Jn (by simp;omega),jE];simp only[dz,q_,List.map_replicate,GN]
def ads{al:bP}{blk:aB}{id:Nat}(o:al.ok id)(hl:I h<=1000000)(B:blk id=(g,some (.arr u 1 (dz h)))):
  ∃v f,ia S 118 [.one (.hsl id g 1 0 (I h))] al blk v f/\Ot id g u h blk v f:=by
 refine mU amm (gU rfl) ?_;by_cases h2:I h<2
 .have gk:((I h:Int)<2):=J;have F:J6 h (I h):=λi x y av=>J;have e:=NT (I h) (cH _) F;rw[iV]at e;simp only[go_sem,Tw,gk,ae,ao];exact⟨by rw[e],⟨h,B,rfl,by rw[e,iV]⟩,c8.refl _ _⟩
 have gk:¬((I h:Int)<2):=J;simp only[go_sem,Tw,gk,ae,ao];refine cD (λq A f=>A 0=.one (.hsl id g 1 0 (I h))/\A 3=aq ((q+1:Nat):Int)/\J6 h (q+1)/\f=blk) 0 (I h) (bC _) ?_ ?_
 .simp only[go_sem];exact⟨rfl,λi x y av=>J⟩
 rintro q A bp hq ⟨N,L,F,rfl⟩
 by_cases M:q+1<I h
 .have D:(((q+1:Nat):Int)<(I h:Int)):=J;obtain⟨x,hx⟩:=bq (h:=h) (k:=q+1) M;obtain⟨y,hy⟩:=bq (h:=h) (k:=q) J;have kY:=sQ hx;have th:=sQ hy;have wj:IntKind.i64.wrap (((q+1:Nat):Int)-1)=(q:Int):=by rw[oe J];omega
  have wk:=bJ (n:=q+1) J;have q1:q<I h:=J;have q2:q+1<=I h:=J;by_cases e:x=y
  .subst e;simp only[go_sem,Mp,N,L,M,D,kY,th,wj,q1,q2,B,o,ae,ao];refine⟨aw,?_⟩;refine cD (λR A f=>A 0=.one (.hsl id g 1 0 (I h))/\A 4=.one (.hsl id g 1 (q+1) (I h-(q+1)))/\A 5=aq ((R+1:Nat):Int)/\ ∃(r:cS) (k:Nat),A 3=aq (k:Nat)/\f id=(g,some (.arr u 1 (dz r)))/\uC h r k (q+2+R)/\q+2+R<=I h/\c8 (· =id) bp f) 0 (I h) (bC _) ?_ ?_
   .simp only[go_sem,N];exact⟨rfl,h,q+1,L,B,uC.start M F hx hy,J,c8.refl _ _⟩
   rintro R cF aV hr ⟨k0,k4,T,r,k,O,hB,H,ap,Z⟩
   have dt:=H.len;have dq:=H.kl;have an:=W5 h (q+2+R);have ar:=H.kq;have j:uC h r k (q+1+R+1):=by rw[show q+1+R+1=q+2+R by omega];exact H
   by_cases xZ:R+1<I h-(q+1)
   .have X:(((R+1:Nat):Int)<((I h-(q+1):Nat):Int)):=J;obtain⟨ab,hu⟩:=bq (h:=h) (k:=q+1+(R+1)) J;obtain⟨v,hv⟩:=bq (h:=h) (k:=q+1+R) J;have cu:=sQ ((H.out (q+1+(R+1)) J).trans hu);have cv:=sQ ((H.out (q+1+R) J).trans hv);have wr:IntKind.i64.wrap (((R+1:Nat):Int)-1)=(R:Int):=by rw[oe J];omega
    have GF:=bJ (n:=R+1) J;have ad:=bJ (n:=k) J;have r1:R<I h-(q+1):=J;have kk:k<I h:=J;have Bu:k<I r:=J;obtain⟨z,hz⟩:=bq Bu;have cz:=sQ hz;by_cases E:ab=v
    .subst E;have Y:(ab !=ab)=false:=aG;have tY:=j.skip (by rw[show q+1+R+1=q+1+(R+1) by omega];exact hu) hv;simp only[go_sem,LF,k0,k4,T,O,xZ,X,r1,hB,cu,cv,wr,GF,Y,o,ae,ao];refine⟨aw,J,r,k,rfl,rfl,by rw[show q+2+(R+1)=q+1+R+2 by omega];exact tY,J,Z⟩
    have Y:=(show(ab !=v)=true by simp[E]);simp only[go_sem,LF,k0,k4,T,O,xZ,X,r1,hB,cu,cv,wr,GF,ad,kk,Bu,cz,Y,o,mD,ae,ao];have tY:=j.step (by rw[show q+1+R+1=q+1+(R+1) by omega];exact hu) hv E;refine⟨aw,J,r.set k ab,k+1,rfl,by rw[Sh],by rw[show q+2+(R+1)=q+1+R+2 by omega];exact tY,J,Z.cQ rfl _⟩
   have X:¬(((R+1:Nat):Int)<((I h-(q+1):Nat):Int)):=J;have ag:k<=I h:=J;have am:k+(I h-k)<=I r:=J;have aY:¬(I h-k=0):=J;have CQ:q+2+R=I h:=J;rw[CQ]at H;have mg:=apM (r:=r) (k:=k) J;rw[dt]at mg;simp only[go_sem,LF,Yp,k0,k4,T,O,X,hB,o,ag,am,aY,GB,mD,mg,ae,ao];obtain⟨i1,i2,i3,i4,i5⟩:=H;refine⟨by rw[<-i2],⟨_,oJ,by simp;omega,?_⟩,Z.cQ rfl _⟩;rw[<-i2,List.take_left' (by simp;omega),i3]
  have e1:=(show(x==y)=false by simp[e]);simp only[go_sem,Mp,ac6,N,L,M,D,kY,th,wj,wk,q1,B,o,e1,ae,ao];refine⟨aw,λi ab v av Q h5=>?_⟩;by_cases E:i=q
  .subst E;rw[hy]at Q;rw[hx]at h5;cases Q;cases h5;exact e
  exact F i ab v J Q h5
 have D:¬(((q+1:Nat):Int)<(I h:Int)):=J;have e:=NT (I h) (cH _) (λi x y av=>F i x y J);rw[iV]at e;simp only[go_sem,Mp,Zh,N,L,D,ae,ao];exact⟨by rw[e],⟨h,B,rfl,by rw[e,iV]⟩,c8.refl _ _⟩
end
end Go.Abs
